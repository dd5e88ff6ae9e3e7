/-
  Numbers of 64 bits without a sign, as naturals.
-/
import Derived.Test.YtbbhcffkleplnaaHu
import Derived.Test.YtbbhcffkleplnaaHw
namespace Go.Proofs.Ytbbhcffkleplnaa
namespace Hx
open Go Go.RowKit
set_option linter.unusedVariables false
set_option linter.unusedSimpArgs false
theorem wrapN {n : Nat} (h : n < 18446744073709551616) : IntKind.u64.wrap (n : Int) = n := by rw [IntKind.wrap_u64]; omega
section
variable {P : Program} {N : Fr} {B : Nat} {w0 : World} {al : AL} {H : HL} {ty : TypeId} {x y : Operand} {t t' : TypeId} {a b : Nat} {k : IntKind}
theorem r_addN (hx : ev al x = some (.int .u64 (a : Int))) (hy : ev al y = some (.int .u64 (b : Int))) (h : a + b < 18446744073709551616) : Runs P N B w0 (.binOp .add t x y t') ty al H (.int .u64 ((a + b : Nat) : Int)) :=
  r_addg _ hx hy (by rw [← Int.natCast_add]; exact wrapN h)
theorem r_mulN (hx : ev al x = some (.int .u64 (a : Int))) (hy : ev al y = some (.int .u64 (b : Int))) (h : a * b < 18446744073709551616) : Runs P N B w0 (.binOp .mul t x y t') ty al H (.int .u64 ((a * b : Nat) : Int)) :=
  r_mulg _ hx hy (by rw [← Int.natCast_mul]; exact wrapN h)
theorem r_subN (hx : ev al x = some (.int .u64 (a : Int))) (hy : ev al y = some (.int .u64 (b : Int))) (h : b ≤ a) (h2 : a < 18446744073709551616) : Runs P N B w0 (.binOp .sub t x y t') ty al H (.int .u64 ((a - b : Nat) : Int)) :=
  r_subg _ hx hy (by rw [← Int.ofNat_sub h]; exact wrapN (by omega))
theorem r_quoN (hx : ev al x = some (.int .u64 (a : Int))) (hy : ev al y = some (.int .u64 (b : Int))) (h : 0 < b) (h2 : a < 18446744073709551616) : Runs P N B w0 (.binOp .quo t x y t') ty al H (.int .u64 ((a / b : Nat) : Int)) := by
  have h3 : a / b ≤ a := Nat.div_le_self _ _
  exact r_quog hx hy (Int.natCast_nonneg _) (by omega) (by rw [← Int.natCast_ediv]; exact wrapN (by omega))
theorem r_remN (hx : ev al x = some (.int .u64 (a : Int))) (hy : ev al y = some (.int .u64 (b : Int))) (h : 0 < b) (h2 : a < 18446744073709551616) : Runs P N B w0 (.binOp .rem t x y t') ty al H (.int .u64 ((a % b : Nat) : Int)) := by
  have h3 : a % b ≤ a := Nat.mod_le _ _
  exact r_remg hx hy (Int.natCast_nonneg _) (by omega) (by rw [← Int.natCast_emod]; exact wrapN (by omega))
theorem r_and32N (hx : ev al x = some (.int .u64 (a : Int))) (hy : ev al y = some (.int .u64 4294967295)) (h : a < 18446744073709551616) : Runs P N B w0 (.binOp .and t x y t') ty al H (.int .u64 ((a % 4294967296 : Nat) : Int)) :=
  r_and32 _ hx hy (Int.natCast_nonneg _) (by omega) (by omega)
theorem r_shr32N (hx : ev al x = some (.int .u64 (a : Int))) (hy : ev al y = some (.int .u64 32)) : Runs P N B w0 (.binOp .shr t x y t') ty al H (.int .u64 ((a / 4294967296 : Nat) : Int)) :=
  r_shr32 _ hx hy (Int.natCast_nonneg _) (by omega)
theorem r_shrN (s : Nat) {n : Int} (hx : ev al x = some (.int .u64 (a : Int))) (hy : ev al y = some (.int k n)) (hn : n = s) (hs : s ≤ 64) : Runs P N B w0 (.binOp .shr t x y t') ty al H (.int .u64 ((a / 2 ^ s : Nat) : Int)) := fun ac w hst => by
  subst hn
  have h2 : (a : Int).fdiv (2 ^ s) = ((a / 2 ^ s : Nat) : Int) := by
    rw [Int.fdiv_eq_ediv_of_nonneg _ (Int.pow_nonneg (by decide)), Int.natCast_ediv, Int.natCast_pow]; rfl
  have h3 : min s IntKind.u64.bits = s := Nat.min_eq_left hs
  have h4 : ¬((s : Int) < 0) := by omega
  simp only [execOp, hst.regs.eval hx, hst.regs.eval hy, binOp_shr, Op.shift, eqGuard_shr, if_neg h4, Int.toNat_natCast, h3, h2, Sem.run_bind, Sem.run_pure, Result.andThen_ok]
theorem r_shlN (s : Nat) {n : Int} (hx : ev al x = some (.int .u64 (a : Int))) (hy : ev al y = some (.int k n)) (hn : n = s) (hs : s ≤ 64) (v : Nat) (hv : a * 2 ^ s % 18446744073709551616 = v) : Runs P N B w0 (.binOp .shl t x y t') ty al H (.int .u64 (v : Int)) := fun ac w hst => by
  subst hn
  have h2 : IntKind.u64.wrap ((a : Int) * 2 ^ s) = (v : Int) := by
    rw [IntKind.wrap_u64, ← hv, Int.natCast_emod, Int.natCast_mul, Int.natCast_pow]; rfl
  have h3 : min s IntKind.u64.bits = s := Nat.min_eq_left hs
  have h4 : ¬((s : Int) < 0) := by omega
  simp only [execOp, hst.regs.eval hx, hst.regs.eval hy, binOp_shl, Op.shift, eqGuard_shl, if_neg h4, Int.toNat_natCast, h3, h2, Sem.run_bind, Sem.run_pure, Result.andThen_ok]
theorem r_orN (s c : Nat) (hx : ev al x = some (.int .u64 (a : Int))) (hy : ev al y = some (.int .u64 (b : Int))) (ha : a = c * 2 ^ s) (hb : b < 2 ^ s) (h1 : a < 18446744073709551616) (h2 : b < 18446744073709551616) : Runs P N B w0 (.binOp .or t x y t') ty al H (.int .u64 ((a + b : Nat) : Int)) := fun ac w hst => by
  have h3 : bits .or .u64 (a : Int) (b : Int) = ((a + b : Nat) : Int) := by
    rw [bits_or_u64_nat a b h1 h2, ha, Nat.mul_comm, Nat.two_pow_add_eq_or_of_lt hb]
  simp only [execOp, hst.regs.eval hx, hst.regs.eval hy, eqGuard_or, binOp_or, intBits_or, h3, Sem.run_bind, Sem.run_pure, Result.andThen_ok]
theorem r_convN {src dst : TypeId} {k1 k2 : IntKind} (hx : ev al x = some (.int k1 (a : Int))) (hs : (P.underlying src).isSome = true) (hd : P.underlying dst = some (.int k2)) (hw : k2.wrap (a : Int) = a) :
    Runs P N B w0 (.convert src dst x) ty al H (.int k2 (a : Int)) := r_convg _ hx hs hd hw
end
end Hx
end Go.Proofs.Ytbbhcffkleplnaa
