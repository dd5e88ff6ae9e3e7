/-
  Numbers of any kind: sums, products, quotients, masks and shifts whose value is told.
-/
import Derived.Test.YtogcclagmobkiaaHx2
import Derived.Test.YtogcclagmobkiaaHx3
import Derived.Laws.Bits64b
namespace Go.Proofs.Ytogcclagmobkiaa
namespace Hx
open Go Go.RowKit
set_option linter.unusedVariables false
set_option linter.unusedSimpArgs false
section
variable {P : Program} {N : Fr} {B : Nat} {w0 : World} {al : AL} {H : HL} {ty : TypeId} {x y : Operand} {t t' : TypeId} {m n : Int} {k : IntKind}
theorem r_addg (v : Int) (hx : ev al x = some (.int k m)) (hy : ev al y = some (.int k n)) (hw : k.wrap (m + n) = v) : Runs P N B w0 (.binOp .add t x y t') ty al H (.int k v) := fun a w hst => by
  simp [execOp, hst.regs.eval hx, hst.regs.eval hy, eqGuard_add, binOp_add, Op.intArith, hw]
theorem r_subg (v : Int) (hx : ev al x = some (.int k m)) (hy : ev al y = some (.int k n)) (hw : k.wrap (m - n) = v) : Runs P N B w0 (.binOp .sub t x y t') ty al H (.int k v) := fun a w hst => by
  simp [execOp, hst.regs.eval hx, hst.regs.eval hy, eqGuard_sub, binOp_sub, Op.intArith, hw]
theorem r_mulg (v : Int) (hx : ev al x = some (.int k m)) (hy : ev al y = some (.int k n)) (hw : k.wrap (m * n) = v) : Runs P N B w0 (.binOp .mul t x y t') ty al H (.int k v) := fun a w hst => by
  simp [execOp, hst.regs.eval hx, hst.regs.eval hy, eqGuard_mul, binOp_mul, Op.intArith, hw]
theorem r_negg (v : Int) (hx : ev al x = some (.int k m)) (hw : k.wrap (-m) = v) : Runs P N B w0 (.unOp .neg t x) ty al H (.int k v) := fun a w hst => by
  simp [execOp, hst.regs.eval hx, Op.unary, Op.intArith, hw]
theorem r_quog (hx : ev al x = some (.int k m)) (hy : ev al y = some (.int k n)) (h0 : 0 ≤ m) (h1 : 0 < n) (hw : k.wrap (m / n) = m / n) : Runs P N B w0 (.binOp .quo t x y t') ty al H (.int k (m / n)) := fun a w hst => by
  have h3 : m.tdiv n = m / n := Int.tdiv_eq_ediv_of_nonneg h0
  simp [execOp, hst.regs.eval hx, hst.regs.eval hy, eqGuard_quo, binOp_quo, Op.intDiv, show n ≠ 0 by omega, h3, hw]
theorem r_remg (hx : ev al x = some (.int k m)) (hy : ev al y = some (.int k n)) (h0 : 0 ≤ m) (h1 : 0 < n) (hw : k.wrap (m % n) = m % n) : Runs P N B w0 (.binOp .rem t x y t') ty al H (.int k (m % n)) := fun a w hst => by
  have h3 : m.tmod n = m % n := Int.tmod_eq_emod_of_nonneg h0
  simp [execOp, hst.regs.eval hx, hst.regs.eval hy, eqGuard_rem, binOp_rem, Op.intDiv, show n ≠ 0 by omega, h3, hw]
theorem mask32 {m : Int} (h0 : 0 ≤ m) (h1 : m < 18446744073709551616) : bits .and .u64 m 4294967295 = m % 4294967296 := by
  obtain ⟨a, rfl⟩ := Int.eq_ofNat_of_zero_le h0
  have h := bits_and_u64_nat a 4294967295 (by omega) (by omega)
  have e : a &&& 4294967295 = a % 4294967296 := Nat.and_two_pow_sub_one_eq_mod a 32
  rw [e] at h
  exact h
theorem r_and32 (v : Int) (hx : ev al x = some (.int .u64 m)) (hy : ev al y = some (.int .u64 4294967295)) (h0 : 0 ≤ m) (h1 : m < 18446744073709551616) (hv : m % 4294967296 = v) : Runs P N B w0 (.binOp .and t x y t') ty al H (.int .u64 v) := fun a w hst => by
  simp only [execOp, hst.regs.eval hx, hst.regs.eval hy, eqGuard_and, binOp_and, intBits_and, mask32 h0 h1, hv, Sem.run_bind, Sem.run_pure, Result.andThen_ok]
theorem r_shr32 (v : Int) (hx : ev al x = some (.int .u64 m)) (hy : ev al y = some (.int .u64 32)) (h0 : 0 ≤ m) (hv : m / 4294967296 = v) : Runs P N B w0 (.binOp .shr t x y t') ty al H (.int .u64 v) := fun a w hst => by
  have h2 : m.fdiv (2 ^ 32) = m / 4294967296 := Int.fdiv_eq_ediv_of_nonneg m (by decide)
  simp [execOp, hst.regs.eval hx, hst.regs.eval hy, binOp_shr, Op.shift, eqGuard_shr]
  have h3 : min 32 IntKind.u64.bits = 32 := rfl
  rw [h3, h2, hv]
theorem r_convg {src dst : TypeId} {k1 k2 : IntKind} (v : Int) (hx : ev al x = some (.int k1 m)) (hs : (P.underlying src).isSome = true) (hd : P.underlying dst = some (.int k2)) (hw : k2.wrap m = v) :
    Runs P N B w0 (.convert src dst x) ty al H (.int k2 v) := fun a w hst => by
  obtain ⟨d1, h1⟩ := Option.isSome_iff_exists.1 hs
  simp only [execOp, hst.regs.eval hx, convert, Sem.run_bind, run_underlying h1, run_underlying hd, Result.andThen_ok, Conv.intToInt, Sem.run_pure]
  cases d1 <;> simp [hw]
theorem wrapu_neg {m : Int} (h : -9223372036854775808 ≤ m ∧ m < 0) : IntKind.u64.wrap m = m + 18446744073709551616 := by rw [IntKind.wrap_u64]; omega
theorem wrapu_negneg {m : Int} (h : -9223372036854775808 ≤ m ∧ m < 0) : IntKind.u64.wrap (-(m + 18446744073709551616)) = -m := by rw [IntKind.wrap_u64]; omega
end
/-- A literal of some elements of any size. -/
theorem ol_bsG {P : Program} {N : Fr} {B : Nat} {w0 : World} {al : AL} {H : HL} {ops rest : List Oper} {Q : Exit → Act → World → Prop} {ty : TypeId} {pos : String} {after : Array Edge} {d : Nat} {t e : TypeId} {bytes len size : Nat} {parts : List (Nat × Operand)} {pv : List (Nat × Value)} (cs : List Value) (id : Nat) (hp : evp al parts = some pv) (hT : RowT P t e size bytes) (hl : Nat.beq cs.length (len * size) = true) (hsm : Nat.ble len 9223372036854775807 = true)
    (hrun : ∀ w, (Instr.buildSlice t len pv.toArray).run P w = .ok (.slice (some ⟨w.heap.size, 0, none⟩) len len) (w.alloc (.cells cs.toArray e))) (hd : Nat.blt d N.n = true)
    (k : ∀ a', OL P N B w0 ops rest Q ((d, .slice a' len len) :: al) ((id, .row a' len len cs e size) :: H)) :
    OL P N B w0 ops ({ dst := some d, op := .buildSlice t len parts.toArray, type := ty, pos, after, guard := none } :: rest) Q al H := by
  intro a w hst
  refine wpList_plain rfl fun K hK => ?_
  have hl' : cs.length = len * size := Nat.eq_of_beq_eq_true hl
  have hsm' : len ≤ 9223372036854775807 := by simpa using hsm
  have hev := evp_eval hst.regs hp
  have hrun' : (execOp a.eval { dst := some d, op := .buildSlice t len parts.toArray, type := ty, pos, after, guard := none }).run P w = .ok (.value (.slice (some ⟨w.heap.size, 0, none⟩) len len)) (w.alloc (.cells cs.toArray e)) := by
    simp only [execOp, List.map_toArray, hev, Sem.run_bind, hrun w, Result.andThen_ok, Sem.run_pure]
  unfold Oper.wp
  rw [hrun', Oper.upon_value]
  refine hK _ _ (k _ _ _ (hst.step (hst.regs.put (by simpa using hd) _) (hst.below.alloc hst.base _) ?_ (by have := hst.base; simp; omega) (Kd.alloc w _)))
  refine hst.sat.new id (e := .row (some ⟨w.heap.size, 0, none⟩) len len cs e size) ?_ (fun k hk => Below.heap_alloc w _ k hk) (fun b hb => by simp [Ent.own] at hb; omega)
  exact ⟨by simp [hl'], .inr ⟨w.heap.size, len, cs.toArray, rfl, hst.base, heap_alloc_new w _, Nat.le_refl _, by unfold maxLen; omega, by simp [hl'], by rw [List.take_of_length_le (by simp [hl'])]⟩⟩
end Hx
end Go.Proofs.Ytogcclagmobkiaa
