/-
  Products and quotients of two words: Mul64, Len64, Div64; Scale, rounded down, of program and reference.
-/
import Derived.Lib.Mul64
import Derived.Lib.BitFns
import Derived.Lib.AppendZeros
import Derived.Shelf.Small.Strs
import Derived.DataElems
import Derived.Test.YtjflbnbofedlkaaXmA
import Derived.Test.YtjflbnbofedlkaaXmB
import Derived.Test.YtjflbnbofedlkaaXmC
import Derived.Test.YtjflbnbofedlkaaXmD





namespace Go.Proofs.Ytjflbnbofedlkaa
open Go Go.RowKit Hx
set_option linter.unusedVariables false
set_option linter.unusedSimpArgs false
set_option maxRecDepth 8000
def tabOk (s : ByteArray) : Bool := (List.range 256).all fun i => decide (i < s.size) && decide (Hx.byteAt s i = (Lib.bitLen i : Int))
theorem r_len8 {P : Program} {N : Fr} {B : Nat} {w0 : World} {al : AL} {H : HL} {ty : TypeId} {x i : Operand} {t : TypeId} {kd : IntKind} {s : ByteArray} {n : Nat} (hx : ev al x = some (.string s)) (hi : ev al i = some (.int kd (n : Int))) (hT : Str P t) (hs : tabOk s = true) (hn : n < 256) :
    Runs P N B w0 (.index t x i) ty al H (.int .u8 ((Lib.bitLen n : Nat) : Int)) := by
  have h := List.all_eq_true.1 hs n (List.mem_range.2 hn)
  rw [Bool.and_eq_true, decide_eq_true_eq, decide_eq_true_eq] at h
  have h2 := r_sidx (P := P) (N := N) (B := B) (w0 := w0) (H := H) (ty := ty) hx hi hT (by omega)
  rw [Int.toNat_natCast, h.2] at h2
  exact h2
theorem bitLen_fin : ∀ n : Fin 256, Lib.bitLen n.val ≤ 8 ∧ n.val < 2 ^ Lib.bitLen n.val ∧ (0 < n.val → 0 < Lib.bitLen n.val ∧ 2 ^ (Lib.bitLen n.val - 1) ≤ n.val) := by decide +kernel
theorem wrap_len {n : Nat} (h : n < 256) : IntKind.i64.wrap ((Lib.bitLen n : Nat) : Int) = ((Lib.bitLen n : Nat) : Int) := by
  have := (bitLen_fin ⟨n, h⟩).1
  dsimp only at this
  exact IntWalk.i64_in _ (by omega)
theorem r_addL {P : Program} {N : Fr} {B : Nat} {w0 : World} {al : AL} {H : HL} {ty : TypeId} {x y : Operand} {t t' : TypeId} {m : Int} {n : Nat} (hx : ev al x = some (.int .i64 m)) (hy : ev al y = some (.int .i64 ((Lib.bitLen n : Nat) : Int))) (h : n < 256) (hm : 0 ≤ m ∧ m ≤ 1000) :
    Runs P N B w0 (.binOp .add t x y t') ty al H (.int .i64 (m + ((Lib.bitLen n : Nat) : Int))) := by
  have := (bitLen_fin ⟨n, h⟩).1
  dsimp only at this
  exact r_add hx hy (by omega)
theorem len_ret {x m k : Nat} (hm : m = x / 2 ^ k) (h : m < 256) (hp : 0 < m ∨ k = 0) (hk : k ≤ 56) : k + Lib.bitLen m ≤ 64 ∧ x < 2 ^ (k + Lib.bitLen m) ∧ (0 < x → 0 < k + Lib.bitLen m ∧ 2 ^ (k + Lib.bitLen m - 1) ≤ x) := by
  obtain ⟨h1, h2, h3⟩ := bitLen_fin ⟨m, h⟩
  dsimp only at h1 h2 h3
  have hk2 : 0 < 2 ^ k := Nat.pow_pos (by omega)
  refine ⟨by omega, ?_, fun hx => ?_⟩
  · have h4 := (Nat.div_lt_iff_lt_mul hk2).1 (show x / 2 ^ k < 2 ^ Lib.bitLen m by omega)
    rw [Nat.pow_add, Nat.mul_comm]; exact h4
  · have hm0 : 0 < m := by
      rcases hp with h | h
      · exact h
      · subst h; simp at hm; omega
    obtain ⟨h5, h6⟩ := h3 hm0
    refine ⟨by omega, ?_⟩
    have h7 := (Nat.le_div_iff_mul_le hk2).1 (show 2 ^ (Lib.bitLen m - 1) ≤ x / 2 ^ k by omega)
    rw [show k + Lib.bitLen m - 1 = k + (Lib.bitLen m - 1) by omega, Nat.pow_add, Nat.mul_comm]; exact h7
theorem bits_Len64 (x : Nat) (w : World) (hx : x < 18446744073709551616) :
    Calls Try.prog 117 #[.int .u64 (x : Int)] w fun e w' => ∃ n : Nat, e = .returned (.int .i64 (n : Int)) ∧ Below w.heap.size w w' ∧ n ≤ 64 ∧ x < 2 ^ n ∧ (0 < x → 0 < n ∧ 2 ^ (n - 1) ≤ x) := by
  refine enterQ (N := 25) (C := fun _ => True) (H := []) (B := w.heap.size) (args := [_]) Try.func117 rfl rfl rfl (Nat.le_refl _) (Sat.nil _ _) fun Q hQ => ?_
  refine wp_seq' fun K1 hK1 => ?_
  refine wp_reg ?_
  refine ol_r (r_assign rfl) rfl ?_
  refine ol_nil (to_k0 (fun _ _ h => h) (hK1 _ _ _ _ _ ?_))
  clear hK1
  refine wp_seq' fun K2 hK2 => ?_
  refine wp_seq' fun K3 hK3 => ?_
  refine wp_reg ?_
  refine ol_r (r_move rfl) rfl ?_
  refine ol_r (r_geq rfl rfl) rfl ?_
  refine ol_nil (to_k0 (fun _ _ h => h) (hK3 _ _ _ _ _ ?_))
  clear hK3
  refine wp_condD rfl (fun hc4 => ?_) (fun hc4 => ?_)
  ·refine wp_seq' fun K4 hK4 => ?_
   refine wp_reg ?_
   refine ol_r (r_move rfl) rfl ?_
   refine ol_r (r_shr32N rfl rfl) rfl ?_
   refine ol_r (r_assign rfl) rfl ?_
   refine ol_nil (to_k0 (fun _ _ h => h) (hK4 _ _ _ _ _ ?_))
   clear hK4
   refine wp_reg ?_
   refine ol_r (r_assign rfl) rfl ?_
   refine ol_nil (to_k0 (fun _ _ h => h) (hK2 _ _ _ _ _ ?_))
   clear hK2
   refine wp_seq' fun K5 hK5 => ?_
   refine wp_seq' fun K6 hK6 => ?_
   refine wp_reg ?_
   refine ol_r (r_move rfl) rfl ?_
   refine ol_r (r_geq rfl rfl) rfl ?_
   refine ol_nil (to_k0 (fun _ _ h => h) (hK6 _ _ _ _ _ ?_))
   clear hK6
   refine wp_condD rfl (fun hc8 => ?_) (fun hc8 => ?_)
   ·refine wp_seq' fun K7 hK7 => ?_
    refine wp_reg ?_
    refine ol_r (r_move rfl) rfl ?_
    refine ol_r (r_shrN 16 rfl rfl rfl (by omega)) rfl ?_
    refine ol_r (r_assign rfl) rfl ?_
    refine ol_nil (to_k0 (fun _ _ h => h) (hK7 _ _ _ _ _ ?_))
    clear hK7
    refine wp_reg ?_
    refine ol_r (r_move rfl) rfl ?_
    refine ol_r (r_add rfl rfl (by omega)) rfl ?_
    refine ol_r (r_assign rfl) rfl ?_
    refine ol_nil (to_k0 (fun _ _ h => h) (hK5 _ _ _ _ _ ?_))
    clear hK5
    refine wp_seq' fun K8 hK8 => ?_
    refine wp_seq' fun K9 hK9 => ?_
    refine wp_reg ?_
    refine ol_r (r_move rfl) rfl ?_
    refine ol_r (r_geq rfl rfl) rfl ?_
    refine ol_nil (to_k0 (fun _ _ h => h) (hK9 _ _ _ _ _ ?_))
    clear hK9
    refine wp_condD rfl (fun hc14 => ?_) (fun hc14 => ?_)
    ·refine wp_seq' fun K10 hK10 => ?_
     refine wp_reg ?_
     refine ol_r (r_move rfl) rfl ?_
     refine ol_r (r_shrN 8 rfl rfl rfl (by omega)) rfl ?_
     refine ol_r (r_assign rfl) rfl ?_
     refine ol_nil (to_k0 (fun _ _ h => h) (hK10 _ _ _ _ _ ?_))
     clear hK10
     refine wp_reg ?_
     refine ol_r (r_move rfl) rfl ?_
     refine ol_r (r_add rfl rfl (by omega)) rfl ?_
     refine ol_r (r_assign rfl) rfl ?_
     refine ol_nil (to_k0 (fun _ _ h => h) (hK8 _ _ _ _ _ ?_))
     clear hK8
     refine wp_seq' fun K11 hK11 => ?_
     refine wp_reg ?_
     refine ol_r (r_move rfl) rfl ?_
     refine ol_r (r_move rfl) rfl ?_
     refine ol_r (r_convN (k2 := .u8) rfl (by kernel_rfl) (by kernel_rfl) (by simp [IntKind.wrap, IntKind.bits, IntKind.signed]; omega)) rfl ?_
     refine ol_r (r_len8 rfl rfl st9 (by kernel_rfl) (by omega)) rfl ?_
     refine ol_r (r_convN (k2 := .i64) rfl (by kernel_rfl) (by kernel_rfl) (wrap_len (by omega))) rfl ?_
     refine ol_r (r_addL rfl rfl (by omega) (by omega)) rfl ?_
     refine ol_r (r_assign rfl) rfl ?_
     refine ol_nil (to_k0 (fun _ _ h => h) (hK11 _ _ _ _ _ ?_))
     clear hK11
     refine hQ.ret (rvs1 (rv_t rfl)) (fun _ _ h => h) fun w hb hs hB hkd => ?_
     first
       | (have h := len_ret (x := x) (m := x / 4294967296 / 2 ^ 16 / 2 ^ 8) (k := 56) (by omega) (by omega) (by omega) (by omega); exact ⟨_, by simp, hb, h⟩)
    ·refine wp_skip' (to_k0 (fun _ _ h => h) (hK8 _ _ _ _ _ ?_))
     clear hK8
     refine wp_seq' fun K12 hK12 => ?_
     refine wp_reg ?_
     refine ol_r (r_move rfl) rfl ?_
     refine ol_r (r_move rfl) rfl ?_
     refine ol_r (r_convN (k2 := .u8) rfl (by kernel_rfl) (by kernel_rfl) (by simp [IntKind.wrap, IntKind.bits, IntKind.signed]; omega)) rfl ?_
     refine ol_r (r_len8 rfl rfl st9 (by kernel_rfl) (by omega)) rfl ?_
     refine ol_r (r_convN (k2 := .i64) rfl (by kernel_rfl) (by kernel_rfl) (wrap_len (by omega))) rfl ?_
     refine ol_r (r_addL rfl rfl (by omega) (by omega)) rfl ?_
     refine ol_r (r_assign rfl) rfl ?_
     refine ol_nil (to_k0 (fun _ _ h => h) (hK12 _ _ _ _ _ ?_))
     clear hK12
     refine hQ.ret (rvs1 (rv_t rfl)) (fun _ _ h => h) fun w hb hs hB hkd => ?_
     first
       | (have h := len_ret (x := x) (m := x / 4294967296 / 2 ^ 16) (k := 48) (by omega) (by omega) (by omega) (by omega); exact ⟨_, by simp, hb, h⟩)
   ·refine wp_skip' (to_k0 (fun _ _ h => h) (hK5 _ _ _ _ _ ?_))
    clear hK5
    refine wp_seq' fun K13 hK13 => ?_
    refine wp_seq' fun K14 hK14 => ?_
    refine wp_reg ?_
    refine ol_r (r_move rfl) rfl ?_
    refine ol_r (r_geq rfl rfl) rfl ?_
    refine ol_nil (to_k0 (fun _ _ h => h) (hK14 _ _ _ _ _ ?_))
    clear hK14
    refine wp_condD rfl (fun hc14 => ?_) (fun hc14 => ?_)
    ·refine wp_seq' fun K15 hK15 => ?_
     refine wp_reg ?_
     refine ol_r (r_move rfl) rfl ?_
     refine ol_r (r_shrN 8 rfl rfl rfl (by omega)) rfl ?_
     refine ol_r (r_assign rfl) rfl ?_
     refine ol_nil (to_k0 (fun _ _ h => h) (hK15 _ _ _ _ _ ?_))
     clear hK15
     refine wp_reg ?_
     refine ol_r (r_move rfl) rfl ?_
     refine ol_r (r_add rfl rfl (by omega)) rfl ?_
     refine ol_r (r_assign rfl) rfl ?_
     refine ol_nil (to_k0 (fun _ _ h => h) (hK13 _ _ _ _ _ ?_))
     clear hK13
     refine wp_seq' fun K16 hK16 => ?_
     refine wp_reg ?_
     refine ol_r (r_move rfl) rfl ?_
     refine ol_r (r_move rfl) rfl ?_
     refine ol_r (r_convN (k2 := .u8) rfl (by kernel_rfl) (by kernel_rfl) (by simp [IntKind.wrap, IntKind.bits, IntKind.signed]; omega)) rfl ?_
     refine ol_r (r_len8 rfl rfl st9 (by kernel_rfl) (by omega)) rfl ?_
     refine ol_r (r_convN (k2 := .i64) rfl (by kernel_rfl) (by kernel_rfl) (wrap_len (by omega))) rfl ?_
     refine ol_r (r_addL rfl rfl (by omega) (by omega)) rfl ?_
     refine ol_r (r_assign rfl) rfl ?_
     refine ol_nil (to_k0 (fun _ _ h => h) (hK16 _ _ _ _ _ ?_))
     clear hK16
     refine hQ.ret (rvs1 (rv_t rfl)) (fun _ _ h => h) fun w hb hs hB hkd => ?_
     first
       | (have h := len_ret (x := x) (m := x / 4294967296 / 2 ^ 8) (k := 40) (by omega) (by omega) (by omega) (by omega); exact ⟨_, by simp, hb, h⟩)
    ·refine wp_skip' (to_k0 (fun _ _ h => h) (hK13 _ _ _ _ _ ?_))
     clear hK13
     refine wp_seq' fun K17 hK17 => ?_
     refine wp_reg ?_
     refine ol_r (r_move rfl) rfl ?_
     refine ol_r (r_move rfl) rfl ?_
     refine ol_r (r_convN (k2 := .u8) rfl (by kernel_rfl) (by kernel_rfl) (by simp [IntKind.wrap, IntKind.bits, IntKind.signed]; omega)) rfl ?_
     refine ol_r (r_len8 rfl rfl st9 (by kernel_rfl) (by omega)) rfl ?_
     refine ol_r (r_convN (k2 := .i64) rfl (by kernel_rfl) (by kernel_rfl) (wrap_len (by omega))) rfl ?_
     refine ol_r (r_addL rfl rfl (by omega) (by omega)) rfl ?_
     refine ol_r (r_assign rfl) rfl ?_
     refine ol_nil (to_k0 (fun _ _ h => h) (hK17 _ _ _ _ _ ?_))
     clear hK17
     refine hQ.ret (rvs1 (rv_t rfl)) (fun _ _ h => h) fun w hb hs hB hkd => ?_
     first
       | (have h := len_ret (x := x) (m := x / 4294967296) (k := 32) (by omega) (by omega) (by omega) (by omega); exact ⟨_, by simp, hb, h⟩)
  ·refine wp_skip' (to_k0 (fun _ _ h => h) (hK2 _ _ _ _ _ ?_))
   clear hK2
   refine wp_seq' fun K18 hK18 => ?_
   refine wp_seq' fun K19 hK19 => ?_
   refine wp_reg ?_
   refine ol_r (r_move rfl) rfl ?_
   refine ol_r (r_geq rfl rfl) rfl ?_
   refine ol_nil (to_k0 (fun _ _ h => h) (hK19 _ _ _ _ _ ?_))
   clear hK19
   refine wp_condD rfl (fun hc8 => ?_) (fun hc8 => ?_)
   ·refine wp_seq' fun K20 hK20 => ?_
    refine wp_reg ?_
    refine ol_r (r_move rfl) rfl ?_
    refine ol_r (r_shrN 16 rfl rfl rfl (by omega)) rfl ?_
    refine ol_r (r_assign rfl) rfl ?_
    refine ol_nil (to_k0 (fun _ _ h => h) (hK20 _ _ _ _ _ ?_))
    clear hK20
    refine wp_reg ?_
    refine ol_r (r_move rfl) rfl ?_
    refine ol_r (r_add rfl rfl (by omega)) rfl ?_
    refine ol_r (r_assign rfl) rfl ?_
    refine ol_nil (to_k0 (fun _ _ h => h) (hK18 _ _ _ _ _ ?_))
    clear hK18
    refine wp_seq' fun K21 hK21 => ?_
    refine wp_seq' fun K22 hK22 => ?_
    refine wp_reg ?_
    refine ol_r (r_move rfl) rfl ?_
    refine ol_r (r_geq rfl rfl) rfl ?_
    refine ol_nil (to_k0 (fun _ _ h => h) (hK22 _ _ _ _ _ ?_))
    clear hK22
    refine wp_condD rfl (fun hc14 => ?_) (fun hc14 => ?_)
    ·refine wp_seq' fun K23 hK23 => ?_
     refine wp_reg ?_
     refine ol_r (r_move rfl) rfl ?_
     refine ol_r (r_shrN 8 rfl rfl rfl (by omega)) rfl ?_
     refine ol_r (r_assign rfl) rfl ?_
     refine ol_nil (to_k0 (fun _ _ h => h) (hK23 _ _ _ _ _ ?_))
     clear hK23
     refine wp_reg ?_
     refine ol_r (r_move rfl) rfl ?_
     refine ol_r (r_add rfl rfl (by omega)) rfl ?_
     refine ol_r (r_assign rfl) rfl ?_
     refine ol_nil (to_k0 (fun _ _ h => h) (hK21 _ _ _ _ _ ?_))
     clear hK21
     refine wp_seq' fun K24 hK24 => ?_
     refine wp_reg ?_
     refine ol_r (r_move rfl) rfl ?_
     refine ol_r (r_move rfl) rfl ?_
     refine ol_r (r_convN (k2 := .u8) rfl (by kernel_rfl) (by kernel_rfl) (by simp [IntKind.wrap, IntKind.bits, IntKind.signed]; omega)) rfl ?_
     refine ol_r (r_len8 rfl rfl st9 (by kernel_rfl) (by omega)) rfl ?_
     refine ol_r (r_convN (k2 := .i64) rfl (by kernel_rfl) (by kernel_rfl) (wrap_len (by omega))) rfl ?_
     refine ol_r (r_addL rfl rfl (by omega) (by omega)) rfl ?_
     refine ol_r (r_assign rfl) rfl ?_
     refine ol_nil (to_k0 (fun _ _ h => h) (hK24 _ _ _ _ _ ?_))
     clear hK24
     refine hQ.ret (rvs1 (rv_t rfl)) (fun _ _ h => h) fun w hb hs hB hkd => ?_
     first
       | (have h := len_ret (x := x) (m := x / 2 ^ 16 / 2 ^ 8) (k := 24) (by omega) (by omega) (by omega) (by omega); exact ⟨_, by simp, hb, h⟩)
    ·refine wp_skip' (to_k0 (fun _ _ h => h) (hK21 _ _ _ _ _ ?_))
     clear hK21
     refine wp_seq' fun K25 hK25 => ?_
     refine wp_reg ?_
     refine ol_r (r_move rfl) rfl ?_
     refine ol_r (r_move rfl) rfl ?_
     refine ol_r (r_convN (k2 := .u8) rfl (by kernel_rfl) (by kernel_rfl) (by simp [IntKind.wrap, IntKind.bits, IntKind.signed]; omega)) rfl ?_
     refine ol_r (r_len8 rfl rfl st9 (by kernel_rfl) (by omega)) rfl ?_
     refine ol_r (r_convN (k2 := .i64) rfl (by kernel_rfl) (by kernel_rfl) (wrap_len (by omega))) rfl ?_
     refine ol_r (r_addL rfl rfl (by omega) (by omega)) rfl ?_
     refine ol_r (r_assign rfl) rfl ?_
     refine ol_nil (to_k0 (fun _ _ h => h) (hK25 _ _ _ _ _ ?_))
     clear hK25
     refine hQ.ret (rvs1 (rv_t rfl)) (fun _ _ h => h) fun w hb hs hB hkd => ?_
     first
       | (have h := len_ret (x := x) (m := x / 2 ^ 16) (k := 16) (by omega) (by omega) (by omega) (by omega); exact ⟨_, by simp, hb, h⟩)
   ·refine wp_skip' (to_k0 (fun _ _ h => h) (hK18 _ _ _ _ _ ?_))
    clear hK18
    refine wp_seq' fun K26 hK26 => ?_
    refine wp_seq' fun K27 hK27 => ?_
    refine wp_reg ?_
    refine ol_r (r_move rfl) rfl ?_
    refine ol_r (r_geq rfl rfl) rfl ?_
    refine ol_nil (to_k0 (fun _ _ h => h) (hK27 _ _ _ _ _ ?_))
    clear hK27
    refine wp_condD rfl (fun hc14 => ?_) (fun hc14 => ?_)
    ·refine wp_seq' fun K28 hK28 => ?_
     refine wp_reg ?_
     refine ol_r (r_move rfl) rfl ?_
     refine ol_r (r_shrN 8 rfl rfl rfl (by omega)) rfl ?_
     refine ol_r (r_assign rfl) rfl ?_
     refine ol_nil (to_k0 (fun _ _ h => h) (hK28 _ _ _ _ _ ?_))
     clear hK28
     refine wp_reg ?_
     refine ol_r (r_move rfl) rfl ?_
     refine ol_r (r_add rfl rfl (by omega)) rfl ?_
     refine ol_r (r_assign rfl) rfl ?_
     refine ol_nil (to_k0 (fun _ _ h => h) (hK26 _ _ _ _ _ ?_))
     clear hK26
     refine wp_seq' fun K29 hK29 => ?_
     refine wp_reg ?_
     refine ol_r (r_move rfl) rfl ?_
     refine ol_r (r_move rfl) rfl ?_
     refine ol_r (r_convN (k2 := .u8) rfl (by kernel_rfl) (by kernel_rfl) (by simp [IntKind.wrap, IntKind.bits, IntKind.signed]; omega)) rfl ?_
     refine ol_r (r_len8 rfl rfl st9 (by kernel_rfl) (by omega)) rfl ?_
     refine ol_r (r_convN (k2 := .i64) rfl (by kernel_rfl) (by kernel_rfl) (wrap_len (by omega))) rfl ?_
     refine ol_r (r_addL rfl rfl (by omega) (by omega)) rfl ?_
     refine ol_r (r_assign rfl) rfl ?_
     refine ol_nil (to_k0 (fun _ _ h => h) (hK29 _ _ _ _ _ ?_))
     clear hK29
     refine hQ.ret (rvs1 (rv_t rfl)) (fun _ _ h => h) fun w hb hs hB hkd => ?_
     first
       | (have h := len_ret (x := x) (m := x / 2 ^ 8) (k := 8) (by omega) (by omega) (by omega) (by omega); exact ⟨_, by simp, hb, h⟩)
    ·refine wp_skip' (to_k0 (fun _ _ h => h) (hK26 _ _ _ _ _ ?_))
     clear hK26
     refine wp_seq' fun K30 hK30 => ?_
     refine wp_reg ?_
     refine ol_r (r_move rfl) rfl ?_
     refine ol_r (r_move rfl) rfl ?_
     refine ol_r (r_convN (k2 := .u8) rfl (by kernel_rfl) (by kernel_rfl) (by simp [IntKind.wrap, IntKind.bits, IntKind.signed]; omega)) rfl ?_
     refine ol_r (r_len8 rfl rfl st9 (by kernel_rfl) (by omega)) rfl ?_
     refine ol_r (r_convN (k2 := .i64) rfl (by kernel_rfl) (by kernel_rfl) (wrap_len (by omega))) rfl ?_
     refine ol_r (r_addL rfl rfl (by omega) (by omega)) rfl ?_
     refine ol_r (r_assign rfl) rfl ?_
     refine ol_nil (to_k0 (fun _ _ h => h) (hK30 _ _ _ _ _ ?_))
     clear hK30
     refine hQ.ret (rvs1 (rv_t rfl)) (fun _ _ h => h) fun w hb hs hB hkd => ?_
     first
       | (have h := len_ret (x := x) (m := x) (k := 0) (by omega) (by omega) (by omega) (by omega); exact ⟨_, by simp, hb, h⟩)
theorem bits_Lz64 (x : Nat) (w : World) (hx : x < 18446744073709551616) (h0 : 0 < x) :
    Calls Try.prog 153 #[.int .u64 (x : Int)] w fun e w' => ∃ s : Nat, e = .returned (.int .i64 (s : Int)) ∧ Below w.heap.size w w' ∧ s ≤ 63 ∧ 9223372036854775808 ≤ x * 2 ^ s ∧ x * 2 ^ s < 18446744073709551616 := by
  refine enterQ (N := 6) (C := fun _ => True) (H := []) (B := w.heap.size) (args := [_]) Try.func153 rfl rfl rfl (Nat.le_refl _) (Sat.nil _ _) fun Q hQ => ?_
  refine wp_seq' fun K1 hK1 => ?_
  refine wp_reg ?_
  refine ol_r (r_assign rfl) rfl ?_
  refine ol_nil (to_k0 (fun _ _ h => h) (hK1 _ _ _ _ _ ?_))
  clear hK1
  refine wp_seq' fun K2 hK2 => ?_
  refine wp_reg ?_
  refine ol_r (r_move rfl) rfl ?_
  refine ol_call rfl rfl cb117 rfl (fun w1 hb1 hs1 hB1 => ?_)
  refine Calls.mono (bits_Len64 x _ hx) ?_
  rintro e w2 ⟨n, rfl, hb2, hn, hn2, hn3⟩
  refine After.below rfl hb1 hs1 hB1 hb2 ?_
  clear hb2 hB1 hs1 hb1 w2 w1
  refine ol_r (r_sub rfl rfl (by omega)) rfl ?_
  refine ol_r (r_assign rfl) rfl ?_
  refine ol_nil (to_k0 (fun _ _ h => h) (hK2 _ _ _ _ _ ?_))
  clear hK2
  refine hQ.ret (rvs1 (rv_t rfl)) (fun _ _ h => h) fun w hb hs hB hkd => ?_
  obtain ⟨h1, h2⟩ := hn3 h0
  refine ⟨64 - n, by rw [Int.ofNat_sub hn]; rfl, hb, by omega, ?_, ?_⟩
  · have h3 := Nat.mul_le_mul_right (2 ^ (64 - n)) h2
    rw [← Nat.pow_add, show n - 1 + (64 - n) = 63 by omega] at h3
    exact h3
  · have h3 := (Nat.mul_lt_mul_right (Nat.pow_pos (n := 64 - n) (show 0 < 2 by omega))).2 hn2
    rw [← Nat.pow_add, show n + (64 - n) = 64 by omega] at h3
    exact h3
theorem bits_Mul64N (x y : Nat) (w : World) (hx : x < 18446744073709551616) (hy : y < 18446744073709551616) :
    Calls Try.prog 130 #[.int .u64 (x : Int), .int .u64 (y : Int)] w fun e w' => e = .returned (.tuple #[.int .u64 ((x * y / 18446744073709551616 : Nat) : Int), .int .u64 ((x * y % 18446744073709551616 : Nat) : Int)]) ∧ Below w.heap.size w w' := by
  obtain ⟨m1, m2, m3, m4⟩ := Lib.mul64_hi x y hx hy
  have m5 : x * y / 18446744073709551616 < 18446744073709551616 := by
    have h1 : x * y ≤ 18446744073709551615 * 18446744073709551615 := Nat.mul_le_mul (by omega) (by omega)
    omega
  refine enterQ (N := 51) (C := fun _ => True) (H := []) (B := w.heap.size) (args := [_, _]) Try.func130 rfl rfl rfl (Nat.le_refl _) (Sat.nil _ _) fun Q hQ => ?_
  refine wp_seq' fun K1 hK1 => ?_
  refine wp_reg ?_
  refine ol_r (r_assign rfl) rfl ?_
  refine ol_r (r_assign rfl) rfl ?_
  refine ol_nil (to_k0 (fun _ _ h => h) (hK1 _ _ _ _ _ ?_))
  clear hK1
  refine wp_seq' fun K2 hK2 => ?_
  refine wp_reg ?_
  refine ol_r (r_move rfl) rfl ?_
  refine ol_r (r_and32N rfl rfl (by omega)) rfl ?_
  refine ol_r (r_assign rfl) rfl ?_
  refine ol_nil (to_k0 (fun _ _ h => h) (hK2 _ _ _ _ _ ?_))
  clear hK2
  refine wp_seq' fun K3 hK3 => ?_
  refine wp_reg ?_
  refine ol_r (r_move rfl) rfl ?_
  refine ol_r (r_shr32N rfl rfl) rfl ?_
  refine ol_r (r_assign rfl) rfl ?_
  refine ol_nil (to_k0 (fun _ _ h => h) (hK3 _ _ _ _ _ ?_))
  clear hK3
  refine wp_seq' fun K4 hK4 => ?_
  refine wp_reg ?_
  refine ol_r (r_move rfl) rfl ?_
  refine ol_r (r_and32N rfl rfl (by omega)) rfl ?_
  refine ol_r (r_assign rfl) rfl ?_
  refine ol_nil (to_k0 (fun _ _ h => h) (hK4 _ _ _ _ _ ?_))
  clear hK4
  refine wp_seq' fun K5 hK5 => ?_
  refine wp_reg ?_
  refine ol_r (r_move rfl) rfl ?_
  refine ol_r (r_shr32N rfl rfl) rfl ?_
  refine ol_r (r_assign rfl) rfl ?_
  refine ol_nil (to_k0 (fun _ _ h => h) (hK5 _ _ _ _ _ ?_))
  clear hK5
  refine wp_seq' fun K6 hK6 => ?_
  refine wp_reg ?_
  refine ol_r (r_move rfl) rfl ?_
  refine ol_r (r_move rfl) rfl ?_
  refine ol_r (r_mulN rfl rfl m1) rfl ?_
  refine ol_r (r_assign rfl) rfl ?_
  refine ol_nil (to_k0 (fun _ _ h => h) (hK6 _ _ _ _ _ ?_))
  clear hK6
  refine wp_seq' fun K7 hK7 => ?_
  refine wp_reg ?_
  refine ol_r (r_move rfl) rfl ?_
  refine ol_r (r_move rfl) rfl ?_
  refine ol_r (r_mulN rfl rfl (by omega)) rfl ?_
  refine ol_r (r_move rfl) rfl ?_
  refine ol_r (r_shr32N rfl rfl) rfl ?_
  refine ol_r (r_addN rfl rfl m2) rfl ?_
  refine ol_r (r_assign rfl) rfl ?_
  refine ol_nil (to_k0 (fun _ _ h => h) (hK7 _ _ _ _ _ ?_))
  clear hK7
  refine wp_seq' fun K8 hK8 => ?_
  refine wp_reg ?_
  refine ol_r (r_move rfl) rfl ?_
  refine ol_r (r_and32N rfl rfl m2) rfl ?_
  refine ol_r (r_assign rfl) rfl ?_
  refine ol_nil (to_k0 (fun _ _ h => h) (hK8 _ _ _ _ _ ?_))
  clear hK8
  refine wp_seq' fun K9 hK9 => ?_
  refine wp_reg ?_
  refine ol_r (r_move rfl) rfl ?_
  refine ol_r (r_shr32N rfl rfl) rfl ?_
  refine ol_r (r_assign rfl) rfl ?_
  refine ol_nil (to_k0 (fun _ _ h => h) (hK9 _ _ _ _ _ ?_))
  clear hK9
  refine wp_seq' fun K10 hK10 => ?_
  refine wp_reg ?_
  refine ol_r (r_move rfl) rfl ?_
  refine ol_r (r_move rfl) rfl ?_
  refine ol_r (r_move rfl) rfl ?_
  refine ol_r (r_mulN rfl rfl (by omega)) rfl ?_
  refine ol_r (r_addN rfl rfl m3) rfl ?_
  refine ol_r (r_assign rfl) rfl ?_
  refine ol_nil (to_k0 (fun _ _ h => h) (hK10 _ _ _ _ _ ?_))
  clear hK10
  refine wp_seq' fun K11 hK11 => ?_
  refine wp_reg ?_
  refine ol_r (r_move rfl) rfl ?_
  refine ol_r (r_move rfl) rfl ?_
  refine ol_r (r_mulN rfl rfl (by omega)) rfl ?_
  refine ol_r (r_move rfl) rfl ?_
  refine ol_r (r_addN rfl rfl (by omega)) rfl ?_
  refine ol_r (r_move rfl) rfl ?_
  refine ol_r (r_shr32N rfl rfl) rfl ?_
  refine ol_r (r_addN rfl rfl (by rw [m4]; exact m5)) rfl ?_
  refine ol_r (r_assign rfl) rfl ?_
  refine ol_nil (to_k0 (fun _ _ h => h) (hK11 _ _ _ _ _ ?_))
  clear hK11
  refine wp_seq' fun K12 hK12 => ?_
  refine wp_reg ?_
  refine ol_r (r_move rfl) rfl ?_
  refine ol_r (r_move rfl) rfl ?_
  refine ol_r (r_mulg ((x * y % 18446744073709551616 : Nat) : Int) rfl rfl (by rw [IntKind.wrap_u64, ← Int.natCast_mul, Int.natCast_emod]; rfl)) rfl ?_
  refine ol_r (r_assign rfl) rfl ?_
  refine ol_nil (to_k0 (fun _ _ h => h) (hK12 _ _ _ _ _ ?_))
  clear hK12
  refine hQ.ret (rvs2 (rv_t rfl) (rv_t rfl)) (fun _ _ h => h) fun w hb hs hB hkd => ?_
  exact ⟨by rw [m4], hb⟩
theorem wrap_rest {u d q Y v : Nat} (h : q * Y + v = u * 4294967296 + d) (hv : v < 18446744073709551616) :
    IntKind.u64.wrap (IntKind.u64.wrap (IntKind.u64.wrap ((u : Int) * 4294967296) + (d : Int)) - IntKind.u64.wrap ((q : Int) * (Y : Int))) = (v : Int) := by
  simp only [IntKind.wrap_u64]
  have h2 : ((q * Y + v : Nat) : Int) = ((u * 4294967296 + d : Nat) : Int) := congrArg _ h
  rw [Int.natCast_add, Int.natCast_mul, Int.natCast_add, Int.natCast_mul] at h2
  generalize (q : Int) * (Y : Int) = z at *
  omega
theorem bits_Div64N (hi lo y : Nat) (w : World) (hh : hi < y) (hy : y < 18446744073709551616) (hlo : lo < 18446744073709551616) :
    Calls Try.prog 135 #[.int .u64 (hi : Int), .int .u64 (lo : Int), .int .u64 (y : Int)] w fun e w' => e = .returned (.tuple #[.int .u64 (((hi * 18446744073709551616 + lo) / y : Nat) : Int), .int .u64 (((hi * 18446744073709551616 + lo) % y : Nat) : Int)]) ∧ Below w.heap.size w w' := by
  refine enterQ (N := 135) (C := fun _ => True) (H := []) (B := w.heap.size) (args := [_, _, _]) Try.func135 rfl rfl rfl (Nat.le_refl _) (Sat.nil _ _) fun Q hQ => ?_
  refine wp_seq' fun K1 hK1 => ?_
  refine wp_reg ?_
  refine ol_r (r_assign rfl) rfl ?_
  refine ol_r (r_assign rfl) rfl ?_
  refine ol_nil (to_k0 (fun _ _ h => h) (hK1 _ _ _ _ _ ?_))
  clear hK1
  refine wp_seq' fun K2 hK2 => ?_
  refine wp_seq' fun K3 hK3 => ?_
  refine wp_reg ?_
  refine ol_r (r_move rfl) rfl ?_
  refine ol_r (r_eql rfl rfl) rfl ?_
  refine ol_nil (to_k0 (fun _ _ h => h) (hK3 _ _ _ _ _ ?_))
  clear hK3
  refine wp_condD rfl (fun hc20 => ?_) (fun hc20 => ?_)
  ·exfalso
   omega
  ·refine wp_skip' (to_k0 (fun _ _ h => h) (hK2 _ _ _ _ _ ?_))
   clear hK2
   refine wp_seq' fun K4 hK4 => ?_
   refine wp_seq' fun K5 hK5 => ?_
   refine wp_reg ?_
   refine ol_r (r_move rfl) rfl ?_
   refine ol_r (r_move rfl) rfl ?_
   refine ol_r (r_leq rfl rfl) rfl ?_
   refine ol_nil (to_k0 (fun _ _ h => h) (hK5 _ _ _ _ _ ?_))
   clear hK5
   refine wp_condD rfl (fun hc24 => ?_) (fun hc24 => ?_)
   ·exfalso
    omega
   ·refine wp_skip' (to_k0 (fun _ _ h => h) (hK4 _ _ _ _ _ ?_))
    clear hK4
    refine wp_seq' fun K6 hK6 => ?_
    refine wp_seq' fun K7 hK7 => ?_
    refine wp_reg ?_
    refine ol_r (r_move rfl) rfl ?_
    refine ol_r (r_eql rfl rfl) rfl ?_
    refine ol_nil (to_k0 (fun _ _ h => h) (hK7 _ _ _ _ _ ?_))
    clear hK7
    refine wp_condD rfl (fun hc27 => ?_) (fun hc27 => ?_)
    ·refine wp_seq' fun K8 hK8 => ?_
     refine wp_regq (by kernel_rfl) (by kernel_rfl) ?_
     refine ql_r (r_move rfl) rfl ?_
     refine ql_r (r_move rfl) rfl ?_
     refine ql_r (r_quoN rfl rfl (by omega) hlo) rfl ?_
     refine ql_r (r_move rfl) rfl ?_
     refine ql_r (r_move rfl) rfl ?_
     refine ql_r (r_remN rfl rfl (by omega) hlo) rfl ?_
     refine ql_r (r_assign rfl) rfl ?_
     refine ql_r (r_assign rfl) rfl ?_
     refine ql_nil (to_k0 (fun _ _ h => h) (hK8 _ _ _ _ _ ?_))
     clear hK8
     refine hQ.ret (rvs2 (rv_t rfl) (rv_t rfl)) (fun _ _ h => h) fun w hb hs hB hkd => ?_
     have e1 : hi = 0 := by omega
     subst e1
     exact ⟨by rw [Nat.zero_mul, Nat.zero_add], hb⟩
    ·refine wp_skip' (to_k0 (fun _ _ h => h) (hK6 _ _ _ _ _ ?_))
     clear hK6
     refine wp_seq' fun K9 hK9 => ?_
     refine wp_reg ?_
     refine ol_r (r_move rfl) rfl ?_
     refine ol_call rfl rfl cb153 rfl (fun w1 hb1 hs1 hB1 => ?_)
     refine Calls.mono (bits_Lz64 y _ hy (by omega)) ?_
     rintro e w2 ⟨s, rfl, hb2, hs64, hY1, hY2⟩
     refine After.below rfl hb1 hs1 hB1 hb2 ?_
     clear hb2 hB1 hs1 hb1 w2 w1
     refine ol_r (r_convN (k2 := .u64) rfl (by kernel_rfl) (by kernel_rfl) (wrapN (by omega))) rfl ?_
     refine ol_r (r_assign rfl) rfl ?_
     refine ol_nil (to_k0 (fun _ _ h => h) (hK9 _ _ _ _ _ ?_))
     clear hK9
     refine wp_seq' fun K10 hK10 => ?_
     refine wp_reg ?_
     refine ol_r (r_move rfl) rfl ?_
     refine ol_r (r_move rfl) rfl ?_
     refine ol_r (r_shlN s rfl rfl rfl (by omega) (y * 2 ^ s) (Nat.mod_eq_of_lt hY2)) rfl ?_
     obtain ⟨Y, hYe⟩ : ∃ Y, Y = y * 2 ^ s := ⟨_, rfl⟩
     rw [← hYe] at hY1 hY2 ⊢
     have hKs : hi * 2 ^ s < Y := by rw [hYe]; exact (Nat.mul_lt_mul_right (Nat.pow_pos (by omega))).2 hh
     have h2s : 0 < 2 ^ s := Nat.pow_pos (by omega)
     have hls : lo / 2 ^ (64 - s) < 2 ^ s := by
       refine (Nat.div_lt_iff_lt_mul (Nat.pow_pos (by omega))).2 ?_
       rw [← Nat.pow_add, show s + (64 - s) = 64 by omega]; exact hlo
     have hU : hi * 2 ^ s + lo / 2 ^ (64 - s) < Y := by
       have h3 : (hi + 1) * 2 ^ s ≤ Y := by rw [hYe]; exact Nat.mul_le_mul_right _ hh
       rw [Nat.add_mul, Nat.one_mul] at h3
       omega
     refine ol_r (r_assign rfl) rfl ?_
     refine ol_nil (to_k0 (fun _ _ h => h) (hK10 _ _ _ _ _ ?_))
     clear hK10
     refine wp_seq' fun K11 hK11 => ?_
     refine wp_reg ?_
     refine ol_r (r_move rfl) rfl ?_
     refine ol_r (r_shr32N rfl rfl) rfl ?_
     refine ol_r (r_assign rfl) rfl ?_
     refine ol_nil (to_k0 (fun _ _ h => h) (hK11 _ _ _ _ _ ?_))
     clear hK11
     refine wp_seq' fun K12 hK12 => ?_
     refine wp_reg ?_
     refine ol_r (r_move rfl) rfl ?_
     refine ol_r (r_and32N rfl rfl (by omega)) rfl ?_
     refine ol_r (r_assign rfl) rfl ?_
     refine ol_nil (to_k0 (fun _ _ h => h) (hK12 _ _ _ _ _ ?_))
     clear hK12
     refine wp_seq' fun K13 hK13 => ?_
     refine wp_reg ?_
     refine ol_r (r_move rfl) rfl ?_
     refine ol_r (r_move rfl) rfl ?_
     refine ol_r (r_shlN s rfl rfl rfl (by omega) (hi * 2 ^ s) (Nat.mod_eq_of_lt (by omega))) rfl ?_
     refine ol_r (r_move rfl) rfl ?_
     refine ol_r (r_move rfl) rfl ?_
     refine ol_r (r_subN (a := 64) rfl rfl (by omega) (by omega)) rfl ?_
     refine ol_r (r_shrN (64 - s) rfl rfl rfl (by omega)) rfl ?_
     refine ol_r (r_orN s hi rfl rfl rfl hls (by omega) (by omega)) rfl ?_
     obtain ⟨u, hu⟩ : ∃ u, u = hi * 2 ^ s + lo / 2 ^ (64 - s) := ⟨_, rfl⟩
     rw [← hu] at hU ⊢
     refine ol_r (r_assign rfl) rfl ?_
     refine ol_nil (to_k0 (fun _ _ h => h) (hK13 _ _ _ _ _ ?_))
     clear hK13
     refine wp_seq' fun K14 hK14 => ?_
     refine wp_reg ?_
     refine ol_r (r_move rfl) rfl ?_
     refine ol_r (r_move rfl) rfl ?_
     refine ol_r (r_shlN s rfl rfl rfl (by omega) _ rfl) rfl ?_
     obtain ⟨t, ht⟩ : ∃ t, t = lo * 2 ^ s % 18446744073709551616 := ⟨_, rfl⟩
     rw [← ht]
     have htl : t < 18446744073709551616 := by rw [ht]; exact Nat.mod_lt _ (by omega)
     have hd1 := dig_start (u := u) (d := t / 4294967296) hY1 hY2 hU (by omega)
     refine ol_r (r_assign rfl) rfl ?_
     refine ol_nil (to_k0 (fun _ _ h => h) (hK14 _ _ _ _ _ ?_))
     clear hK14
     refine wp_seq' fun K15 hK15 => ?_
     refine wp_reg ?_
     refine ol_r (r_move rfl) rfl ?_
     refine ol_r (r_shr32N rfl rfl) rfl ?_
     refine ol_r (r_assign rfl) rfl ?_
     refine ol_nil (to_k0 (fun _ _ h => h) (hK15 _ _ _ _ _ ?_))
     clear hK15
     refine wp_seq' fun K16 hK16 => ?_
     refine wp_reg ?_
     refine ol_r (r_move rfl) rfl ?_
     refine ol_r (r_and32N rfl rfl htl) rfl ?_
     refine ol_r (r_assign rfl) rfl ?_
     refine ol_nil (to_k0 (fun _ _ h => h) (hK16 _ _ _ _ _ ?_))
     clear hK16
     refine wp_seq' fun K17 hK17 => ?_
     refine wp_reg ?_
     refine ol_r (r_move rfl) rfl ?_
     refine ol_r (r_move rfl) rfl ?_
     refine ol_r (r_quoN rfl rfl (by omega) (by omega)) rfl ?_
     refine ol_r (r_assign rfl) rfl ?_
     refine ol_nil (to_k0 (fun _ _ h => h) (hK17 _ _ _ _ _ ?_))
     clear hK17
     refine wp_seq' fun K18 hK18 => ?_
     refine wp_reg ?_
     refine ol_r (r_move rfl) rfl ?_
     refine ol_r (r_move rfl) rfl ?_
     refine ol_r (r_move rfl) rfl ?_
     refine ol_r (r_mulN rfl rfl (by omega)) rfl ?_
     refine ol_r (r_subN rfl rfl (by omega) (by omega)) rfl ?_
     rw [show u - u / (Y / 4294967296) * (Y / 4294967296) = u % (Y / 4294967296) by omega]
     refine ol_r (r_assign rfl) rfl ?_
     refine ol_nil (to_k0 (fun _ _ h => h) (hK18 _ _ _ _ _ ?_))
     clear hK18
     apply wp_seq_cutM (σ := Nat) (fun s => s = digQ u (t / 4294967296) Y) (fun s => [(15, .int .u64 (s : Int))]) [(2, _), (6, _), (7, _), (8, _), (9, _), (10, _), (11, _), (13, _), (14, _)] (fun s => []) []
     ·exact (sub_cons rfl (sub_cons rfl (sub_cons rfl (sub_cons rfl (sub_cons rfl (sub_cons rfl (sub_cons rfl (sub_cons rfl (sub_cons rfl sub_nil)))))))))
     ·exact subH_nil
     ·intro K19 hK19
      refine wp_block' ?_
      apply wp_loopM (σ := Nat × Nat) (fun s => s.1 * (Y / 4294967296) + s.2 = u ∧ digQ u (t / 4294967296) Y ≤ s.1 ∧ s.1 ≤ 4294967297 ∧ s.2 < 4294967296) (fun s => [(15, .int .u64 (s.1 : Int)), (16, .int .u64 (s.2 : Int))]) [(2, _), (6, _), (7, _), (8, _), (9, _), (10, _), (11, _), (13, _), (14, _)] (fun s => []) [] (fun s => s.1) ((_, _))
      ·try dsimp only
       exact ⟨hd1.1, hd1.2.1, hd1.2.2.1, by omega⟩
      ·exact (sub_cons rfl (sub_cons rfl sub_nil))
      ·exact (sub_cons rfl (sub_cons rfl (sub_cons rfl (sub_cons rfl (sub_cons rfl (sub_cons rfl (sub_cons rfl (sub_cons rfl (sub_cons rfl sub_nil)))))))))
      ·exact subH_nil
      ·exact subH_nil
      ·rintro ⟨q, r⟩ ⟨hq1, hq2, hq3, hq4⟩
       dsimp only at hq1 hq2 hq3 hq4 ⊢
       have hlow := dig_low (Y := Y) hq3
       intro K20 hK20
       refine wp_seq' fun K21 hK21 => ?_
       refine wp_seq' fun K22 hK22 => ?_
       refine wp_reg ?_
       refine ol_r (r_move rfl) rfl ?_
       refine ol_r (r_geq rfl rfl) rfl ?_
       refine ol_r (r_move rfl) rfl ?_
       refine ol_split (d := 69) rfl (fun hs69 => ?_) (fun hs69 => ?_)
       ·have phs69 := hs69; try simp only [decide_eq_true_eq, decide_eq_false_iff_not, Bool.not_eq_true', Bool.not_eq_false', Bool.not_true, Bool.not_false] at phs69
        refine ol_s rfl rfl hs69 rfl ?_
        refine ol_s rfl rfl hs69 rfl ?_
        refine ol_s rfl rfl hs69 rfl ?_
        refine ol_s rfl rfl hs69 rfl ?_
        refine ol_s rfl rfl hs69 rfl ?_
        refine ol_s rfl rfl hs69 rfl ?_
        refine ol_s rfl rfl hs69 rfl ?_
        refine ol_s rfl rfl hs69 rfl ?_
        refine ol_r (r_pickT rfl hs69 rfl) rfl ?_
        refine ol_nil (to_k0 (fun _ _ h => h) (hK22 _ _ _ _ _ ?_))
        clear hK22
        refine wp_condT rfl ?_
        refine wp_skip' (to_k0 (fun _ _ h => h) (hK21 _ _ _ _ _ ?_))
        clear hK21
        refine wp_block' ?_
        refine wp_seq' fun K23 hK23 => ?_
        refine wp_reg ?_
        refine ol_r (r_move rfl) rfl ?_
        have hdec : digQ u (t / 4294967296) Y < q := by
          first
          | exact dig_dec (by omega) hU (by omega) hq1 (.inl (by omega))
          | exact dig_dec (by omega) hU (by omega) hq1 (.inr (by omega))
        have hqd1 : (q - 1) * (Y / 4294967296) + (r + Y / 4294967296) = u := by
          have h3 : (q - 1 + 1) * (Y / 4294967296) = (q - 1) * (Y / 4294967296) + Y / 4294967296 := by rw [Nat.add_mul, Nat.one_mul]
          rw [Nat.sub_add_cancel (by omega)] at h3
          omega
        refine ol_r (r_subN (b := 1) rfl rfl (by omega) (by omega)) rfl ?_
        refine ol_r (r_assign rfl) rfl ?_
        refine ol_nil (to_k0 (fun _ _ h => h) (hK23 _ _ _ _ _ ?_))
        clear hK23
        refine wp_seq' fun K24 hK24 => ?_
        refine wp_reg ?_
        refine ol_r (r_move rfl) rfl ?_
        refine ol_r (r_move rfl) rfl ?_
        refine ol_r (r_addN rfl rfl (by omega)) rfl ?_
        refine ol_r (r_assign rfl) rfl ?_
        refine ol_nil (to_k0 (fun _ _ h => h) (hK24 _ _ _ _ _ ?_))
        clear hK24
        refine wp_seq' fun K25 hK25 => ?_
        refine wp_reg ?_
        refine ol_r (r_move rfl) rfl ?_
        refine ol_r (r_geq rfl rfl) rfl ?_
        refine ol_nil (to_k0 (fun _ _ h => h) (hK25 _ _ _ _ _ ?_))
        clear hK25
        refine wp_condD rfl (fun hc85 => ?_) (fun hc85 => ?_)
        ·refine wp_exit' (to_k0 (fun _ _ h => h) (hK19 (_) _ _ ?_ (sub_cons rfl sub_nil) (sub_cons rfl (sub_cons rfl (sub_cons rfl (sub_cons rfl (sub_cons rfl (sub_cons rfl (sub_cons rfl (sub_cons rfl (sub_cons rfl sub_nil))))))))) subH_nil subH_nil))
         try dsimp only
         first
         | exact Nat.le_antisymm (dig_le (by omega) hqd1 (dig_brk (by omega) (by omega))) (by omega)
        ·refine wp_skip' (to_k0 (fun _ _ h => h) (hK20 ((q - 1, r + Y / 4294967296)) _ _ ?_ ?_ (sub_cons rfl (sub_cons rfl sub_nil)) (sub_cons rfl (sub_cons rfl (sub_cons rfl (sub_cons rfl (sub_cons rfl (sub_cons rfl (sub_cons rfl (sub_cons rfl (sub_cons rfl sub_nil))))))))) (by exact subH_nil) subH_nil))
         ·try dsimp only
          exact ⟨hqd1, by omega, by omega, by omega⟩
         ·try dsimp only
          omega
       ·have phs69 := hs69; try simp only [decide_eq_true_eq, decide_eq_false_iff_not, Bool.not_eq_true', Bool.not_eq_false', Bool.not_true, Bool.not_false] at phs69
        refine ol_g rfl rfl hs69 ?_
        refine ol_r (r_move rfl) rfl ?_
        refine ol_g rfl rfl hs69 ?_
        refine ol_r (r_move rfl) rfl ?_
        refine ol_g rfl rfl hs69 ?_
        refine ol_r (r_mulN rfl rfl (by omega)) rfl ?_
        refine ol_g rfl rfl hs69 ?_
        refine ol_r (r_move rfl) rfl ?_
        refine ol_g rfl rfl hs69 ?_
        refine ol_r (r_mulN (a := 4294967296) rfl rfl (by omega)) rfl ?_
        refine ol_g rfl rfl hs69 ?_
        refine ol_r (r_move rfl) rfl ?_
        refine ol_g rfl rfl hs69 ?_
        refine ol_r (r_addN rfl rfl (by omega)) rfl ?_
        refine ol_g rfl rfl hs69 ?_
        refine ol_r (r_gtr rfl rfl) rfl ?_
        refine ol_r (r_pickF rfl hs69 rfl) rfl ?_
        refine ol_nil (to_k0 (fun _ _ h => h) (hK22 _ _ _ _ _ ?_))
        clear hK22
        refine wp_condD rfl (fun hc78 => ?_) (fun hc78 => ?_)
        ·refine wp_skip' (to_k0 (fun _ _ h => h) (hK21 _ _ _ _ _ ?_))
         clear hK21
         refine wp_block' ?_
         refine wp_seq' fun K26 hK26 => ?_
         refine wp_reg ?_
         refine ol_r (r_move rfl) rfl ?_
         have hdec : digQ u (t / 4294967296) Y < q := by
           first
           | exact dig_dec (by omega) hU (by omega) hq1 (.inl (by omega))
           | exact dig_dec (by omega) hU (by omega) hq1 (.inr (by omega))
         have hqd1 : (q - 1) * (Y / 4294967296) + (r + Y / 4294967296) = u := by
           have h3 : (q - 1 + 1) * (Y / 4294967296) = (q - 1) * (Y / 4294967296) + Y / 4294967296 := by rw [Nat.add_mul, Nat.one_mul]
           rw [Nat.sub_add_cancel (by omega)] at h3
           omega
         refine ol_r (r_subN (b := 1) rfl rfl (by omega) (by omega)) rfl ?_
         refine ol_r (r_assign rfl) rfl ?_
         refine ol_nil (to_k0 (fun _ _ h => h) (hK26 _ _ _ _ _ ?_))
         clear hK26
         refine wp_seq' fun K27 hK27 => ?_
         refine wp_reg ?_
         refine ol_r (r_move rfl) rfl ?_
         refine ol_r (r_move rfl) rfl ?_
         refine ol_r (r_addN rfl rfl (by omega)) rfl ?_
         refine ol_r (r_assign rfl) rfl ?_
         refine ol_nil (to_k0 (fun _ _ h => h) (hK27 _ _ _ _ _ ?_))
         clear hK27
         refine wp_seq' fun K28 hK28 => ?_
         refine wp_reg ?_
         refine ol_r (r_move rfl) rfl ?_
         refine ol_r (r_geq rfl rfl) rfl ?_
         refine ol_nil (to_k0 (fun _ _ h => h) (hK28 _ _ _ _ _ ?_))
         clear hK28
         refine wp_condD rfl (fun hc85 => ?_) (fun hc85 => ?_)
         ·refine wp_exit' (to_k0 (fun _ _ h => h) (hK19 (_) _ _ ?_ (sub_cons rfl sub_nil) (sub_cons rfl (sub_cons rfl (sub_cons rfl (sub_cons rfl (sub_cons rfl (sub_cons rfl (sub_cons rfl (sub_cons rfl (sub_cons rfl sub_nil))))))))) subH_nil subH_nil))
          try dsimp only
          first
          | exact Nat.le_antisymm (dig_le (by omega) hqd1 (dig_brk (by omega) (by omega))) (by omega)
         ·refine wp_skip' (to_k0 (fun _ _ h => h) (hK20 ((q - 1, r + Y / 4294967296)) _ _ ?_ ?_ (sub_cons rfl (sub_cons rfl sub_nil)) (sub_cons rfl (sub_cons rfl (sub_cons rfl (sub_cons rfl (sub_cons rfl (sub_cons rfl (sub_cons rfl (sub_cons rfl (sub_cons rfl sub_nil))))))))) (by exact subH_nil) subH_nil))
          ·try dsimp only
           exact ⟨hqd1, by omega, by omega, by omega⟩
          ·try dsimp only
           omega
        ·refine wp_exit' (to_k0 (fun _ _ h => h) (hK19 (_) _ _ ?_ (sub_cons rfl sub_nil) (sub_cons rfl (sub_cons rfl (sub_cons rfl (sub_cons rfl (sub_cons rfl (sub_cons rfl (sub_cons rfl (sub_cons rfl (sub_cons rfl sub_nil))))))))) subH_nil subH_nil))
         try dsimp only
         first
         | exact Nat.le_antisymm (dig_le (r := r) (by omega) hq1 (by omega)) hq2
     ·rintro q1 rfl
      have hQ1 := dig_rest u (t / 4294967296) Y
      have hQ1l := digQ_lt (u := u) (d := t / 4294967296) hU (by omega)
      obtain ⟨v, hv⟩ : ∃ v, v = (u * 4294967296 + t / 4294967296) % Y := ⟨_, rfl⟩
      rw [← hv] at hQ1
      have hvY : v < Y := by rw [hv]; exact Nat.mod_lt _ (by omega)
      have hd0 := dig_start (u := v) (d := t % 4294967296) hY1 hY2 hvY (by omega)
      obtain ⟨hz1, hz2⟩ := div_two (hi := hi) (y := y) (s := s) (by omega) (by omega) hlo u hu t ht v (by rw [← hYe]; exact hv)
      rw [← hYe] at hz1 hz2
      have hQ0 := dig_rest v (t % 4294967296) Y
      have hQ0l := digQ_lt (u := v) (d := t % 4294967296) hvY (by omega)
      have hR0 : (v * 4294967296 + t % 4294967296) % Y < Y := Nat.mod_lt _ (by omega)
      refine wp_seq' fun K29 hK29 => ?_
      refine wp_reg ?_
      refine ol_r (r_move rfl) rfl ?_
      refine ol_r (r_mulg _ rfl rfl rfl) rfl ?_
      refine ol_r (r_move rfl) rfl ?_
      refine ol_r (r_addg _ rfl rfl rfl) rfl ?_
      refine ol_r (r_move rfl) rfl ?_
      refine ol_r (r_move rfl) rfl ?_
      refine ol_r (r_mulg _ rfl rfl rfl) rfl ?_
      refine ol_r (r_subg (v : Int) rfl rfl (wrap_rest hQ1 (by omega))) rfl ?_
      refine ol_r (r_assign rfl) rfl ?_
      refine ol_nil (to_k0 (fun _ _ h => h) (hK29 _ _ _ _ _ ?_))
      clear hK29
      refine wp_seq' fun K30 hK30 => ?_
      refine wp_reg ?_
      refine ol_r (r_move rfl) rfl ?_
      refine ol_r (r_move rfl) rfl ?_
      refine ol_r (r_quoN rfl rfl (by omega) (by omega)) rfl ?_
      refine ol_r (r_assign rfl) rfl ?_
      refine ol_nil (to_k0 (fun _ _ h => h) (hK30 _ _ _ _ _ ?_))
      clear hK30
      refine wp_seq' fun K31 hK31 => ?_
      refine wp_reg ?_
      refine ol_r (r_move rfl) rfl ?_
      refine ol_r (r_move rfl) rfl ?_
      refine ol_r (r_move rfl) rfl ?_
      refine ol_r (r_mulN rfl rfl (by omega)) rfl ?_
      refine ol_r (r_subN rfl rfl (by omega) (by omega)) rfl ?_
      rw [show v - v / (Y / 4294967296) * (Y / 4294967296) = v % (Y / 4294967296) by omega]
      refine ol_r (r_assign rfl) rfl ?_
      refine ol_nil (to_k0 (fun _ _ h => h) (hK31 _ _ _ _ _ ?_))
      clear hK31
      apply wp_seq_cutM (σ := Nat) (fun s => s = digQ v (t % 4294967296) Y) (fun s => [(18, .int .u64 (s : Int))]) [(2, _), (6, _), (7, _), (8, _), (14, _), (15, _), (17, _)] (fun s => []) []
      ·exact (sub_cons rfl (sub_cons rfl (sub_cons rfl (sub_cons rfl (sub_cons rfl (sub_cons rfl (sub_cons rfl sub_nil)))))))
      ·exact subH_nil
      ·intro K32 hK32
       refine wp_block' ?_
       apply wp_loopM (σ := Nat × Nat) (fun s => s.1 * (Y / 4294967296) + s.2 = v ∧ digQ v (t % 4294967296) Y ≤ s.1 ∧ s.1 ≤ 4294967297 ∧ s.2 < 4294967296) (fun s => [(18, .int .u64 (s.1 : Int)), (16, .int .u64 (s.2 : Int))]) [(2, _), (6, _), (7, _), (8, _), (9, _), (10, _), (14, _), (15, _), (17, _)] (fun s => []) [] (fun s => s.1) ((_, _))
       ·try dsimp only
        exact ⟨hd0.1, hd0.2.1, hd0.2.2.1, by omega⟩
       ·exact (sub_cons rfl (sub_cons rfl sub_nil))
       ·exact (sub_cons rfl (sub_cons rfl (sub_cons rfl (sub_cons rfl (sub_cons rfl (sub_cons rfl (sub_cons rfl (sub_cons rfl (sub_cons rfl sub_nil)))))))))
       ·exact subH_nil
       ·exact subH_nil
       ·rintro ⟨q, r⟩ ⟨hq1, hq2, hq3, hq4⟩
        dsimp only at hq1 hq2 hq3 hq4 ⊢
        have hlow := dig_low (Y := Y) hq3
        intro K33 hK33
        refine wp_seq' fun K34 hK34 => ?_
        refine wp_seq' fun K35 hK35 => ?_
        refine wp_reg ?_
        refine ol_r (r_move rfl) rfl ?_
        refine ol_r (r_geq rfl rfl) rfl ?_
        refine ol_r (r_move rfl) rfl ?_
        refine ol_split (d := 104) rfl (fun hs104 => ?_) (fun hs104 => ?_)
        ·have phs104 := hs104; try simp only [decide_eq_true_eq, decide_eq_false_iff_not, Bool.not_eq_true', Bool.not_eq_false', Bool.not_true, Bool.not_false] at phs104
         refine ol_s rfl rfl hs104 rfl ?_
         refine ol_s rfl rfl hs104 rfl ?_
         refine ol_s rfl rfl hs104 rfl ?_
         refine ol_s rfl rfl hs104 rfl ?_
         refine ol_s rfl rfl hs104 rfl ?_
         refine ol_s rfl rfl hs104 rfl ?_
         refine ol_s rfl rfl hs104 rfl ?_
         refine ol_s rfl rfl hs104 rfl ?_
         refine ol_r (r_pickT rfl hs104 rfl) rfl ?_
         refine ol_nil (to_k0 (fun _ _ h => h) (hK35 _ _ _ _ _ ?_))
         clear hK35
         refine wp_condT rfl ?_
         refine wp_skip' (to_k0 (fun _ _ h => h) (hK34 _ _ _ _ _ ?_))
         clear hK34
         refine wp_block' ?_
         refine wp_seq' fun K36 hK36 => ?_
         refine wp_reg ?_
         refine ol_r (r_move rfl) rfl ?_
         have hdec : digQ v (t % 4294967296) Y < q := by
           first
           | exact dig_dec (by omega) hvY (by omega) hq1 (.inl (by omega))
           | exact dig_dec (by omega) hvY (by omega) hq1 (.inr (by omega))
         have hqd1 : (q - 1) * (Y / 4294967296) + (r + Y / 4294967296) = v := by
           have h3 : (q - 1 + 1) * (Y / 4294967296) = (q - 1) * (Y / 4294967296) + Y / 4294967296 := by rw [Nat.add_mul, Nat.one_mul]
           rw [Nat.sub_add_cancel (by omega)] at h3
           omega
         refine ol_r (r_subN (b := 1) rfl rfl (by omega) (by omega)) rfl ?_
         refine ol_r (r_assign rfl) rfl ?_
         refine ol_nil (to_k0 (fun _ _ h => h) (hK36 _ _ _ _ _ ?_))
         clear hK36
         refine wp_seq' fun K37 hK37 => ?_
         refine wp_reg ?_
         refine ol_r (r_move rfl) rfl ?_
         refine ol_r (r_move rfl) rfl ?_
         refine ol_r (r_addN rfl rfl (by omega)) rfl ?_
         refine ol_r (r_assign rfl) rfl ?_
         refine ol_nil (to_k0 (fun _ _ h => h) (hK37 _ _ _ _ _ ?_))
         clear hK37
         refine wp_seq' fun K38 hK38 => ?_
         refine wp_reg ?_
         refine ol_r (r_move rfl) rfl ?_
         refine ol_r (r_geq rfl rfl) rfl ?_
         refine ol_nil (to_k0 (fun _ _ h => h) (hK38 _ _ _ _ _ ?_))
         clear hK38
         refine wp_condD rfl (fun hc120 => ?_) (fun hc120 => ?_)
         ·refine wp_exit' (to_k0 (fun _ _ h => h) (hK32 (_) _ _ ?_ (sub_cons rfl sub_nil) (sub_cons rfl (sub_cons rfl (sub_cons rfl (sub_cons rfl (sub_cons rfl (sub_cons rfl (sub_cons rfl sub_nil))))))) subH_nil subH_nil))
          try dsimp only
          first
          | exact Nat.le_antisymm (dig_le (by omega) hqd1 (dig_brk (by omega) (by omega))) (by omega)
         ·refine wp_skip' (to_k0 (fun _ _ h => h) (hK33 ((q - 1, r + Y / 4294967296)) _ _ ?_ ?_ (sub_cons rfl (sub_cons rfl sub_nil)) (sub_cons rfl (sub_cons rfl (sub_cons rfl (sub_cons rfl (sub_cons rfl (sub_cons rfl (sub_cons rfl (sub_cons rfl (sub_cons rfl sub_nil))))))))) (by exact subH_nil) subH_nil))
          ·try dsimp only
           exact ⟨hqd1, by omega, by omega, by omega⟩
          ·try dsimp only
           omega
        ·have phs104 := hs104; try simp only [decide_eq_true_eq, decide_eq_false_iff_not, Bool.not_eq_true', Bool.not_eq_false', Bool.not_true, Bool.not_false] at phs104
         refine ol_g rfl rfl hs104 ?_
         refine ol_r (r_move rfl) rfl ?_
         refine ol_g rfl rfl hs104 ?_
         refine ol_r (r_move rfl) rfl ?_
         refine ol_g rfl rfl hs104 ?_
         refine ol_r (r_mulN rfl rfl (by omega)) rfl ?_
         refine ol_g rfl rfl hs104 ?_
         refine ol_r (r_move rfl) rfl ?_
         refine ol_g rfl rfl hs104 ?_
         refine ol_r (r_mulN (a := 4294967296) rfl rfl (by omega)) rfl ?_
         refine ol_g rfl rfl hs104 ?_
         refine ol_r (r_move rfl) rfl ?_
         refine ol_g rfl rfl hs104 ?_
         refine ol_r (r_addN rfl rfl (by omega)) rfl ?_
         refine ol_g rfl rfl hs104 ?_
         refine ol_r (r_gtr rfl rfl) rfl ?_
         refine ol_r (r_pickF rfl hs104 rfl) rfl ?_
         refine ol_nil (to_k0 (fun _ _ h => h) (hK35 _ _ _ _ _ ?_))
         clear hK35
         refine wp_condD rfl (fun hc113 => ?_) (fun hc113 => ?_)
         ·refine wp_skip' (to_k0 (fun _ _ h => h) (hK34 _ _ _ _ _ ?_))
          clear hK34
          refine wp_block' ?_
          refine wp_seq' fun K39 hK39 => ?_
          refine wp_reg ?_
          refine ol_r (r_move rfl) rfl ?_
          have hdec : digQ v (t % 4294967296) Y < q := by
            first
            | exact dig_dec (by omega) hvY (by omega) hq1 (.inl (by omega))
            | exact dig_dec (by omega) hvY (by omega) hq1 (.inr (by omega))
          have hqd1 : (q - 1) * (Y / 4294967296) + (r + Y / 4294967296) = v := by
            have h3 : (q - 1 + 1) * (Y / 4294967296) = (q - 1) * (Y / 4294967296) + Y / 4294967296 := by rw [Nat.add_mul, Nat.one_mul]
            rw [Nat.sub_add_cancel (by omega)] at h3
            omega
          refine ol_r (r_subN (b := 1) rfl rfl (by omega) (by omega)) rfl ?_
          refine ol_r (r_assign rfl) rfl ?_
          refine ol_nil (to_k0 (fun _ _ h => h) (hK39 _ _ _ _ _ ?_))
          clear hK39
          refine wp_seq' fun K40 hK40 => ?_
          refine wp_reg ?_
          refine ol_r (r_move rfl) rfl ?_
          refine ol_r (r_move rfl) rfl ?_
          refine ol_r (r_addN rfl rfl (by omega)) rfl ?_
          refine ol_r (r_assign rfl) rfl ?_
          refine ol_nil (to_k0 (fun _ _ h => h) (hK40 _ _ _ _ _ ?_))
          clear hK40
          refine wp_seq' fun K41 hK41 => ?_
          refine wp_reg ?_
          refine ol_r (r_move rfl) rfl ?_
          refine ol_r (r_geq rfl rfl) rfl ?_
          refine ol_nil (to_k0 (fun _ _ h => h) (hK41 _ _ _ _ _ ?_))
          clear hK41
          refine wp_condD rfl (fun hc120 => ?_) (fun hc120 => ?_)
          ·refine wp_exit' (to_k0 (fun _ _ h => h) (hK32 (_) _ _ ?_ (sub_cons rfl sub_nil) (sub_cons rfl (sub_cons rfl (sub_cons rfl (sub_cons rfl (sub_cons rfl (sub_cons rfl (sub_cons rfl sub_nil))))))) subH_nil subH_nil))
           try dsimp only
           first
           | exact Nat.le_antisymm (dig_le (by omega) hqd1 (dig_brk (by omega) (by omega))) (by omega)
          ·refine wp_skip' (to_k0 (fun _ _ h => h) (hK33 ((q - 1, r + Y / 4294967296)) _ _ ?_ ?_ (sub_cons rfl (sub_cons rfl sub_nil)) (sub_cons rfl (sub_cons rfl (sub_cons rfl (sub_cons rfl (sub_cons rfl (sub_cons rfl (sub_cons rfl (sub_cons rfl (sub_cons rfl sub_nil))))))))) (by exact subH_nil) subH_nil))
           ·try dsimp only
            exact ⟨hqd1, by omega, by omega, by omega⟩
           ·try dsimp only
            omega
         ·refine wp_exit' (to_k0 (fun _ _ h => h) (hK32 (_) _ _ ?_ (sub_cons rfl sub_nil) (sub_cons rfl (sub_cons rfl (sub_cons rfl (sub_cons rfl (sub_cons rfl (sub_cons rfl (sub_cons rfl sub_nil))))))) subH_nil subH_nil))
          try dsimp only
          first
          | exact Nat.le_antisymm (dig_le (r := r) (by omega) hq1 (by omega)) hq2
      ·rintro q0 rfl
       refine wp_seq' fun K42 hK42 => ?_
       refine wp_reg ?_
       refine ol_r (r_move rfl) rfl ?_
       refine ol_r (r_mulN (b := 4294967296) rfl rfl (by omega)) rfl ?_
       refine ol_r (r_move rfl) rfl ?_
       refine ol_r (r_addN rfl rfl (by omega)) rfl ?_
       refine ol_r (r_move rfl) rfl ?_
       refine ol_r (r_mulg _ rfl rfl rfl) rfl ?_
       refine ol_r (r_move rfl) rfl ?_
       refine ol_r (r_addg _ rfl rfl rfl) rfl ?_
       refine ol_r (r_move rfl) rfl ?_
       refine ol_r (r_move rfl) rfl ?_
       refine ol_r (r_mulg _ rfl rfl rfl) rfl ?_
       refine ol_r (r_subg (((v * 4294967296 + t % 4294967296) % Y : Nat) : Int) rfl rfl (wrap_rest hQ0 (by omega))) rfl ?_
       refine ol_r (r_move rfl) rfl ?_
       refine ol_r (r_shrN s rfl rfl rfl (by omega)) rfl ?_
       refine ol_r (r_assign rfl) rfl ?_
       refine ol_r (r_assign rfl) rfl ?_
       refine ol_nil (to_k0 (fun _ _ h => h) (hK42 _ _ _ _ _ ?_))
       clear hK42
       refine hQ.ret (rvs2 (rv_t rfl) (rv_t rfl)) (fun _ _ h => h) fun w hb hs hB hkd => ?_
       exact ⟨by rw [hz1, hz2], hb⟩
theorem bits_MulI (x y : Int) (w : World) (hx : 0 ≤ x ∧ x < 18446744073709551616) (hy : 0 ≤ y ∧ y < 18446744073709551616) :
    Calls Try.prog 130 #[.int .u64 x, .int .u64 y] w fun e w' => e = .returned (.tuple #[.int .u64 (x * y / 18446744073709551616), .int .u64 (x * y % 18446744073709551616)]) ∧ Below w.heap.size w w' := by
  obtain ⟨a, rfl⟩ := Int.eq_ofNat_of_zero_le hx.1
  obtain ⟨b, rfl⟩ := Int.eq_ofNat_of_zero_le hy.1
  have h := bits_Mul64N a b w (by omega) (by omega)
  rw [Int.natCast_ediv, Int.natCast_emod, Int.natCast_mul] at h
  exact h
theorem bits_DivI (p d : Int) (w : World) (hp : 0 ≤ p) (hd : 1 ≤ d ∧ d < 18446744073709551616) (hq : p / 18446744073709551616 < d) :
    Calls Try.prog 135 #[.int .u64 (p / 18446744073709551616), .int .u64 (p % 18446744073709551616), .int .u64 d] w fun e w' => e = .returned (.tuple #[.int .u64 (p / d), .int .u64 (p % d)]) ∧ Below w.heap.size w w' := by
  obtain ⟨a, rfl⟩ := Int.eq_ofNat_of_zero_le hp
  obtain ⟨b, rfl⟩ := Int.eq_ofNat_of_zero_le (show 0 ≤ d by omega)
  have h := bits_Div64N (a / 18446744073709551616) (a % 18446744073709551616) b w (by omega) (by omega) (Nat.mod_lt _ (by omega))
  rw [Nat.div_add_mod'] at h
  simp only [Int.natCast_ediv, Int.natCast_emod] at h
  exact h
theorem way_downG (below : Bool) (whole half : Int) (w : World) : Calls Try.prog 148 #[.bool below, .int .u64 whole, .int .i64 half] w fun e w' => e = .returned (.bool below) ∧ Below w.heap.size w w' := by
  refine enterQ (N := 8) (C := fun _ => True) (H := []) (B := w.heap.size) (args := [_, _, _]) Try.func148 rfl rfl rfl (Nat.le_refl _) (Sat.nil _ _) fun Q hQ => ?_
  refine wp_seq' fun K1 hK1 => ?_
  refine wp_reg ?_
  refine ol_r (r_assign rfl) rfl ?_
  refine ol_nil (to_k0 (fun _ _ h => h) (hK1 _ _ _ _ _ ?_))
  clear hK1
  refine wp_seq' fun K2 hK2 => ?_
  refine wp_reg ?_
  refine ol_r (r_move rfl) rfl ?_
  refine ol_r (r_assign rfl) rfl ?_
  refine ol_nil (to_k0 (fun _ _ h => h) (hK2 _ _ _ _ _ ?_))
  clear hK2
  refine hQ.ret (rvs1 (rv_t rfl)) (fun _ _ h => h) fun w hb hs hB hkd => ?_
  exact ⟨rfl, hb⟩
theorem scale_facts {a num den : Int} (h0 : 0 ≤ a * num) (hd : 1 ≤ den) (hx : a * num / den ≤ 4611686018427387904) : a * num / 18446744073709551616 < den ∧ 0 ≤ a * num / den ∧ 0 ≤ a * num % den ∧ a * num % den < den := by
  refine ⟨?_, Int.ediv_nonneg h0 (by omega), Int.emod_nonneg _ (by omega), Int.emod_lt_of_pos _ (by omega)⟩
  refine Int.ediv_lt_of_lt_mul (by decide) ?_
  have h1 : a * num < den * (a * num / den) + den := by
    have := Int.mul_ediv_add_emod (a * num) den
    have := Int.emod_lt_of_pos (a * num) (show 0 < den by omega)
    omega
  have h2 := Int.mul_le_mul_of_nonneg_left hx (show 0 ≤ den by omega)
  omega
theorem quant_ScaleD (a num den : Int) (w : World) (ha : 0 ≤ a ∧ a ≤ 9223372036854775807) (hn : 0 ≤ num ∧ num ≤ 9223372036854775807) (hd : 1 ≤ den ∧ den ≤ 9223372036854775807) (hx : a * num / den ≤ 4611686018427387904) :
    Calls Try.prog 106 #[.int .i64 a, .int .i64 num, .int .i64 den, .int .i64 1] w fun e w' => e = .returned (.tuple #[.int .i64 (a * num / den), .int .i64 0]) ∧ Below w.heap.size w w' := by
  have h0 : 0 ≤ a * num := Int.mul_nonneg ha.1 hn.1
  obtain ⟨hhi, hq, hr, hr2⟩ := scale_facts h0 hd.1 hx
  refine enterQ (N := 88) (C := fun _ => True) (H := []) (B := w.heap.size) (args := [_, _, _, _]) Try.func106 rfl rfl rfl (Nat.le_refl _) (Sat.nil _ _) fun Q hQ => ?_
  refine wp_seq' fun K1 hK1 => ?_
  refine wp_reg ?_
  refine ol_box 7 rfl rfl rfl fun b7 => ?_
  refine ol_r (r_assign rfl) rfl ?_
  refine ol_r (r_assign rfl) rfl ?_
  refine ol_nil (to_k0 (fun _ _ h => h) (hK1 _ _ _ _ _ ?_))
  clear hK1
  refine wp_seq' fun K2 hK2 => ?_
  refine wp_reg ?_
  refine ol_call rfl rfl cb132 rfl (fun w1 hb1 hs1 hB1 => Calls.mono (quant_ways _) ?_)
  rintro e w2 ⟨a18, n18, c18, rfl, hf18⟩
  refine After.fresh (id := 18) rfl hb1 hs1 hB1 hf18 ?_
  have hl18 := hf18.len; clear hf18 hB1 hs1 hb1 w2 w1
  refine ol_r (r_assign rfl) rfl ?_
  refine ol_nil (to_k0 (fun _ _ h => h) (hK2 _ _ _ _ _ ?_))
  clear hK2
  refine wp_seq' fun K3 hK3 => ?_
  refine wp_reg ?_
  have hn18 : n18 = 5 := by rw [← hl18]; rfl
  refine ol_r (r_move rfl) rfl ?_
  refine ol_r (r_func rfl) rfl ?_
  refine ol_call rfl rfl cb133 rfl (fun w1 hb1 hs1 hB1 => Calls.mono (indexFunc_way _ _ _ waysL _ _ (fun x => decide (x.1 = 1)) 0 _ (Sat.rd hs1 (E := encWay) (id := 18) rfl rfl) cb134 rfl (fun x w' _ h1 h2 => scale_is x 1 _ w' ((hs1.blk (id := 7) rfl).at h1 h2))) ?_)
  rintro e w2 ⟨rfl, hb2⟩
  refine After.below rfl hb1 hs1 hB1 hb2 ?_
  clear hb2 hB1 hs1 hb1 w2 w1
  refine ol_r (r_assign rfl) rfl ?_
  refine ol_nil (to_k0 (fun _ _ h => h) (hK3 _ _ _ _ _ ?_))
  clear hK3
  refine wp_seq' fun K4 hK4 => ?_
  refine wp_seq' fun K5 hK5 => ?_
  refine wp_reg ?_
  refine ol_r (r_move rfl) rfl ?_
  refine ol_r (r_lss rfl rfl) rfl ?_
  refine ol_nil (to_k0 (fun _ _ h => h) (hK5 _ _ _ _ _ ?_))
  clear hK5
  refine wp_condD rfl (fun hc23 => ?_) (fun hc23 => ?_)
  ·exfalso
   omega
  ·refine wp_skip' (to_k0 (fun _ _ h => h) (hK4 _ _ _ _ _ ?_))
   clear hK4
   refine wp_seq' fun K6 hK6 => ?_
   refine wp_seq' fun K7 hK7 => ?_
   refine wp_reg ?_
   refine ol_r (r_move rfl) rfl ?_
   refine ol_r (r_leq rfl rfl) rfl ?_
   refine ol_r (r_move rfl) rfl ?_
   refine ol_split (d := 26) rfl (fun hs26 => ?_) (fun hs26 => ?_)
   ·have phs26 := hs26; try simp only [decide_eq_true_eq, decide_eq_false_iff_not, Bool.not_eq_true', Bool.not_eq_false', Bool.not_true, Bool.not_false] at phs26
    refine ol_s rfl rfl hs26 rfl ?_
    refine ol_s rfl rfl hs26 rfl ?_
    refine ol_r (r_pickT rfl hs26 rfl) rfl ?_
    refine ol_nil (to_k0 (fun _ _ h => h) (hK7 _ _ _ _ _ ?_))
    clear hK7
    refine wp_condT rfl ?_
    refine wp_seq' fun K8 hK8 => ?_
    refine wp_reg ?_
    refine ol_r (r_assign rfl) rfl ?_
    refine ol_r (r_assign rfl) rfl ?_
    refine ol_nil (to_k0 (fun _ _ h => h) (hK8 _ _ _ _ _ ?_))
    clear hK8
    refine hQ.ret (rvs2 (rv_t rfl) (rv_t rfl)) (fun _ _ h => h) fun w hb hs hB hkd => ?_
    first
      | (exfalso; omega)
   ·have phs26 := hs26; try simp only [decide_eq_true_eq, decide_eq_false_iff_not, Bool.not_eq_true', Bool.not_eq_false', Bool.not_true, Bool.not_false] at phs26
    refine ol_g rfl rfl hs26 ?_
    refine ol_r (r_move rfl) rfl ?_
    refine ol_g rfl rfl hs26 ?_
    refine ol_r (r_lss rfl rfl) rfl ?_
    refine ol_r (r_pickF rfl hs26 rfl) rfl ?_
    refine ol_nil (to_k0 (fun _ _ h => h) (hK7 _ _ _ _ _ ?_))
    clear hK7
    refine wp_condD rfl (fun hc29 => ?_) (fun hc29 => ?_)
    ·exfalso
     omega
    ·refine wp_skip' (to_k0 (fun _ _ h => h) (hK6 _ _ _ _ _ ?_))
     clear hK6
     refine wp_seq' fun K9 hK9 => ?_
     refine wp_reg ?_
     refine ol_r (r_move rfl) rfl ?_
     refine ol_r (r_lss rfl rfl) rfl ?_
     refine ol_r (r_assign rfl) rfl ?_
     refine ol_nil (to_k0 (fun _ _ h => h) (hK9 _ _ _ _ _ ?_))
     clear hK9
     refine wp_seq' fun K10 hK10 => ?_
     refine wp_reg ?_
     refine ol_r (r_move rfl) rfl ?_
     refine ol_r (r_conv (k2 := .u64) rfl (by kernel_rfl) (by kernel_rfl) (wrap_u64 (by omega))) rfl ?_
     refine ol_r (r_assign rfl) rfl ?_
     refine ol_nil (to_k0 (fun _ _ h => h) (hK10 _ _ _ _ _ ?_))
     clear hK10
     refine wp_seq' fun K11 hK11 => ?_
     refine wp_seq' fun K12 hK12 => ?_
     refine wp_reg ?_
     refine ol_r (r_move rfl) rfl ?_
     refine ol_nil (to_k0 (fun _ _ h => h) (hK12 _ _ _ _ _ ?_))
     clear hK12
     refine wp_condD rfl (fun hc34 => ?_) (fun hc34 => ?_)
     ·exfalso
      omega
     ·refine wp_skip' (to_k0 (fun _ _ h => h) (hK11 _ _ _ _ _ ?_))
      clear hK11
      refine wp_seq' fun K13 hK13 => ?_
      refine wp_reg ?_
      refine ol_r (r_move rfl) rfl ?_
      refine ol_r (r_move rfl) rfl ?_
      refine ol_r (r_conv (k2 := .u64) rfl (by kernel_rfl) (by kernel_rfl) (wrap_u64 (by omega))) rfl ?_
      refine ol_call rfl rfl cb130 rfl (fun w1 hb1 hs1 hB1 => Calls.mono (bits_MulI a num _ (by omega) (by omega)) ?_)
      rintro e w2 ⟨rfl, hb2⟩
      refine After.below rfl hb1 hs1 hB1 hb2 ?_
      clear hb2 hB1 hs1 hb1 w2 w1
      refine ol_r (r_move rfl) rfl ?_
      refine ol_r (r_extract rfl rfl) rfl ?_
      refine ol_r (r_extract rfl rfl) rfl ?_
      refine ol_r (r_assign rfl) rfl ?_
      refine ol_r (r_assign rfl) rfl ?_
      refine ol_nil (to_k0 (fun _ _ h => h) (hK13 _ _ _ _ _ ?_))
      clear hK13
      refine wp_seq' fun K14 hK14 => ?_
      refine wp_seq' fun K15 hK15 => ?_
      refine wp_reg ?_
      refine ol_r (r_move rfl) rfl ?_
      refine ol_r (r_move rfl) rfl ?_
      refine ol_r (r_conv (k2 := .u64) rfl (by kernel_rfl) (by kernel_rfl) (wrap_u64 (by omega))) rfl ?_
      refine ol_r (r_geq rfl rfl) rfl ?_
      refine ol_nil (to_k0 (fun _ _ h => h) (hK15 _ _ _ _ _ ?_))
      clear hK15
      refine wp_condD rfl (fun hc47 => ?_) (fun hc47 => ?_)
      ·exfalso
       omega
      ·refine wp_skip' (to_k0 (fun _ _ h => h) (hK14 _ _ _ _ _ ?_))
       clear hK14
       refine wp_seq' fun K16 hK16 => ?_
       refine wp_reg ?_
       refine ol_r (r_move rfl) rfl ?_
       refine ol_r (r_move rfl) rfl ?_
       refine ol_r (r_move rfl) rfl ?_
       refine ol_r (r_conv (k2 := .u64) rfl (by kernel_rfl) (by kernel_rfl) (wrap_u64 (by omega))) rfl ?_
       refine ol_call rfl rfl cb135 rfl (fun w1 hb1 hs1 hB1 => Calls.mono (bits_DivI (a * num) den _ h0 (by omega) hhi) ?_)
       rintro e w2 ⟨rfl, hb2⟩
       refine After.below rfl hb1 hs1 hB1 hb2 ?_
       clear hb2 hB1 hs1 hb1 w2 w1
       refine ol_r (r_move rfl) rfl ?_
       refine ol_r (r_extract rfl rfl) rfl ?_
       refine ol_r (r_extract rfl rfl) rfl ?_
       refine ol_r (r_assign rfl) rfl ?_
       refine ol_r (r_assign rfl) rfl ?_
       refine ol_nil (to_k0 (fun _ _ h => h) (hK16 _ _ _ _ _ ?_))
       clear hK16
       refine wp_seq' fun K17 hK17 => ?_
       refine wp_seq' fun K18 hK18 => ?_
       refine wp_regq (by kernel_rfl) (by kernel_rfl) ?_
       refine ql_r (r_move rfl) rfl ?_
       refine ql_r (r_gtr rfl rfl) rfl ?_
       refine ql_r (r_move rfl) rfl ?_
       refine ql_split (d := 58) rfl (fun hs58 => ?_) (fun hs58 => ?_)
       ·have phs58 := hs58; try simp only [decide_eq_true_eq, decide_eq_false_iff_not, Bool.not_eq_true', Bool.not_eq_false', Bool.not_true, Bool.not_false] at phs58
        refine ql_g rfl rfl hs58 ?_
        refine ql_r (r_move rfl) rfl ?_
        refine ql_g rfl rfl hs58 ?_
        refine ql_r (r_leq rfl rfl) rfl ?_
        refine ql_r (r_pickT rfl hs58 rfl) rfl ?_
        refine ql_r (r_move rfl) rfl ?_
        refine ql_split (d := 62) rfl (fun hs62 => ?_) (fun hs62 => ?_)
        ·have phs62 := hs62; try simp only [decide_eq_true_eq, decide_eq_false_iff_not, Bool.not_eq_true', Bool.not_eq_false', Bool.not_true, Bool.not_false] at phs62
         refine ql_g rfl rfl hs62 ?_
         refine ql_r (r_move rfl) rfl ?_
         refine ql_g rfl rfl hs62 ?_
         refine ql_r (r_move rfl) rfl ?_
         refine ql_g rfl rfl hs62 ?_
         refine ql_ixo (id := 18) encWay waysL rfl rfl rfl rfl sl181 (by omega) (by omega) rfl fun x65 hx65 => ?_
         try simp only [Int.toNat_natCast] at hx65
         try simp only [Int.toNat_natCast] at hx65
         refine ql_g rfl rfl hs62 ?_
         have h65 := Option.some.inj (hx65.symm.trans (show _ = some ((1, 148) : Int × FuncId) from rfl))
         subst h65
         refine ql_r (r_faO (id := 18) rfl rfl rfl hx65 fl186_1) rfl ?_
         refine ql_g rfl rfl hs62 ?_
         refine ql_r (r_ldw rfl (fun w1 hb1 hs1 hB1 => ld_ownF (id := 18) (o := 1) hs1 rfl rfl sc184 hx65 rfl)) rfl ?_
         refine ql_g rfl rfl hs62 ?_
         refine ql_r (r_move rfl) rfl ?_
         refine ql_g rfl rfl hs62 ?_
         refine ql_r (r_move rfl) rfl ?_
         refine ql_g rfl rfl hs62 ?_
         refine ql_r (r_move rfl) rfl ?_
         refine ql_g rfl rfl hs62 ?_
         refine ql_r (r_move rfl) rfl ?_
         refine ql_g rfl rfl hs62 ?_
         refine ql_r (r_conv (k2 := .u64) rfl (by kernel_rfl) (by kernel_rfl) (wrap_u64 (by omega))) rfl ?_
         refine ql_g rfl rfl hs62 ?_
         refine ql_r (r_move rfl) rfl ?_
         refine ql_g rfl rfl hs62 ?_
         refine ql_r (r_subg _ rfl rfl (wrap_u64 (by omega))) rfl ?_
         refine ql_g rfl rfl hs62 ?_
         refine ql_call rfl rfl cb131 rfl (fun w1 hb1 hs1 hB1 => cmp_Compareu _ _ _) ?_
         refine ql_g rfl rfl hs62 ?_
         refine ql_call rfl rfl cb148 rfl (fun w1 hb1 hs1 hB1 => way_downG _ _ _ _) ?_
         refine ql_r (r_pickT rfl hs62 rfl) rfl ?_
         refine ql_nil (to_k0 (fun _ _ h => h) (hK18 _ _ _ _ _ ?_))
         clear hK18
         refine wp_condD rfl (fun hc77 => ?_) (fun hc77 => ?_)
         ·refine wp_reg ?_
          refine ol_r (r_move rfl) rfl ?_
          refine ol_r (r_addg _ rfl rfl (wrap_u64 (by omega))) rfl ?_
          refine ol_r (r_assign rfl) rfl ?_
          refine ol_nil (to_k0 (fun _ _ h => h) (hK17 _ _ _ _ _ ?_))
          clear hK17
          refine wp_seq' fun K19 hK19 => ?_
          refine wp_seq' fun K20 hK20 => ?_
          refine wp_reg ?_
          refine ol_r (r_move rfl) rfl ?_
          refine ol_r (r_gtr rfl rfl) rfl ?_
          refine ol_nil (to_k0 (fun _ _ h => h) (hK20 _ _ _ _ _ ?_))
          clear hK20
          refine wp_condD rfl (fun hc81 => ?_) (fun hc81 => ?_)
          ·exfalso
           omega
          ·refine wp_skip' (to_k0 (fun _ _ h => h) (hK19 _ _ _ _ _ ?_))
           clear hK19
           refine wp_seq' fun K21 hK21 => ?_
           refine wp_seq' fun K22 hK22 => ?_
           refine wp_reg ?_
           refine ol_r (r_move rfl) rfl ?_
           refine ol_nil (to_k0 (fun _ _ h => h) (hK22 _ _ _ _ _ ?_))
           clear hK22
           refine wp_condD rfl (fun hc82 => ?_) (fun hc82 => ?_)
           ·exfalso
            omega
           ·refine wp_skip' (to_k0 (fun _ _ h => h) (hK21 _ _ _ _ _ ?_))
            clear hK21
            refine wp_seq' fun K23 hK23 => ?_
            refine wp_reg ?_
            refine ol_r (r_move rfl) rfl ?_
            refine ol_r (r_conv (k2 := .i64) rfl (by kernel_rfl) (by kernel_rfl) (IntWalk.i64_in _ (by omega))) rfl ?_
            refine ol_r (r_assign rfl) rfl ?_
            refine ol_r (r_assign rfl) rfl ?_
            refine ol_nil (to_k0 (fun _ _ h => h) (hK23 _ _ _ _ _ ?_))
            clear hK23
            refine hQ.ret (rvs2 (rv_t rfl) (rv_t rfl)) (fun _ _ h => h) fun w hb hs hB hkd => ?_
            first
              | (exfalso; omega)
         ·refine wp_skip' (to_k0 (fun _ _ h => h) (hK17 _ _ _ _ _ ?_))
          clear hK17
          refine wp_seq' fun K24 hK24 => ?_
          refine wp_seq' fun K25 hK25 => ?_
          refine wp_reg ?_
          refine ol_r (r_move rfl) rfl ?_
          refine ol_r (r_gtr rfl rfl) rfl ?_
          refine ol_nil (to_k0 (fun _ _ h => h) (hK25 _ _ _ _ _ ?_))
          clear hK25
          refine wp_condD rfl (fun hc81 => ?_) (fun hc81 => ?_)
          ·exfalso
           omega
          ·refine wp_skip' (to_k0 (fun _ _ h => h) (hK24 _ _ _ _ _ ?_))
           clear hK24
           refine wp_seq' fun K26 hK26 => ?_
           refine wp_seq' fun K27 hK27 => ?_
           refine wp_reg ?_
           refine ol_r (r_move rfl) rfl ?_
           refine ol_nil (to_k0 (fun _ _ h => h) (hK27 _ _ _ _ _ ?_))
           clear hK27
           refine wp_condD rfl (fun hc82 => ?_) (fun hc82 => ?_)
           ·exfalso
            omega
           ·refine wp_skip' (to_k0 (fun _ _ h => h) (hK26 _ _ _ _ _ ?_))
            clear hK26
            refine wp_seq' fun K28 hK28 => ?_
            refine wp_reg ?_
            refine ol_r (r_move rfl) rfl ?_
            refine ol_r (r_conv (k2 := .i64) rfl (by kernel_rfl) (by kernel_rfl) (IntWalk.i64_in _ (by omega))) rfl ?_
            refine ol_r (r_assign rfl) rfl ?_
            refine ol_r (r_assign rfl) rfl ?_
            refine ol_nil (to_k0 (fun _ _ h => h) (hK28 _ _ _ _ _ ?_))
            clear hK28
            refine hQ.ret (rvs2 (rv_t rfl) (rv_t rfl)) (fun _ _ h => h) fun w hb hs hB hkd => ?_
            first
              | exact ⟨rfl, hb⟩
        ·have phs62 := hs62; try simp only [decide_eq_true_eq, decide_eq_false_iff_not, Bool.not_eq_true', Bool.not_eq_false', Bool.not_true, Bool.not_false] at phs62
         refine ql_s rfl rfl hs62 rfl ?_
         refine ql_s rfl rfl hs62 rfl ?_
         refine ql_s rfl rfl hs62 rfl ?_
         refine ql_s rfl rfl hs62 rfl ?_
         refine ql_s rfl rfl hs62 rfl ?_
         refine ql_s rfl rfl hs62 rfl ?_
         refine ql_s rfl rfl hs62 rfl ?_
         refine ql_s rfl rfl hs62 rfl ?_
         refine ql_s rfl rfl hs62 rfl ?_
         refine ql_s rfl rfl hs62 rfl ?_
         refine ql_s rfl rfl hs62 rfl ?_
         refine ql_s rfl rfl hs62 rfl ?_
         refine ql_s rfl rfl hs62 rfl ?_
         refine ql_s rfl rfl hs62 rfl ?_
         refine ql_r (r_pickF rfl hs62 rfl) rfl ?_
         refine ql_nil (to_k0 (fun _ _ h => h) (hK18 _ _ _ _ _ ?_))
         clear hK18
         refine wp_condF rfl ?_
         refine wp_skip' (to_k0 (fun _ _ h => h) (hK17 _ _ _ _ _ ?_))
         clear hK17
         refine wp_seq' fun K29 hK29 => ?_
         refine wp_seq' fun K30 hK30 => ?_
         refine wp_reg ?_
         refine ol_r (r_move rfl) rfl ?_
         refine ol_r (r_gtr rfl rfl) rfl ?_
         refine ol_nil (to_k0 (fun _ _ h => h) (hK30 _ _ _ _ _ ?_))
         clear hK30
         refine wp_condD rfl (fun hc81 => ?_) (fun hc81 => ?_)
         ·exfalso
          omega
         ·refine wp_skip' (to_k0 (fun _ _ h => h) (hK29 _ _ _ _ _ ?_))
          clear hK29
          refine wp_seq' fun K31 hK31 => ?_
          refine wp_seq' fun K32 hK32 => ?_
          refine wp_reg ?_
          refine ol_r (r_move rfl) rfl ?_
          refine ol_nil (to_k0 (fun _ _ h => h) (hK32 _ _ _ _ _ ?_))
          clear hK32
          refine wp_condD rfl (fun hc82 => ?_) (fun hc82 => ?_)
          ·exfalso
           omega
          ·refine wp_skip' (to_k0 (fun _ _ h => h) (hK31 _ _ _ _ _ ?_))
           clear hK31
           refine wp_seq' fun K33 hK33 => ?_
           refine wp_reg ?_
           refine ol_r (r_move rfl) rfl ?_
           refine ol_r (r_conv (k2 := .i64) rfl (by kernel_rfl) (by kernel_rfl) (IntWalk.i64_in _ (by omega))) rfl ?_
           refine ol_r (r_assign rfl) rfl ?_
           refine ol_r (r_assign rfl) rfl ?_
           refine ol_nil (to_k0 (fun _ _ h => h) (hK33 _ _ _ _ _ ?_))
           clear hK33
           refine hQ.ret (rvs2 (rv_t rfl) (rv_t rfl)) (fun _ _ h => h) fun w hb hs hB hkd => ?_
           first
             | exact ⟨rfl, hb⟩
       ·have phs58 := hs58; try simp only [decide_eq_true_eq, decide_eq_false_iff_not, Bool.not_eq_true', Bool.not_eq_false', Bool.not_true, Bool.not_false] at phs58
        refine ql_s rfl rfl hs58 rfl ?_
        refine ql_s rfl rfl hs58 rfl ?_
        refine ql_r (r_pickF rfl hs58 rfl) rfl ?_
        refine ql_r (r_move rfl) rfl ?_
        refine ql_s rfl rfl rfl rfl ?_
        refine ql_s rfl rfl rfl rfl ?_
        refine ql_s rfl rfl rfl rfl ?_
        refine ql_s rfl rfl rfl rfl ?_
        refine ql_s rfl rfl rfl rfl ?_
        refine ql_s rfl rfl rfl rfl ?_
        refine ql_s rfl rfl rfl rfl ?_
        refine ql_s rfl rfl rfl rfl ?_
        refine ql_s rfl rfl rfl rfl ?_
        refine ql_s rfl rfl rfl rfl ?_
        refine ql_s rfl rfl rfl rfl ?_
        refine ql_s rfl rfl rfl rfl ?_
        refine ql_s rfl rfl rfl rfl ?_
        refine ql_s rfl rfl rfl rfl ?_
        refine ql_r (r_pickF rfl rfl rfl) rfl ?_
        refine ql_nil (to_k0 (fun _ _ h => h) (hK18 _ _ _ _ _ ?_))
        clear hK18
        refine wp_condF rfl ?_
        refine wp_skip' (to_k0 (fun _ _ h => h) (hK17 _ _ _ _ _ ?_))
        clear hK17
        refine wp_seq' fun K34 hK34 => ?_
        refine wp_seq' fun K35 hK35 => ?_
        refine wp_reg ?_
        refine ol_r (r_move rfl) rfl ?_
        refine ol_r (r_gtr rfl rfl) rfl ?_
        refine ol_nil (to_k0 (fun _ _ h => h) (hK35 _ _ _ _ _ ?_))
        clear hK35
        refine wp_condD rfl (fun hc81 => ?_) (fun hc81 => ?_)
        ·exfalso
         omega
        ·refine wp_skip' (to_k0 (fun _ _ h => h) (hK34 _ _ _ _ _ ?_))
         clear hK34
         refine wp_seq' fun K36 hK36 => ?_
         refine wp_seq' fun K37 hK37 => ?_
         refine wp_reg ?_
         refine ol_r (r_move rfl) rfl ?_
         refine ol_nil (to_k0 (fun _ _ h => h) (hK37 _ _ _ _ _ ?_))
         clear hK37
         refine wp_condD rfl (fun hc82 => ?_) (fun hc82 => ?_)
         ·exfalso
          omega
         ·refine wp_skip' (to_k0 (fun _ _ h => h) (hK36 _ _ _ _ _ ?_))
          clear hK36
          refine wp_seq' fun K38 hK38 => ?_
          refine wp_reg ?_
          refine ol_r (r_move rfl) rfl ?_
          refine ol_r (r_conv (k2 := .i64) rfl (by kernel_rfl) (by kernel_rfl) (IntWalk.i64_in _ (by omega))) rfl ?_
          refine ol_r (r_assign rfl) rfl ?_
          refine ol_r (r_assign rfl) rfl ?_
          refine ol_nil (to_k0 (fun _ _ h => h) (hK38 _ _ _ _ _ ?_))
          clear hK38
          refine hQ.ret (rvs2 (rv_t rfl) (rv_t rfl)) (fun _ _ h => h) fun w hb hs hB hkd => ?_
          first
            | exact ⟨rfl, hb⟩
end Go.Proofs.Ytjflbnbofedlkaa

/-
  More rules: append of a make, and an owned row cut to its beginning.
-/


namespace Go.Proofs.Ytjflbnbofedlkaa.Hx
open Go Go.RowKit
set_option linter.unusedVariables false
set_option linter.unusedSimpArgs false
section
variable {P : Program} {N : Fr} {B : Nat} {w0 : World} {Q : Exit → Act → World → Prop} {al : AL} {H : HL} {ops rest : List Oper} {d : Nat} {ty : TypeId} {pos : String} {after : Array Edge}
/-- An owned row's first elements. -/
theorem Sat.cut {w : World} {id n cap h : Nat} {a : Option Addr} {xs : List Value} {e : TypeId} {size : Nat} (hs : Sat B w H) (hr : look H id = some (.row a n cap xs e size)) (hh : h ≤ n) : Sat B w ((id, .row a h cap (xs.take (h * size)) e size) :: H) := by
  refine hs.turn hr ?_ (fun _ _ _ => rfl) (fun b hb => .inl hb)
  obtain ⟨h1, h2⟩ := hs.ok _ _ hr
  refine ⟨by rw [List.length_take, h1]; exact Nat.min_eq_left (Nat.mul_le_mul_right _ hh), ?_⟩
  rcases h2 with ⟨hv, h2⟩ | ⟨g, cap', cur, hv, hb, hg, hnc, hcm, hcs, htake⟩
  · cases hv
    obtain rfl : h = 0 := by omega
    exact .inl ⟨rfl, rfl⟩
  · cases hv
    exact .inr ⟨g, cap, cur, rfl, hb, hg, by omega, hcm, hcs, by rw [← htake, List.take_take, Nat.min_eq_left (Nat.mul_le_mul_right _ hh)]⟩
def Kle (H : HL) (ks : List (Nat × Nat)) (H' : HL) : Prop := ∀ j e, look H' j = some e → ∃ i f, (i, j) ∈ ks ∧ look H i = some f ∧ e.le f
theorem kle_nil {H : HL} : Kle H [] [] := fun j e h => by simp [look] at h
theorem kle_cons {H H' : HL} {i k : Nat} {e f : Ent} {ks : List (Nat × Nat)} (h : look H i = some f) (hl : e.le f) (hk : Kle H ks H') : Kle H ((i, k) :: ks) ((k, e) :: H') := fun j g hj => by
  by_cases hkj : k = j
  · subst hkj; rw [look_cons_eq] at hj; cases hj; exact ⟨i, f, by simp, h, hl⟩
  · rw [look_cons_ne _ _ hkj] at hj
    obtain ⟨i', f', h1, h2, h3⟩ := hk j g hj
    exact ⟨i', f', by simp [h1], h2, h3⟩
theorem Sat.kle {B : Nat} {H H' : HL} {w : World} (h : Sat B w H) (ks : List (Nat × Nat)) (hk : Kle H ks H') (hd : ∀ p ∈ ks, ∀ q ∈ ks, p.1 = q.1 → p.2 = q.2) : Sat B w H' :=
  ⟨fun j e he => by obtain ⟨i, f, _, h2, h3⟩ := hk j e he; exact h3.ok (h.ok i f h2), fun j j' e f hj he hf b hb => by
    obtain ⟨i, g, a1, a2, a3⟩ := hk j e he
    obtain ⟨i', g', b1, b2, b3⟩ := hk j' f hf
    exact fun hb' => h.apart i i' g g' (fun hii => hj (hd _ a1 _ b1 hii)) a2 b2 b (a3.own hb) (b3.own hb')⟩
theorem row_le {a : Option Addr} {n c s : Nat} {xs ys : List Value} {e : TypeId} (h : xs = ys) : (Ent.row a n c xs e s).le (.row a n c ys e s) := by subst h; exact Ent.le_refl _
end
end Go.Proofs.Ytjflbnbofedlkaa.Hx

/-
  Crossings of program and reference, whole; MatchCrossingsMatchSpec.
-/





namespace Go.Proofs.Ytjflbnbofedlkaa
open Go Go.RowKit Hx
set_option linter.unusedVariables false
set_option linter.unusedSimpArgs false
set_option maxRecDepth 8000
theorem cmp_OrI (a : Option Addr) (n c : Nat) (xs : List Int) (w : World) (hl : Rd encI w.heap.size w a n c xs) :
    Calls Try.prog 96 #[.slice a n c] w fun e w' => e = .returned (.int .i64 (orL xs)) ∧ Below w.heap.size w w' := by
  have hn := hl.len
  have hf := hl.fit
  refine enterQ (N := 18) (C := fun _ => True) (H := []) (B := w.heap.size) (args := [_]) Try.func96 rfl rfl rfl (Nat.le_refl _) (Sat.nil _ _) fun Q hQ => ?_
  refine wp_seq' fun K1 hK1 => ?_
  refine wp_reg ?_
  refine ol_r (r_assign rfl) rfl ?_
  refine ol_nil (to_k0 (fun _ _ h => h) (hK1 _ _ _ _ _ ?_))
  clear hK1
  refine wp_seq' fun K2 hK2 => ?_
  refine wp_reg ?_
  refine ol_r (r_assign rfl) rfl ?_
  refine ol_nil (to_k0 (fun _ _ h => h) (hK2 _ _ _ _ _ ?_))
  clear hK2
  refine wp_seq' fun K3 hK3 => ?_
  refine wp_seq' fun K4 hK4 => ?_
  refine wp_reg ?_
  refine ol_r (r_move rfl) rfl ?_
  refine ol_r (r_len rfl sl150) rfl ?_
  refine ol_r (r_move rfl) rfl ?_
  refine ol_nil (to_k0 (fun _ _ h => h) (hK4 _ _ _ _ _ ?_))
  clear hK4
  refine wp_block' ?_
  apply wp_loopM (σ := Nat) (fun s => s ≤ n ∧ ∀ x ∈ xs.take s, x = 0) (fun s => [(8, .int .i64 s)]) [(3, _), (6, _), (7, _)] (fun s => []) [] (fun s => n - s) (0)
  ·try dsimp only
   exact ⟨Nat.zero_le _, fun x hx => by simp at hx⟩
  ·exact (sub_cons rfl sub_nil)
  ·exact (sub_cons rfl (sub_cons rfl (sub_cons rfl sub_nil)))
  ·exact subH_nil
  ·exact subH_nil
  ·rintro k ⟨hk, hP⟩
   intro K5 hK5
   refine wp_seq' fun K6 hK6 => ?_
   refine wp_reg ?_
   refine ol_r (r_lss rfl rfl) rfl ?_
   refine ol_nil (to_k0 (fun _ _ h => h) (hK6 _ _ _ _ _ ?_))
   clear hK6
   refine wp_seq' fun K7 hK7 => ?_
   refine wp_condD rfl (fun hc9 => ?_) (fun hc9 => ?_)
   ·refine wp_skip' (to_k0 (fun _ _ h => h) (hK7 _ _ _ _ _ ?_))
    clear hK7
    refine wp_seq' fun K8 hK8 => ?_
    refine wp_block' ?_
    refine wp_seq' fun K9 hK9 => ?_
    refine wp_reg ?_
    refine ol_ixr hl rfl rfl sl150 (by omega) rfl fun x10 hx10 => ?_
    try simp only [Int.toNat_natCast] at hx10
    refine ol_r (r_ldw rfl (fun w1 hb1 hs1 hB1 => show Loads _ _ _ _ (.int .i64 x10) from Rd.loads hl ty3 hx10 hb1)) rfl ?_
    refine ol_r (r_assign rfl) rfl ?_
    refine ol_nil (to_k0 (fun _ _ h => h) (hK9 _ _ _ _ _ ?_))
    clear hK9
    refine wp_seq' fun K10 hK10 => ?_
    refine wp_reg ?_
    refine ol_r (r_move rfl) rfl ?_
    refine ol_r (r_move rfl) rfl ?_
    refine ol_r (r_neq rfl rfl) rfl ?_
    refine ol_nil (to_k0 (fun _ _ h => h) (hK10 _ _ _ _ _ ?_))
    clear hK10
    refine wp_condD rfl (fun hc14 => ?_) (fun hc14 => ?_)
    ·refine wp_seq' fun K11 hK11 => ?_
     refine wp_reg ?_
     refine ol_r (r_move rfl) rfl ?_
     refine ol_r (r_assign rfl) rfl ?_
     refine ol_nil (to_k0 (fun _ _ h => h) (hK11 _ _ _ _ _ ?_))
     clear hK11
     refine hQ.ret (rvs1 (rv_t rfl)) (fun _ _ h => h) fun w hb hs hB hkd => ?_
     rw [orL_next hP, drop_cons_get hx10, orL, if_pos hc14]
     exact ⟨rfl, hb⟩
    ·refine wp_skip' (to_k0 (fun _ _ h => h) (hK8 _ _ _ _ _ ?_))
     clear hK8
     refine wp_reg ?_
     refine ol_r (r_add rfl rfl (by omega)) rfl ?_
     refine ol_r (r_move rfl) rfl ?_
     refine ol_nil (to_k0 (fun _ _ h => h) (hK5 (k + 1) _ _ ?_ ?_ (sub_cons rfl sub_nil) (sub_cons rfl (sub_cons rfl (sub_cons rfl sub_nil))) (by exact subH_nil) subH_nil))
     ·try dsimp only
      refine ⟨by omega, fun x hx => ?_⟩
      rw [take_succ_get hx10] at hx
      rcases List.mem_append.1 hx with h | h
      · exact hP x h
      · simp at h; omega
     ·try dsimp only
      omega
   ·refine wp_exit' (to_k0 (fun _ _ h => h) (hK3 _ _ _ _ _ ?_))
    clear hK3
    refine wp_seq' fun K12 hK12 => ?_
    refine wp_reg ?_
    refine ol_r (r_move rfl) rfl ?_
    refine ol_r (r_assign rfl) rfl ?_
    refine ol_nil (to_k0 (fun _ _ h => h) (hK12 _ _ _ _ _ ?_))
    clear hK12
    refine hQ.ret (rvs1 (rv_t rfl)) (fun _ _ h => h) fun w hb hs hB hkd => ?_
    rw [orL_next hP, List.drop_eq_nil_of_le (by omega)]
    exact ⟨rfl, hb⟩
theorem or_two (p q : Int) : orL [cmpI (p / 18446744073709551616) (q / 18446744073709551616), cmpI (p % 18446744073709551616) (q % 18446744073709551616)] = cmpI p q := by
  unfold orL orL orL cmpI
  repeat' split
  all_goals first | rfl | (exfalso; omega) | omega
def PartOk (x : PartR) : Prop := (0 ≤ x.num ∧ x.num ≤ 200000000000000000) ∧ (1 ≤ x.den ∧ x.den ≤ 200000000000000000)
def cfP (x y : PartR) : Int := cmpI (x.num * y.den) (y.num * x.den)
theorem match_compare (x y : PartR) (w : World) (hx : PartOk x) (hy : PartOk y) :
    Calls Try.prog 105 #[encPart.val x, encPart.val y] w fun e w' => e = .returned (.int .i64 (cfP x y)) ∧ Below w.heap.size w w' := by
  obtain ⟨⟨x1, x2⟩, x3, x4⟩ := hx
  obtain ⟨⟨y1, y2⟩, y3, y4⟩ := hy
  have hw : ∀ m : Int, 0 ≤ m ∧ m ≤ 200000000000000000 → IntKind.u64.wrap m = m := fun m h => wrap_u64 (by omega)
  refine enterQ (N := 37) (C := fun _ => True) (H := []) (B := w.heap.size) (args := [_, _]) Try.func105 rfl rfl rfl (Nat.le_refl _) (Sat.nil _ _) fun Q hQ => ?_
  refine wp_seq' fun K1 hK1 => ?_
  refine wp_reg ?_
  refine ol_box 2 rfl rfl rfl fun b2 => ?_
  refine ol_box 3 rfl rfl rfl fun b3 => ?_
  refine ol_r (r_assign rfl) rfl ?_
  refine ol_nil (to_k0 (fun _ _ h => h) (hK1 _ _ _ _ _ ?_))
  clear hK1
  refine wp_seq' fun K2 hK2 => ?_
  refine wp_reg ?_
  refine ol_r (r_fa (o' := 0) rfl fl152_0 rfl) rfl ?_
  refine ol_r (r_ld (id := 2) rfl rfl rfl sc3) rfl ?_
  refine ol_r (r_conv (k2 := .u64) rfl (by kernel_rfl) (by kernel_rfl) (wrap_u64 (by omega))) rfl ?_
  refine ol_r (r_fa (o' := 1) rfl fl152_1 rfl) rfl ?_
  refine ol_r (r_ld (id := 3) rfl rfl rfl sc3) rfl ?_
  refine ol_r (r_conv (k2 := .u64) rfl (by kernel_rfl) (by kernel_rfl) (wrap_u64 (by omega))) rfl ?_
  refine ol_call rfl rfl cb130 rfl (fun w1 hb1 hs1 hB1 => Calls.mono (bits_MulI x.num y.den _ (by omega) (by omega)) ?_)
  rintro e w2 ⟨rfl, hb2⟩
  refine After.below rfl hb1 hs1 hB1 hb2 ?_
  clear hb2 hB1 hs1 hb1 w2 w1
  refine ol_r (r_move rfl) rfl ?_
  refine ol_r (r_extract rfl rfl) rfl ?_
  refine ol_r (r_extract rfl rfl) rfl ?_
  refine ol_r (r_assign rfl) rfl ?_
  refine ol_r (r_assign rfl) rfl ?_
  refine ol_nil (to_k0 (fun _ _ h => h) (hK2 _ _ _ _ _ ?_))
  clear hK2
  refine wp_seq' fun K3 hK3 => ?_
  refine wp_reg ?_
  refine ol_r (r_fa (o' := 0) rfl fl152_0 rfl) rfl ?_
  refine ol_r (r_ld (id := 3) rfl rfl rfl sc3) rfl ?_
  refine ol_r (r_conv (k2 := .u64) rfl (by kernel_rfl) (by kernel_rfl) (wrap_u64 (by omega))) rfl ?_
  refine ol_r (r_fa (o' := 1) rfl fl152_1 rfl) rfl ?_
  refine ol_r (r_ld (id := 2) rfl rfl rfl sc3) rfl ?_
  refine ol_r (r_conv (k2 := .u64) rfl (by kernel_rfl) (by kernel_rfl) (wrap_u64 (by omega))) rfl ?_
  refine ol_call rfl rfl cb130 rfl (fun w1 hb1 hs1 hB1 => Calls.mono (bits_MulI y.num x.den _ (by omega) (by omega)) ?_)
  rintro e w2 ⟨rfl, hb2⟩
  refine After.below rfl hb1 hs1 hB1 hb2 ?_
  clear hb2 hB1 hs1 hb1 w2 w1
  refine ol_r (r_move rfl) rfl ?_
  refine ol_r (r_extract rfl rfl) rfl ?_
  refine ol_r (r_extract rfl rfl) rfl ?_
  refine ol_r (r_assign rfl) rfl ?_
  refine ol_r (r_assign rfl) rfl ?_
  refine ol_nil (to_k0 (fun _ _ h => h) (hK3 _ _ _ _ _ ?_))
  clear hK3
  refine wp_seq' fun K4 hK4 => ?_
  refine wp_reg ?_
  refine ol_r (r_move rfl) rfl ?_
  refine ol_r (r_move rfl) rfl ?_
  refine ol_call rfl rfl cb131 rfl (fun w1 hb1 hs1 hB1 => Calls.mono (cmp_Compareu _ _ _) ?_)
  rintro e w2 ⟨rfl, hb2⟩
  refine After.below rfl hb1 hs1 hB1 hb2 ?_
  clear hb2 hB1 hs1 hb1 w2 w1
  refine ol_r (r_move rfl) rfl ?_
  refine ol_r (r_move rfl) rfl ?_
  refine ol_call rfl rfl cb131 rfl (fun w1 hb1 hs1 hB1 => Calls.mono (cmp_Compareu _ _ _) ?_)
  rintro e w2 ⟨rfl, hb2⟩
  refine After.below rfl hb1 hs1 hB1 hb2 ?_
  clear hb2 hB1 hs1 hb1 w2 w1
  refine ol_bsN 35 rfl rw150 rfl rfl (fun _ => by kernel_rfl) rfl fun a35 => ?_
  refine ol_call rfl rfl cb96 rfl (fun w1 hb1 hs1 hB1 => Calls.mono (cmp_OrI _ _ _ [cmpI (x.num * y.den / 18446744073709551616) (y.num * x.den / 18446744073709551616), cmpI (x.num * y.den % 18446744073709551616) (y.num * x.den % 18446744073709551616)] _ (Sat.rd hs1 (E := encI) (xs := [_, _]) (id := 35) rfl rfl)) ?_)
  rintro e w2 ⟨rfl, hb2⟩
  refine After.below rfl hb1 hs1 hB1 hb2 ?_
  clear hb2 hB1 hs1 hb1 w2 w1
  refine ol_r (r_assign rfl) rfl ?_
  refine ol_nil (to_k0 (fun _ _ h => h) (hK4 _ _ _ _ _ ?_))
  clear hK4
  refine hQ.ret (rvs1 (rv_t rfl)) (fun _ _ h => h) fun w hb hs hB hkd => ?_
  exact ⟨by rw [or_two]; rfl, hb⟩
theorem part_ok {g : GateR} {p q : SmpR} (hg : ∀ o, fG o g = 0) (hp : PlaceOk p) (hq : PlaceOk q) (h : crB g p q = true) : PartOk (partOf g p q) ∧ (partOf g p q).num ≤ (partOf g p q).den ∧ partOf g p q = ⟨-gSide g p, gSide g q - gSide g p⟩ := by
  obtain ⟨⟨g1, g2⟩, g3, g4⟩ := gate_bd hg
  obtain ⟨p1, p2⟩ := hp
  obtain ⟨q1, q2⟩ := hq
  have b1 := side6_bd g1 g2 g3 g4 p1 p2
  have b2 := side6_bd g1 g2 g3 g4 q1 q2
  have hpe : partOf g p q = ⟨-gSide g p, gSide g q - gSide g p⟩ := by rw [partOf, if_pos h]
  have hpo := crB_pos h
  unfold gSide at hpo hpe
  rw [hpe]
  unfold gSide
  exact ⟨⟨⟨by show 0 ≤ -_; omega, by show -_ ≤ _; omega⟩, by show 1 ≤ _ - _; omega, by show _ - _ ≤ (_ : Int); omega⟩, by show -_ ≤ _ - _; omega, rfl⟩
def cfG (gs : List GateR) (p q : SmpR) (i k : Int) : Int := if ltG gs p q i k = true then -1 else if ltG gs p q k i = true then 1 else 0
theorem cfG_lt (gs : List GateR) (p q : SmpR) : ltC (cfG gs p q) = ltG gs p q := by
  funext i k
  unfold ltC cfG
  cases h : ltG gs p q i k with
  | true => rfl
  | false => cases h2 : ltG gs p q k i <;> rfl
def GoodI (gs : List GateR) (p q : SmpR) (i : Int) : Prop := ∃ (j : Nat) (g : GateR), i = j ∧ gs[j]? = some g ∧ crB g p q = true
theorem cfG_cfP {gs : List GateR} {p q : SmpR} {i k : Nat} {g h : GateR} (hi : gs[i]? = some g) (hk : gs[k]? = some h) (h1 : PartOk (partOf g p q)) (h2 : PartOk (partOf h p q)) : cfG gs p q i k = cfP (partOf g p q) (partOf h p q) := by
  unfold cfG ltG cfP cmpI
  rw [gPart_at hi, gPart_at hk, posI_eq (n := (partOf g p q).den) (by have := h1.2.1; omega), posI_eq (n := (partOf h p q).den) (by have := h2.2.1; omega)]
  simp only [decide_eq_true_eq]
theorem crossings_cmp (gs : List GateR) (p q : SmpR) (B cb : Nat) (pa : Option Addr) (pn pc : Nat) (w : World) (x y : Int) (hg : ∀ g ∈ gs, ∀ o, fG o g = 0) (hp : PlaceOk p) (hq : PlaceOk q) (hl : gs.length ≤ 50) (hpn : pn = gs.length) (hx : GoodI gs p q x) (hy : GoodI gs p q y)
    (hs : Sat B w [(5001, .blk cb [(0, .slice pa pn pc)] 149), (5002, .row pa pn pc (encPart.enc (gs.map fun g => partOf g p q)) 152 2)]) (hB : B ≤ w.heap.size) :
    Calls Try.prog 104 #[.int .i64 x, .int .i64 y, .pointer (some ⟨cb, 0, none⟩)] w fun e w' => e = .returned (.int .i64 (cfG gs p q x y)) ∧ Below w.heap.size w w' := by
  obtain ⟨i, g, rfl, hi, hcg⟩ := hx
  obtain ⟨k, h, rfl, hk, hch⟩ := hy
  obtain ⟨ok1, _, _⟩ := part_ok (hg g (List.mem_of_getElem? hi)) hp hq hcg
  obtain ⟨ok2, _, _⟩ := part_ok (hg h (List.mem_of_getElem? hk)) hp hq hch
  have hil := (List.getElem?_eq_some_iff.1 hi).1
  have hkl := (List.getElem?_eq_some_iff.1 hk).1
  have hml : (gs.map fun g => partOf g p q).length = gs.length := List.length_map _
  have hb0 := hs.blk (id := 5001) rfl
  have hr0 := Sat.rd hs (E := encPart) (xs := gs.map fun g => partOf g p q) (id := 5002) rfl rfl
  rw [cfG_cfP hi hk ok1 ok2]
  refine enterQ (N := 15) (C := fun _ => True) (H := []) (B := w.heap.size) (args := [_, _, _]) Try.func104 rfl rfl rfl (Nat.le_refl _) (Sat.nil _ _) fun Q hQ => ?_
  refine wp_seq' fun K1 hK1 => ?_
  refine wp_reg ?_
  refine ol_r (r_assign rfl) rfl ?_
  refine ol_nil (to_k0 (fun _ _ h => h) (hK1 _ _ _ _ _ ?_))
  clear hK1
  refine wp_seq' fun K2 hK2 => ?_
  refine wp_regq (by kernel_rfl) (by kernel_rfl) ?_
  refine ql_r (r_ldw rfl (fun w1 hb1 hs1 hB1 => Blk.loads (o := 0) hb0 hb1 sc149 rfl)) rfl ?_
  refine ql_r (r_move rfl) rfl ?_
  refine ql_ixr hr0 rfl rfl sl149 (by omega) rfl fun x8 hx8 => ?_
  try simp only [Int.toNat_natCast] at hx8
  refine ql_r (r_ldw rfl (fun w1 hb1 hs1 hB1 => Rd.loads hr0 ty152 hx8 hb1)) rfl ?_
  refine ql_r (r_ldw rfl (fun w1 hb1 hs1 hB1 => Blk.loads (o := 0) hb0 hb1 sc149 rfl)) rfl ?_
  refine ql_r (r_move rfl) rfl ?_
  refine ql_ixr hr0 rfl rfl sl149 (by omega) rfl fun x12 hx12 => ?_
  try simp only [Int.toNat_natCast] at hx12
  refine ql_r (r_ldw rfl (fun w1 hb1 hs1 hB1 => Rd.loads hr0 ty152 hx12 hb1)) rfl ?_
  obtain rfl : x8 = partOf g p q := by rw [List.getElem?_map, hi] at hx8; exact (Option.some.inj hx8).symm
  obtain rfl : x12 = partOf h p q := by rw [List.getElem?_map, hk] at hx12; exact (Option.some.inj hx12).symm
  refine ql_call rfl rfl cb105 rfl (fun w1 hb1 hs1 hB1 => match_compare _ _ _ ok1 ok2) ?_
  refine ql_r (r_assign rfl) rfl ?_
  refine ql_nil (to_k0 (fun _ _ h => h) (hK2 _ _ _ _ _ ?_))
  clear hK2
  refine hQ.ret (rvs1 (rv_t rfl)) (fun _ _ h => h) fun w hb hs hB hkd => ?_
  exact ⟨rfl, hb⟩
theorem gOrd_of {gs : List GateR} {p q : SmpR} {k : Nat} {f g : Nat → Int} {n : Nat} (hf : gIdx gs p q k = tab n f) (h1 : SoR (ltG gs p q) g 0 n) (h2 : SaS f g 0 n) : tab n g = gOrd gs p q k :=
  gOrd_one (tab_pair h1) fun x => by rw [hf]; exact (h2.mem x).symm
theorem scale_part {x : PartR} {d : Int} (hx : PartOk x) (hnd : x.num ≤ x.den) (hd : 0 ≤ d ∧ d ≤ 1000000000) : x.num * (1000 * d) / x.den ≤ 1000 * d ∧ 0 ≤ x.num * (1000 * d) / x.den := by
  constructor
  · refine Int.ediv_le_of_le_mul (by have := hx.2.1; omega) ?_
    rw [Int.mul_comm]
    exact Int.mul_le_mul_of_nonneg_left hnd (by omega)
  · exact Int.ediv_nonneg (Int.mul_nonneg hx.1.1 (by omega)) (by have := hx.2.1; omega)
theorem cross_gen (nm : ByteArray) (ga : Option Addr) (gn gc : Nat) (gs : List GateR) (A : ActV) (w : World) (hS : Rd encGate w.heap.size w ga gn gc gs) (hA : A.Ok w.heap.size w) (hseg : SegOk nm gs) (hok : SmpOk A.start A.ss) :
    Calls Try.prog 81 #[.agg #[.string nm, .slice ga gn gc], .agg #[.string A.name, .int .i64 A.sport, .int .i64 A.start, .slice A.sa A.sn A.sc, .slice A.la A.ln A.lc, .slice A.ta A.tn A.tc]] w fun e w' => ∃ b m k, e = .returned (.slice b m k) ∧ Fresh encCr 88 w w' b m k (crossS gs (stepsL A.ss) (stepsL A.ss).length) := by
  have hgn := hS.len
  have hgl := hseg.len
  have hsn := hA.s.len
  have hsf := hA.s.fit
  have hlen := stepsL_len A.ss
  have hl20 := hok.len
  refine enterQ (N := 92) (C := fun _ => True) (H := []) (B := w.heap.size) (args := [_, _]) Try.func81 rfl rfl rfl (Nat.le_refl _) (Sat.nil _ _) fun Q hQ => ?_
  refine wp_seq' fun K1 hK1 => ?_
  refine wp_reg ?_
  refine ol_box 2 rfl rfl rfl fun b2 => ?_
  refine ol_box 3 rfl rfl rfl fun b3 => ?_
  refine ol_r (r_assign rfl) rfl ?_
  refine ol_nil (to_k0 (fun _ _ h => h) (hK1 _ _ _ _ _ ?_))
  clear hK1
  refine wp_seq' fun K2 hK2 => ?_
  refine wp_reg ?_
  refine ol_alloc 5 z83 rfl fun b5 => ?_
  refine ol_nilrow 3005 88 3 ?_
  refine ol_nil (to_k0 (fun _ _ h => h) (hK2 _ _ _ _ _ ?_))
  clear hK2
  refine wp_seq' fun K3 hK3 => ?_
  refine wp_reg ?_
  refine ol_alloc 6 z3 rfl fun b6 => ?_
  refine ol_store (id := 6) rfl rfl rfl rfl sz3 rfl rfl (by first | decide | exact Nat.zero_lt_succ _ | simp) ?_
  refine ol_nil (to_k0 (fun _ _ h => h) (hK3 _ _ _ _ _ ?_))
  clear hK3
  refine wp_seq' fun K4 hK4 => ?_
  refine wp_seq' fun K5 hK5 => ?_
  refine wp_reg ?_
  refine ol_r (r_lda (id := 3) (n := 6) rfl rfl rfl ag39) rfl ?_
  refine ol_call rfl rfl cb56 rfl (fun w1 hb1 hs1 hB1 => ?_)
  refine Calls.mono (track_Steps A _ (hA.at hb1 hB1)) ?_
  rintro e w2 ⟨b0, T0, rfl, hb2, hs2⟩
  refine After.more rfl hb1 hs1 hB1 hb2 hs2 ?_
  clear hs2 hb2 hB1 hs1 hb1 w2 w1
  refine ol_nil (to_k0 (fun _ _ h => h) (hK5 _ _ _ _ _ ?_))
  clear hK5
  refine wp_block' ?_
  refine wp_rf (σ := Option Addr × Nat × Nat) (τ := Unit) (encs := fun x : SmpR × SmpR => [.agg #[.int .i64 x.1.at_, .int .i64 x.1.x, .int .i64 x.1.y, .int .i64 x.1.z, .int .i64 x.1.pulse, .int .i64 x.1.power, .int .i64 x.1.steps], .agg #[.int .i64 x.2.at_, .int .i64 x.2.x, .int .i64 x.2.y, .int .i64 x.2.z, .int .i64 x.2.pulse, .int .i64 x.2.power, .int .i64 x.2.steps]]) (zs := stepsL A.ss) rfl cb87 (steps_iter A _ b0 _ hA.s) (by rfl) (by rfl) (by rfl) (fun _ => rfl) (fun k s => k ≤ (stepsL A.ss).length ∧ s.2.1 ≤ 50 * k) (fun k s => [(5, .blk b5 [(0, .slice s.1 s.2.1 s.2.2)] 83), (6, .blk b6 [(0, .int .i64 k)] 3), (3005, .row s.1 s.2.1 s.2.2 (encCr.enc (crossS gs (stepsL A.ss) k)) 88 3)]) [(2, _), (3, _), (1001, _)] (fun t => False) (fun t => []) ((none, 0, 0)) ?_ (by exact (subH_blk rfl (sub_cons rfl sub_nil) (subH_blk rfl (sub_cons rfl sub_nil) (subH_row rfl (by rfl) subH_nil)))) (subH_same rfl (subH_same rfl (subH_same rfl subH_nil))) ?_ ?_ ?_ ?_
  ·try dsimp only
   omega
  ·intro k s W hI hbW hsW hBW
   exact ⟨hbW, ⟨_, hsW.one 1001 100 rfl (Ent.le_refl _)⟩, hBW⟩
  ·rintro k x ⟨oa, on, oc⟩ B0 W hx hI hbW hBW hB0
   have hxx := stepsL_inv hx
   have hp := hok.place (List.mem_of_getElem? hxx.1)
   have hq := hok.place (List.mem_of_getElem? hxx.2)
   have hba := hok.bd _ (List.mem_of_getElem? hxx.1)
   have hbb := hok.bd _ (List.mem_of_getElem? hxx.2)
   have hri := hok.rise _ _ _ hxx.1 hxx.2
   have hkl := (List.getElem?_eq_some_iff.1 hx).1
   have hil := gIdx_len gs x.1 x.2 gs.length
   dsimp only at hI ⊢
   intro Ka6 hKa6
   simp only [alp]
   refine wp_seq' fun K7 hK7 => ?_
   refine wp_reg ?_
   refine ol_alloc 7 z51 rfl fun b7 => ?_
   refine ol_store (id := 7) rfl rfl rfl rfl sz51 rfl rfl (by first | decide | exact Nat.zero_lt_succ _ | simp) ?_
   refine ol_nil (to_k0 (fun _ _ h => h) (hK7 _ _ _ _ _ ?_))
   clear hK7
   refine wp_reg ?_
   refine ol_alloc 8 z51 rfl fun b8 => ?_
   refine ol_store (id := 8) rfl rfl rfl rfl sz51 rfl rfl (by first | decide | exact Nat.zero_lt_succ _ | simp) ?_
   refine ol_nil (to_k0 (fun _ _ h => h) (hKa6 _ _ fun Wb R hbw hBw hn hr => ?_))
   have hS := hS.below hbw
   refine wp_block' ?_
   refine wp_seq' fun K8 hK8 => ?_
   refine wp_reg ?_
   refine ol_alloc 9 z149 rfl fun b9 => ?_
   refine ol_nilrow 3009 152 2 ?_
   refine ol_nil (to_k0 (fun _ _ h => h) (hK8 _ _ _ _ _ ?_))
   clear hK8
   refine wp_seq' fun K9 hK9 => ?_
   refine wp_reg ?_
   refine ol_nilrow 10 3 1 ?_
   refine ol_r (r_assign rfl) rfl ?_
   refine ol_nil (to_k0 (fun _ _ h => h) (hK9 _ _ _ _ _ ?_))
   clear hK9
   refine wp_seq' fun K10 hK10 => ?_
   refine wp_seq' fun K11 hK11 => ?_
   refine wp_reg ?_
   refine ol_r (r_fa (o' := 1) rfl fl82_1 rfl) rfl ?_
   refine ol_r (r_ld (id := 2) rfl rfl rfl sc80) rfl ?_
   refine ol_r (r_len rfl sl80) rfl ?_
   refine ol_r (r_move rfl) rfl ?_
   refine ol_nil (to_k0 (fun _ _ h => h) (hK11 _ _ _ _ _ ?_))
   clear hK11
   refine wp_block' ?_
   apply wp_loopM (σ := Nat × Option Addr × Nat × Nat × Option Addr × Nat) (fun s => s.1 ≤ gn ∧ (gIdx gs x.1 x.2 s.1).length = s.2.2.1) (fun s => [(26, .int .i64 s.1), (10, .slice s.2.1 s.2.2.1 s.2.2.2.1)]) [(4, _), (5, _), (6, _), (7, _), (8, _), (9, _), (24, _), (25, _)] (fun s => [(10, .row s.2.1 s.2.2.1 s.2.2.2.1 (encI.enc (gIdx gs x.1 x.2 s.1)) 3 1), (9, .blk b9 [(0, .slice s.2.2.2.2.1 s.1 s.2.2.2.2.2)] 149), (3009, .row s.2.2.2.2.1 s.1 s.2.2.2.2.2 (encPart.enc ((gs.take s.1).map fun g => partOf g x.1 x.2)) 152 2)]) [(2, _), (3, _), (5, _), (6, _), (7, _), (8, _), (1001, _), (3005, _)] (fun s => gn - s.1) ((0, none, 0, 0, none, 0))
   ·try dsimp only
    exact ⟨Nat.zero_le _, rfl⟩
   ·exact (sub_cons rfl (sub_cons rfl sub_nil))
   ·exact (sub_cons rfl (sub_cons rfl (sub_cons rfl (sub_cons rfl (sub_cons rfl (sub_cons rfl (sub_cons rfl (sub_cons rfl sub_nil))))))))
   ·exact (subH_row rfl (by dsimp only; rfl) (subH_blk rfl (sub_cons rfl sub_nil) (subH_row rfl (by dsimp only; rfl) subH_nil)))
   ·exact (subH_same rfl (subH_same rfl (subH_same rfl (subH_same rfl (subH_same rfl (subH_same rfl (subH_same rfl (subH_same rfl subH_nil))))))))
   ·rintro ⟨j, qa, qn, qc, pa, pc⟩ ⟨hj, hqn⟩
    dsimp only at hj hqn ⊢
    have hql := gIdx_len gs x.1 x.2 j
    intro K12 hK12
    refine wp_seq' fun K13 hK13 => ?_
    refine wp_reg ?_
    refine ol_r (r_lss rfl rfl) rfl ?_
    refine ol_nil (to_k0 (fun _ _ h => h) (hK13 _ _ _ _ _ ?_))
    clear hK13
    refine wp_seq' fun K14 hK14 => ?_
    refine wp_condD rfl (fun hc27 => ?_) (fun hc27 => ?_)
    ·refine wp_skip' (to_k0 (fun _ _ h => h) (hK14 _ _ _ _ _ ?_))
     clear hK14
     refine wp_seq' fun K15 hK15 => ?_
     refine wp_block' ?_
     refine wp_seq' fun K16 hK16 => ?_
     refine wp_reg ?_
     refine ol_r (r_move rfl) rfl ?_
     refine ol_ixr hS rfl rfl sl80 (by omega) rfl fun x29 hx29 => ?_
     try simp only [Int.toNat_natCast] at hx29
     refine ol_r (r_ldw rfl (fun w1 hb1 hs1 hB1 => Rd.loads hS ty79 hx29 hb1)) rfl ?_
     refine ol_alloc 12 z79 rfl fun b12 => ?_
     refine ol_r (r_assign rfl) rfl ?_
     refine ol_store (id := 12) rfl rfl rfl rfl sz79 rfl rfl (by first | decide | exact Nat.zero_lt_succ _ | simp) ?_
     refine ol_nil (to_k0 (fun _ _ h => h) (hK16 _ _ _ _ _ ?_))
     clear hK16
     refine wp_seq' fun K17 hK17 => ?_
     refine wp_reg ?_
     refine ol_r (r_lda (id := 12) (n := 4) rfl rfl rfl ag79) rfl ?_
     refine ol_r (r_lda (id := 7) (n := 7) rfl rfl rfl ag51) rfl ?_
     refine ol_r (r_lda (id := 8) (n := 7) rfl rfl rfl ag51) rfl ?_
     refine ol_call rfl rfl cb102 rfl (fun w1 hb1 hs1 hB1 => Calls.mono (match_crosses x29 x.1 x.2 _ (hseg.g x29 (List.mem_of_getElem? hx29)) hp hq) ?_)
     rintro e w2 ⟨rfl, hb2⟩
     refine After.below rfl hb1 hs1 hB1 hb2 ?_
     clear hb2 hB1 hs1 hb1 w2 w1
     refine ol_r (r_move rfl) rfl ?_
     refine ol_r (r_extract rfl rfl) rfl ?_
     refine ol_r (r_extract rfl rfl) rfl ?_
     refine ol_alloc 13 z152 rfl fun b13 => ?_
     refine ol_store (id := 13) rfl rfl rfl rfl sz152 rfl rfl (by first | decide | exact Nat.zero_lt_succ _ | simp) ?_
     refine ol_r (r_assign rfl) rfl ?_
     refine ol_nil (to_k0 (fun _ _ h => h) (hK17 _ _ _ _ _ ?_))
     clear hK17
     refine wp_seq' fun K18 hK18 => ?_
     refine wp_seq' fun K19 hK19 => ?_
     refine wp_reg ?_
     refine ol_r (r_move rfl) rfl ?_
     refine ol_nil (to_k0 (fun _ _ h => h) (hK19 _ _ _ _ _ ?_))
     clear hK19
     refine wp_cond' rfl (fun hc38 => ?_) (fun hc38 => ?_)
     ·refine wp_reg ?_
      refine ol_r (r_move rfl) rfl ?_
      refine ol_r (r_move rfl) rfl ?_
      refine ol_bs1 41 rfl rfl rw150 rfl rfl rfl fun a41 => ?_
      refine ol_append1 (id := 10) (id2 := 41) rfl rfl rfl rfl rfl rw150 (by omega) rfl fun a42 c42 => ?_
      refine ol_r (r_assign rfl) rfl ?_
      refine ol_nil (to_k0 (fun _ _ h => h) (hK18 _ _ _ _ _ ?_))
      clear hK18
      refine wp_reg ?_
      refine ol_r (r_ld (id := 9) rfl rfl rfl sc149) rfl ?_
      refine ol_r (r_lda (id := 13) (n := 2) rfl rfl rfl ag152) rfl ?_
      refine ol_bs1 45 rfl rfl rw149 rfl rfl rfl fun a45 => ?_
      refine ol_append1 (id := 3009) (id2 := 45) rfl rfl rfl rfl rfl rw149 (by omega) rfl fun a46 c46 => ?_
      refine ol_store (id := 9) rfl rfl rfl rfl sz149 rfl rfl (by first | decide | exact Nat.zero_lt_succ _ | simp) ?_
      refine ol_nil (to_k0 (fun _ _ h => h) (hK15 _ _ _ _ _ ?_))
      clear hK15
      refine wp_reg ?_
      refine ol_r (r_add rfl rfl (by omega)) rfl ?_
      refine ol_r (r_move rfl) rfl ?_
      refine ol_nil (to_k0 (fun _ _ h => h) (hK12 ((j + 1, _, _, _, _, _)) _ _ ?_ ?_ (sub_cons rfl (sub_cons rfl sub_nil)) (sub_cons rfl (sub_cons rfl (sub_cons rfl (sub_cons rfl (sub_cons rfl (sub_cons rfl (sub_cons rfl (sub_cons rfl sub_nil)))))))) (by exact (subH_row rfl (by first | (dsimp only; first | (rw [gIdx_yes hx29 hc38, encI_snoc]) | (rw [gIdx_no hx29 hc38]) | (rw [take_succ_get hx29, List.map_append, Enc.enc_append]; rfl); done) | (first | (rw [gIdx_yes hx29 hc38, encI_snoc]) | (rw [gIdx_no hx29 hc38]) | (rw [take_succ_get hx29, List.map_append, Enc.enc_append]; rfl); done) | (dsimp only; done)) (subH_blk rfl (sub_cons rfl sub_nil) (subH_row rfl (by dsimp only; first | (rw [gIdx_yes hx29 hc38, encI_snoc]) | (rw [gIdx_no hx29 hc38]) | (rw [take_succ_get hx29, List.map_append, Enc.enc_append]; rfl)) subH_nil)))) (subH_same rfl (subH_same rfl (subH_same rfl (subH_same rfl (subH_same rfl (subH_same rfl (subH_same rfl (subH_same rfl subH_nil))))))))))
      ·try dsimp only
       first
         | exact ⟨by omega, by rw [gIdx_yes hx29 hc38, List.length_append, hqn]; rfl⟩
      ·try dsimp only
       omega
     ·refine wp_skip' (to_k0 (fun _ _ h => h) (hK18 _ _ _ _ _ ?_))
      clear hK18
      refine wp_reg ?_
      refine ol_r (r_ld (id := 9) rfl rfl rfl sc149) rfl ?_
      refine ol_r (r_lda (id := 13) (n := 2) rfl rfl rfl ag152) rfl ?_
      refine ol_bs1 45 rfl rfl rw149 rfl rfl rfl fun a45 => ?_
      refine ol_append1 (id := 3009) (id2 := 45) rfl rfl rfl rfl rfl rw149 (by omega) rfl fun a46 c46 => ?_
      refine ol_store (id := 9) rfl rfl rfl rfl sz149 rfl rfl (by first | decide | exact Nat.zero_lt_succ _ | simp) ?_
      refine ol_nil (to_k0 (fun _ _ h => h) (hK15 _ _ _ _ _ ?_))
      clear hK15
      refine wp_reg ?_
      refine ol_r (r_add rfl rfl (by omega)) rfl ?_
      refine ol_r (r_move rfl) rfl ?_
      refine ol_nil (to_k0 (fun _ _ h => h) (hK12 ((j + 1, _, _, _, _, _)) _ _ ?_ ?_ (sub_cons rfl (sub_cons rfl sub_nil)) (sub_cons rfl (sub_cons rfl (sub_cons rfl (sub_cons rfl (sub_cons rfl (sub_cons rfl (sub_cons rfl (sub_cons rfl sub_nil)))))))) (by exact (subH_row rfl (by first | (dsimp only; first | (rw [gIdx_yes hx29 hc38, encI_snoc]) | (rw [gIdx_no hx29 hc38]) | (rw [take_succ_get hx29, List.map_append, Enc.enc_append]; rfl); done) | (first | (rw [gIdx_yes hx29 hc38, encI_snoc]) | (rw [gIdx_no hx29 hc38]) | (rw [take_succ_get hx29, List.map_append, Enc.enc_append]; rfl); done) | (dsimp only; done)) (subH_blk rfl (sub_cons rfl sub_nil) (subH_row rfl (by dsimp only; first | (rw [gIdx_yes hx29 hc38, encI_snoc]) | (rw [gIdx_no hx29 hc38]) | (rw [take_succ_get hx29, List.map_append, Enc.enc_append]; rfl)) subH_nil)))) (subH_same rfl (subH_same rfl (subH_same rfl (subH_same rfl (subH_same rfl (subH_same rfl (subH_same rfl (subH_same rfl subH_nil))))))))))
      ·try dsimp only
       first
         | exact ⟨by omega, by rw [gIdx_no hx29 hc38]; exact hqn⟩
      ·try dsimp only
       omega
    ·refine wp_exit' (to_k0 (fun _ _ h => h) (hK10 _ _ _ _ _ ?_))
     clear hK10
     refine wp_seq' fun K20 hK20 => ?_
     refine wp_reg ?_
     obtain rfl : j = gs.length := by omega
     rw [List.take_of_length_le (Nat.le_refl _)]
     obtain ⟨f, hf, hfx⟩ := tab_of (gIdx gs x.1 x.2 gs.length)
     rw [hqn] at hf
     have hfu : ∀ i k, i < k → k < qn → f i < f k := fun i k h1 h2 => by
       have h3 := gIdx_up gs x.1 x.2 gs.length
       rw [List.pairwise_iff_getElem] at h3
       have h4 := h3 i k (by omega) (by omega) h1
       rw [hfx i _ (List.getElem?_eq_getElem (by omega)), hfx k _ (List.getElem?_eq_getElem (by omega))]
       exact h4
     have hfg : ∀ i, i < qn → GoodI gs x.1 x.2 (f i) := fun i h1 => by
       have h2 : f i ∈ gIdx gs x.1 x.2 gs.length := by rw [hf]; exact tab_mem.2 ⟨i, h1, rfl⟩
       obtain ⟨j, g, e1, e2, e3, e4⟩ := gIdx_mem h2
       exact ⟨j, g, e1, e3, e4⟩
     have hol : (gOrd gs x.1 x.2 gs.length).length = qn := by rw [gOrd_len]; exact hqn
     refine ol_r (r_move rfl) rfl ?_
     refine ol_r (r_func rfl) rfl ?_
     refine ol_call rfl rfl cb103 rfl (fun w1 hb1 hs1 hB1 => ?_)
     refine Calls.mono (sortStable_w (cfG gs x.1 x.2) (GoodI gs x.1 x.2) w.heap.size b9 _ _ _ _ _ _ _ _ _ _ _ _ _ (by rw [cfG_lt]; exact ltG_swo _ _ _) (by omega) (fun w3 i k gi gk hs3 hB3 => crossings_cmp gs x.1 x.2 _ _ _ _ _ w3 i k hseg.g hp hq (by omega) rfl gi gk hs3 hB3) f _ hB1 hfu hfg (hs1.kle [(10, 5000), (9, 5001), (3009, 5002), (2, 5003), (3, 5004), (5, 5005), (6, 5006), (7, 5007), (8, 5008), (3005, 5009), (1001, 5010)] (kle_cons rfl (row_le (by rw [← hf])) (kle_cons rfl (Ent.le_refl _) (kle_cons rfl (Ent.le_refl _) (kle_cons rfl (Ent.le_refl _) (kle_cons rfl (Ent.le_refl _) (kle_cons rfl (Ent.le_refl _) (kle_cons rfl (Ent.le_refl _) (kle_cons rfl (Ent.le_refl _) (kle_cons rfl (Ent.le_refl _) (kle_cons rfl (Ent.le_refl _) (kle_cons rfl (Ent.le_refl _) kle_nil))))))))))) (by decide))) ?_
     rintro e w2 ⟨g, rfl, hb2, hs2, hB2, hk2, hg1, hg2⟩
     have hg3 := gOrd_of hf (by rw [← cfG_lt]; exact hg1) hg2
     rw [hg3] at hs2
     refine After.sat rfl hb1 hb2 (hs2.kle [(5000, 10), (5001, 9), (5002, 3009), (5003, 2), (5004, 3), (5005, 5), (5006, 6), (5007, 7), (5008, 8), (5009, 3005), (5010, 1001)] (kle_cons rfl (Ent.le_refl _) (kle_cons rfl (Ent.le_refl _) (kle_cons rfl (Ent.le_refl _) (kle_cons rfl (Ent.le_refl _) (kle_cons rfl (Ent.le_refl _) (kle_cons rfl (Ent.le_refl _) (kle_cons rfl (Ent.le_refl _) (kle_cons rfl (Ent.le_refl _) (kle_cons rfl (Ent.le_refl _) (kle_cons rfl (Ent.le_refl _) (kle_cons rfl (Ent.le_refl _) kle_nil))))))))))) (by decide)) hB2 (hk2.imp fun _ h => h.elim) ?_
     clear hg3 hg1 hg2 hk2 hs2 hb2 hB2 hB1 hs1 hb1 w2 w1
     refine ol_nil (to_k0 (fun _ _ h => h) (hK20 _ _ _ _ _ ?_))
     clear hK20
     refine wp_seq' fun K21 hK21 => ?_
     refine wp_seq' fun K22 hK22 => ?_
     refine wp_reg ?_
     refine ol_r (r_move rfl) rfl ?_
     refine ol_r (r_len rfl sl150) rfl ?_
     refine ol_r (r_move rfl) rfl ?_
     refine ol_nil (to_k0 (fun _ _ h => h) (hK22 _ _ _ _ _ ?_))
     clear hK22
     refine wp_block' ?_
     apply wp_loopM (σ := Nat × Option Addr × Nat × Nat) (fun s => s.1 ≤ qn ∧ s.2.2.1 = on + s.1) (fun s => [(53, .int .i64 s.1)]) [(4, _), (5, _), (6, _), (7, _), (8, _), (9, _), (51, _), (52, _)] (fun s => [(5, .blk b5 [(0, .slice s.2.1 s.2.2.1 s.2.2.2)] 83), (3005, .row s.2.1 s.2.2.1 s.2.2.2 (encCr.enc (crossS gs (stepsL A.ss) k ++ ((gOrd gs x.1 x.2 gs.length).take s.1).map (crossOf gs x.1 x.2 k))) 88 3)]) [(2, _), (3, _), (6, _), (7, _), (8, _), (9, _), (10, _), (1001, _), (3009, _)] (fun s => qn - s.1) ((0, _, _, _))
     ·try dsimp only
      exact ⟨Nat.zero_le _, rfl⟩
     ·exact (sub_cons rfl sub_nil)
     ·exact (sub_cons rfl (sub_cons rfl (sub_cons rfl (sub_cons rfl (sub_cons rfl (sub_cons rfl (sub_cons rfl (sub_cons rfl sub_nil))))))))
     ·exact (subH_blk rfl (sub_cons rfl sub_nil) (subH_row rfl (by dsimp only; (rw [List.take_zero]; simp)) subH_nil))
     ·exact (subH_same rfl (subH_same rfl (subH_same rfl (subH_same rfl (subH_same rfl (subH_same rfl (subH_same rfl (subH_same rfl (subH_same rfl subH_nil)))))))))
     ·rintro ⟨t, oa2, on2, oc2⟩ ⟨ht, hon⟩
      dsimp only at ht hon ⊢
      intro K23 hK23
      refine wp_seq' fun K24 hK24 => ?_
      refine wp_reg ?_
      refine ol_r (r_lss rfl rfl) rfl ?_
      refine ol_nil (to_k0 (fun _ _ h => h) (hK24 _ _ _ _ _ ?_))
      clear hK24
      refine wp_seq' fun K25 hK25 => ?_
      refine wp_condD rfl (fun hc54 => ?_) (fun hc54 => ?_)
      ·refine wp_skip' (to_k0 (fun _ _ h => h) (hK25 _ _ _ _ _ ?_))
       clear hK25
       refine wp_seq' fun K26 hK26 => ?_
       refine wp_block' ?_
       refine wp_seq' fun K27 hK27 => ?_
       refine wp_reg ?_
       refine ol_ixo (id := 10) encI _ rfl rfl rfl rfl sl150 (by omega) rfl fun x55 hx55 => ?_
       try simp only [Int.toNat_natCast] at hx55
       try simp only [Int.toNat_natCast] at hx55
       refine ol_r (r_ldw rfl (fun w1 hb1 hs1 hB1 => show Loads _ _ _ _ (.int .i64 x55) from ld_own (id := 10) hs1 rfl rfl ty3 hx55)) rfl ?_
       refine ol_r (r_assign rfl) rfl ?_
       refine ol_nil (to_k0 (fun _ _ h => h) (hK27 _ _ _ _ _ ?_))
       clear hK27
       refine wp_seq' fun K28 hK28 => ?_
       refine wp_regq (by kernel_rfl) (by kernel_rfl) ?_
       obtain ⟨i, g, rfl, hi, hgi, hcr⟩ := gIdx_mem (gOrd_mem.1 (List.mem_of_getElem? hx55))
       obtain ⟨hpk, hnd, hpe⟩ := part_ok (hseg.g g (List.mem_of_getElem? hgi)) hp hq hcr
       have hsc := scale_part hpk hnd (d := x.2.at_ - x.1.at_) (by omega)
       obtain ⟨⟨hpk1, hpk2⟩, hpk3, hpk4⟩ := hpk
       have hml : (gs.map fun g => partOf g x.1 x.2).length = gs.length := List.length_map _
       refine ql_r (r_ld (id := 9) rfl rfl rfl sc149) rfl ?_
       refine ql_r (r_move rfl) rfl ?_
       refine ql_ixo (id := 3009) encPart _ rfl rfl rfl rfl sl149 (by omega) (by omega) rfl fun x60 hx60 => ?_
       try simp only [Int.toNat_natCast] at hx60
       try simp only [Int.toNat_natCast] at hx60
       have h60 : x60 = partOf g x.1 x.2 := by
         rw [List.getElem?_map, hgi] at hx60
         exact (Option.some.inj hx60).symm
       refine ql_r (r_faO (id := 3009) rfl rfl rfl hx60 fl152_0) rfl ?_
       refine ql_r (r_ldw rfl (fun w1 hb1 hs1 hB1 => ld_ownF (id := 3009) (o := 0) hs1 rfl rfl sc3 hx60 rfl)) rfl ?_
       refine ql_r (r_fa (o' := 0) rfl fl51_0 rfl) rfl ?_
       refine ql_r (r_ld (id := 8) rfl rfl rfl sc3) rfl ?_
       refine ql_r (r_fa (o' := 0) rfl fl51_0 rfl) rfl ?_
       refine ql_r (r_ld (id := 7) rfl rfl rfl sc3) rfl ?_
       refine ql_r (r_sub rfl rfl (by omega)) rfl ?_
       refine ql_r (r_mul rfl rfl (by omega)) rfl ?_
       refine ql_r (r_ld (id := 9) rfl rfl rfl sc149) rfl ?_
       refine ql_r (r_move rfl) rfl ?_
       refine ql_ixo (id := 3009) encPart _ rfl rfl rfl rfl sl149 (by omega) (by omega) rfl fun x71 hx71 => ?_
       try simp only [Int.toNat_natCast] at hx71
       try simp only [Int.toNat_natCast] at hx71
       refine ql_r (r_faO (id := 3009) rfl rfl rfl hx71 fl152_1) rfl ?_
       refine ql_r (r_ldw rfl (fun w1 hb1 hs1 hB1 => ld_ownF (id := 3009) (o := 1) hs1 rfl rfl sc3 hx71 rfl)) rfl ?_
       have h71 : x71 = partOf g x.1 x.2 := by
         rw [List.getElem?_map, hgi] at hx71
         exact (Option.some.inj hx71).symm
       rw [h60, h71]
       refine ql_call rfl rfl cb106 rfl (fun w1 hb1 hs1 hB1 => quant_ScaleD _ _ _ _ (by omega) (by omega) (by omega) (by omega)) ?_
       refine ql_r (r_move rfl) rfl ?_
       refine ql_r (r_extract rfl rfl) rfl ?_
       refine ql_r (r_extract rfl rfl) rfl ?_
       refine ql_r (r_assign rfl) rfl ?_
       refine ql_r (r_assign rfl) rfl ?_
       refine ql_nil (to_k0 (fun _ _ h => h) (hK28 _ _ _ _ _ ?_))
       clear hK28
       refine wp_reg ?_
       refine ol_r (r_ld (id := 5) rfl rfl rfl sc83) rfl ?_
       refine ol_r (r_move rfl) rfl ?_
       refine ol_r (r_ld (id := 6) rfl rfl rfl sc3) rfl ?_
       refine ol_r (r_fa (o' := 0) rfl fl51_0 rfl) rfl ?_
       refine ol_r (r_ld (id := 7) rfl rfl rfl sc3) rfl ?_
       refine ol_r (r_mul rfl rfl (by omega)) rfl ?_
       refine ol_r (r_move rfl) rfl ?_
       refine ol_r (r_add rfl rfl (by omega)) rfl ?_
       refine ol_r (r_build rfl (fun _ => bd88_0_1_2 _ _ _ _)) rfl ?_
       refine ol_bs1 86 rfl rfl rw83 rfl rfl rfl fun a86 => ?_
       refine ol_append1 (id := 3005) (id2 := 86) rfl rfl rfl rfl rfl rw83 (by omega) rfl fun a87 c87 => ?_
       refine ol_store (id := 5) rfl rfl rfl rfl sz83 rfl rfl (by first | decide | exact Nat.zero_lt_succ _ | simp) ?_
       refine ol_nil (to_k0 (fun _ _ h => h) (hK26 _ _ _ _ _ ?_))
       clear hK26
       refine wp_reg ?_
       refine ol_r (r_add rfl rfl (by omega)) rfl ?_
       refine ol_r (r_move rfl) rfl ?_
       refine ol_nil (to_k0 (fun _ _ h => h) (hK23 ((t + 1, _, _, _)) _ _ ?_ ?_ (sub_cons rfl sub_nil) (sub_cons rfl (sub_cons rfl (sub_cons rfl (sub_cons rfl (sub_cons rfl (sub_cons rfl (sub_cons rfl (sub_cons rfl sub_nil)))))))) (by exact (subH_blk rfl (sub_cons rfl sub_nil) (subH_row rfl (by dsimp only; (rw [take_succ_get hx55, List.map_append, ← List.append_assoc, Enc.enc_append, List.map_cons, List.map_nil, crossOf_eq hgi]; rfl)) subH_nil))) (subH_same rfl (subH_same rfl (subH_same rfl (subH_same rfl (subH_same rfl (subH_same rfl (subH_same rfl (subH_same rfl (subH_same rfl subH_nil)))))))))))
       ·try dsimp only
        exact ⟨by omega, by omega⟩
       ·try dsimp only
        omega
      ·refine wp_exit' (to_k0 (fun _ _ h => h) (hK21 _ _ _ _ _ ?_))
       clear hK21
       refine wp_reg ?_
       refine ol_r (r_ld (id := 6) rfl rfl rfl sc3) rfl ?_
       refine ol_r (r_add rfl rfl (by omega)) rfl ?_
       refine ol_store (id := 6) rfl rfl rfl rfl sz3 rfl rfl (by first | decide | exact Nat.zero_lt_succ _ | simp) ?_
       refine ol_nil (QP.of (hn ((_, _, _)) _ _ ?_ (by exact (subH_blk rfl (sub_cons rfl sub_nil) (subH_blk rfl (sub_cons rfl sub_nil) (subH_row rfl (by (rw [crossS_succ hx, List.take_of_length_le (show (gOrd gs x.1 x.2 gs.length).length ≤ t by rw [gOrd_len]; omega)])) subH_nil)))) (subH_same rfl (subH_same rfl (subH_same rfl subH_nil)))) (fun _ _ h => h))
       try dsimp only
       omega
  ·rintro s dd hI
   refine (to_k0 (fun _ _ h => h) (hK4 _ _ _ _ _ ?_))
   clear hK4
   refine wp_seq' fun K29 hK29 => ?_
   refine wp_reg ?_
   refine ol_r (r_ld (id := 5) rfl rfl rfl sc83) rfl ?_
   refine ol_r (r_assign rfl) rfl ?_
   refine ol_nil (to_k0 (fun _ _ h => h) (hK29 _ _ _ _ _ ?_))
   clear hK29
   refine hQ.ret (rvs1 (rv_t rfl)) (fun _ _ h => h) fun w hb hs hB hkd => ?_
   exact ⟨_, _, _, rfl, hb, hs.ok 3005 _ rfl⟩
  ·exact fun t dd hI => hI.elim
def crossR (nm : ByteArray) (gs : List GateR) (d : ActD) : List CrossR × Int := if orL [chkSeg nm gs, chkA d] ≠ 0 then ([], orL [chkSeg nm gs, chkA d]) else (crossS gs (stepsL d.ss) (stepsL d.ss).length, 0)
theorem or_both {nm : ByteArray} {gs : List GateR} {A : ActV} (h : ¬orL [chkSeg nm gs, chkA A.d] ≠ 0) : SegOk nm gs ∧ SmpOk A.start A.ss := by
  have h0 := Decidable.not_not.1 h
  unfold orL orL orL at h0
  by_cases h1 : chkSeg nm gs ≠ 0
  · rw [if_pos h1] at h0; exact absurd h0 h1
  · rw [if_neg h1] at h0
    refine ⟨segOk (Decidable.not_not.1 h1), ?_⟩
    by_cases h2 : chkA A.d ≠ 0
    · rw [if_pos h2] at h0; exact absurd h0 h2
    · exact (goodA (Decidable.not_not.1 h2)).smp
theorem match_Crossings (nm : ByteArray) (ga : Option Addr) (gn gc : Nat) (gs : List GateR) (A : ActV) (w : World) (hn : nm.size ≤ 9223372036854775807) (hS : Rd encGate w.heap.size w ga gn gc gs) (hA : A.Ok w.heap.size w) :
    Calls Try.prog 48 #[.agg #[.string nm, .slice ga gn gc], .agg #[.string A.name, .int .i64 A.sport, .int .i64 A.start, .slice A.sa A.sn A.sc, .slice A.la A.ln A.lc, .slice A.ta A.tn A.tc]] w fun e w' => ∃ b m k, e = .returned (.tuple #[.slice b m k, .int .i64 (crossR nm gs A.d).2]) ∧ Fresh encCr 88 w w' b m k (crossR nm gs A.d).1 := by
  refine enterQ (N := 16) (C := fun _ => True) (H := []) (B := w.heap.size) (args := [_, _]) Try.func48 rfl rfl rfl (Nat.le_refl _) (Sat.nil _ _) fun Q hQ => ?_
  refine wp_seq' fun K1 hK1 => ?_
  refine wp_reg ?_
  refine ol_box 2 rfl rfl rfl fun b2 => ?_
  refine ol_box 3 rfl rfl rfl fun b3 => ?_
  refine ol_r (r_assign rfl) rfl ?_
  refine ol_r (r_assign rfl) rfl ?_
  refine ol_nil (to_k0 (fun _ _ h => h) (hK1 _ _ _ _ _ ?_))
  clear hK1
  refine wp_seq' fun K2 hK2 => ?_
  refine wp_seq' fun K3 hK3 => ?_
  refine wp_reg ?_
  refine ol_r (r_lda (id := 2) (n := 2) rfl rfl rfl ag82) rfl ?_
  refine ol_r (r_lda (id := 3) (n := 6) rfl rfl rfl ag39) rfl ?_
  refine ol_call rfl rfl cb80 rfl (fun w1 hb1 hs1 hB1 => Calls.mono (match_checkRun nm _ _ _ gs A _ hn (hS.at hb1 hB1) (hA.at hb1 hB1)) ?_)
  rintro e w2 ⟨rfl, hb2⟩
  refine After.below rfl hb1 hs1 hB1 hb2 ?_
  clear hb2 hB1 hs1 hb1 w2 w1
  refine ol_r (r_assign rfl) rfl ?_
  refine ol_nil (to_k0 (fun _ _ h => h) (hK3 _ _ _ _ _ ?_))
  clear hK3
  refine wp_seq' fun K4 hK4 => ?_
  refine wp_reg ?_
  refine ol_r (r_move rfl) rfl ?_
  refine ol_r (r_neq rfl rfl) rfl ?_
  refine ol_nil (to_k0 (fun _ _ h => h) (hK4 _ _ _ _ _ ?_))
  clear hK4
  refine wp_condD rfl (fun hc11 => ?_) (fun hc11 => ?_)
  ·refine wp_seq' fun K5 hK5 => ?_
   refine wp_reg ?_
   refine ol_r (r_move rfl) rfl ?_
   refine ol_r (r_assign rfl) rfl ?_
   refine ol_r (r_assign rfl) rfl ?_
   refine ol_nil (to_k0 (fun _ _ h => h) (hK5 _ _ _ _ _ ?_))
   clear hK5
   refine hQ.ret (rvs2 (rv_t rfl) (rv_t rfl)) (fun _ _ h => h) fun w hb hs hB hkd => ?_
   exact ⟨none, 0, 0, by rw [crossR, if_pos hc11], by rw [crossR, if_pos hc11]; exact Fresh.nil hb⟩
  ·refine wp_skip' (to_k0 (fun _ _ h => h) (hK2 _ _ _ _ _ ?_))
   clear hK2
   refine wp_seq' fun K6 hK6 => ?_
   refine wp_reg ?_
   refine ol_r (r_lda (id := 2) (n := 2) rfl rfl rfl ag82) rfl ?_
   refine ol_r (r_lda (id := 3) (n := 6) rfl rfl rfl ag39) rfl ?_
   refine ol_call rfl rfl cb81 rfl (fun w1 hb1 hs1 hB1 => Calls.mono (cross_gen nm _ _ _ gs A _ (hS.at hb1 hB1) (hA.at hb1 hB1) (or_both hc11).1 (or_both hc11).2) ?_)
   rintro e w2 ⟨a15, n15, c15, rfl, hf15⟩
   refine After.fresh (id := 15) rfl hb1 hs1 hB1 hf15 ?_
   have hl15 := hf15.len; clear hf15 hB1 hs1 hb1 w2 w1
   refine ol_r (r_assign rfl) rfl ?_
   refine ol_r (r_assign rfl) rfl ?_
   refine ol_nil (to_k0 (fun _ _ h => h) (hK6 _ _ _ _ _ ?_))
   clear hK6
   refine hQ.ret (rvs2 (rv_t rfl) (rv_t rfl)) (fun _ _ h => h) fun w hb hs hB hkd => ?_
   exact ⟨_, _, _, by rw [crossR, if_neg hc11], by rw [crossR, if_neg hc11]; exact ⟨hb, hs.ok 15 _ rfl⟩⟩
end Go.Proofs.Ytjflbnbofedlkaa

/-
  What harrierlaw5 tells, from the crossings in general; MatchCrossingsMatchSpec.
-/

namespace Go.Proofs.Ytjflbnbofedlkaa
open Go Go.RowKit Hx
set_option linter.unusedVariables false
set_option linter.unusedSimpArgs false
set_option maxRecDepth 8000
theorem told_crossS : crossS toldG (stepsL toldS) (stepsL toldS).length = [⟨0, 0, 5000⟩] := by kernel_rfl
theorem told_R : crossR ⟨#[115]⟩ toldG toldD = ([⟨0, 0, 5000⟩], 0) := by
  unfold crossR
  rw [if_neg (by decide +kernel)]
  exact congrArg (fun l => (l, (0 : Int))) told_crossS
theorem law5_told (w : World) : Calls Try.prog 13 #[] w fun e w' => e = .returned (.bool true) ∧ Below w.heap.size w w' := by
  refine enterQ (N := 31) (C := fun _ => True) (H := []) (B := w.heap.size) (args := []) Try.func13 rfl rfl rfl (Nat.le_refl _) (Sat.nil _ _) fun Q hQ => ?_
  refine wp_seq' fun K1 hK1 => ?_
  refine wp_reg ?_
  refine ol_r (r_assign rfl) rfl ?_
  refine ol_nil (to_k0 (fun _ _ h => h) (hK1 _ _ _ _ _ ?_))
  clear hK1
  refine wp_seq' fun K2 hK2 => ?_
  refine wp_reg ?_
  refine ol_r (r_build rfl (fun _ => bd41_1 _ _)) rfl ?_
  refine ol_r (r_build rfl (fun _ => bd41_1 _ _)) rfl ?_
  refine ol_r (r_build rfl (fun _ => bd79_0_1 _ _ _ _ _)) rfl ?_
  refine ol_r (r_build rfl (fun _ => bd41_0_1 _ _ _)) rfl ?_
  refine ol_r (r_build rfl (fun _ => bd41_0_1 _ _ _)) rfl ?_
  refine ol_r (r_build rfl (fun _ => bd79_0_1 _ _ _ _ _)) rfl ?_
  refine ol_bsG (encGate.enc (toldG)) 11 rfl rw80 rfl rfl (fun _ => by kernel_rfl) rfl fun a11 => ?_
  refine ol_r (r_build rfl (fun _ => bd82_0_1 _ _ _ _ _)) rfl ?_
  refine ol_alloc 1 z82 rfl fun b1 => ?_
  refine ol_store (id := 1) rfl rfl rfl rfl sz82 rfl rfl (by first | decide | exact Nat.zero_lt_succ _ | simp) ?_
  refine ol_nil (to_k0 (fun _ _ h => h) (hK2 _ _ _ _ _ ?_))
  clear hK2
  refine wp_seq' fun K3 hK3 => ?_
  refine wp_reg ?_
  refine ol_r (r_build rfl (fun _ => bd51_1_4_5_6 _ _ _ _ _)) rfl ?_
  refine ol_r (r_build rfl (fun _ => bd51_0_1_4_5_6 _ _ _ _ _ _)) rfl ?_
  refine ol_bsG (encSmp.enc (toldS)) 15 rfl rw35 rfl rfl (fun _ => by kernel_rfl) rfl fun a15 => ?_
  refine ol_r (r_build rfl (fun _ => bd39_0_1_3 _ _ _ _ _ _)) rfl ?_
  refine ol_alloc 2 z39 rfl fun b2 => ?_
  refine ol_store (id := 2) rfl rfl rfl rfl sz39 rfl rfl (by first | decide | exact Nat.zero_lt_succ _ | simp) ?_
  refine ol_nil (to_k0 (fun _ _ h => h) (hK3 _ _ _ _ _ ?_))
  clear hK3
  refine wp_seq' fun K4 hK4 => ?_
  refine wp_reg ?_
  refine ol_r (r_lda (id := 1) (n := 2) rfl rfl rfl ag82) rfl ?_
  refine ol_r (r_lda (id := 2) (n := 6) rfl rfl rfl ag39) rfl ?_
  refine ol_call rfl rfl cb48 rfl (fun w1 hb1 hs1 hB1 => Calls.mono (match_Crossings ⟨#[115]⟩ _ _ _ toldG (toldA a15 2) _ (by show 1 ≤ _; decide) (Sat.rd hs1 (id := 11) rfl rfl) (toldA_ok (Sat.rd hs1 (id := 15) rfl rfl))) ?_)
  rintro e w2 ⟨a20, n20, c20, rfl, hf20⟩
  refine After.fresh (id := 20) rfl hb1 hs1 hB1 hf20 ?_
  have hl20 := hf20.len; clear hf20 hB1 hs1 hb1 w2 w1
  refine ol_r (r_move rfl) rfl ?_
  have hC : crossR ⟨#[115]⟩ toldG (toldA a15 2).d = ([⟨0, 0, 5000⟩], 0) := told_R
  rw [hC] at hl20 ⊢
  dsimp only at hl20 ⊢
  obtain rfl : n20 = 1 := by rw [← hl20]; rfl
  refine ol_r (r_extract rfl rfl) rfl ?_
  refine ol_r (r_extract rfl rfl) rfl ?_
  refine ol_r (r_assign rfl) rfl ?_
  refine ol_r (r_assign rfl) rfl ?_
  refine ol_nil (to_k0 (fun _ _ h => h) (hK4 _ _ _ _ _ ?_))
  clear hK4
  refine wp_seq' fun K5 hK5 => ?_
  refine wp_reg ?_
  refine ol_r (r_move rfl) rfl ?_
  refine ol_r (r_eql rfl rfl) rfl ?_
  refine ol_r (r_move rfl) rfl ?_
  refine ol_split (d := 25) rfl (fun hs25 => ?_) (fun hs25 => ?_)
  ·have phs25 := hs25; try simp only [decide_eq_true_eq, decide_eq_false_iff_not, Bool.not_eq_true', Bool.not_eq_false', Bool.not_true, Bool.not_false] at phs25
   refine ol_g rfl rfl hs25 ?_
   refine ol_r (r_move rfl) rfl ?_
   refine ol_g rfl rfl hs25 ?_
   refine ol_r (r_build rfl (fun _ => bd88_2 _ _)) rfl ?_
   refine ol_g rfl rfl hs25 ?_
   refine ol_bs1 28 rfl rfl rw83 rfl rfl rfl fun a28 => ?_
   refine ol_g rfl rfl hs25 ?_
   refine ol_call rfl rfl cb49 rfl (fun w1 hb1 hs1 hB1 => Calls.mono (equal_cr_same _ _ _ _ _ [⟨0, 0, 5000⟩] _ (Sat.rd hs1 (id := 20) rfl rfl) (Sat.rd hs1 (E := encCr) (xs := [⟨0, 0, 5000⟩]) (id := 28) rfl rfl)) ?_)
   rintro e w2 ⟨rfl, hb2⟩
   refine After.below rfl hb1 hs1 hB1 hb2 ?_
   clear hb2 hB1 hs1 hb1 w2 w1
   refine ol_r (r_pickT rfl hs25 rfl) rfl ?_
   refine ol_r (r_assign rfl) rfl ?_
   refine ol_nil (to_k0 (fun _ _ h => h) (hK5 _ _ _ _ _ ?_))
   clear hK5
   refine hQ.ret (rvs1 (rv_t rfl)) (fun _ _ h => h) fun w hb hs hB hkd => ?_
   first
     | exact ⟨rfl, hb⟩
  ·have phs25 := hs25; try simp only [decide_eq_true_eq, decide_eq_false_iff_not, Bool.not_eq_true', Bool.not_eq_false', Bool.not_true, Bool.not_false] at phs25
   refine ol_s rfl rfl hs25 rfl ?_
   refine ol_s rfl rfl hs25 rfl ?_
   refine ol_s rfl rfl hs25 rfl ?_
   refine ol_s rfl rfl hs25 rfl ?_
   refine ol_r (r_pickF rfl hs25 rfl) rfl ?_
   refine ol_r (r_assign rfl) rfl ?_
   refine ol_nil (to_k0 (fun _ _ h => h) (hK5 _ _ _ _ _ ?_))
   clear hK5
   refine hQ.ret (rvs1 (rv_t rfl)) (fun _ _ h => h) fun w hb hs hB hkd => ?_
   first
     | (exfalso; simp at phs25; done)
end Go.Proofs.Ytjflbnbofedlkaa

/-
  Small things of several texts: cmp.Compare of ints, keys that are ints, the front of new memory.
-/


namespace Go.Proofs.Ytjflbnbofedlkaa
open Go Go.RowKit Hx
set_option linter.unusedVariables false
set_option linter.unusedSimpArgs false
set_option maxRecDepth 8000
theorem cmp_isNaNI (x : Int) (w : World) : Calls Try.prog 118 #[.int .i64 x] w fun e w' => e = .returned (.bool false) ∧ Below w.heap.size w w' := by
  refine enterQ (N := 6) (C := fun _ => True) (H := []) (B := w.heap.size) (args := [_]) Try.func118 rfl rfl rfl (Nat.le_refl _) (Sat.nil _ _) fun Q hQ => ?_
  refine wp_seq' fun K1 hK1 => ?_
  refine wp_reg ?_
  refine ol_r (r_assign rfl) rfl ?_
  refine ol_nil (to_k0 (fun _ _ h => h) (hK1 _ _ _ _ _ ?_))
  clear hK1
  refine wp_seq' fun K2 hK2 => ?_
  refine wp_reg ?_
  refine ol_r (r_move rfl) rfl ?_
  refine ol_r (r_move rfl) rfl ?_
  refine ol_r (r_neq rfl rfl) rfl ?_
  refine ol_r (r_assign rfl) rfl ?_
  refine ol_nil (to_k0 (fun _ _ h => h) (hK2 _ _ _ _ _ ?_))
  clear hK2
  refine hQ.ret (rvs1 (rv_t rfl)) (fun _ _ h => h) fun w hb hs hB hkd => ?_
  exact ⟨by simp, hb⟩
theorem cmp_CompareI (x y : Int) (w : World) : Calls Try.prog 97 #[.int .i64 x, .int .i64 y] w fun e w' => e = .returned (.int .i64 (cmpI x y)) ∧ Below w.heap.size w w' := by
  refine enterQ (N := 20) (C := fun _ => True) (H := []) (B := w.heap.size) (args := [_, _]) Try.func97 rfl rfl rfl (Nat.le_refl _) (Sat.nil _ _) fun Q hQ => ?_
  refine wp_seq' fun K1 hK1 => ?_
  refine wp_reg ?_
  refine ol_r (r_assign rfl) rfl ?_
  refine ol_nil (to_k0 (fun _ _ h => h) (hK1 _ _ _ _ _ ?_))
  clear hK1
  refine wp_seq' fun K2 hK2 => ?_
  refine wp_reg ?_
  refine ol_r (r_move rfl) rfl ?_
  refine ol_call rfl rfl cb118 rfl (fun w1 hb1 hs1 hB1 => Calls.mono (cmp_isNaNI _ _) ?_)
  rintro e w2 ⟨rfl, hb2⟩
  refine After.below rfl hb1 hs1 hB1 hb2 ?_
  clear hb2 hB1 hs1 hb1 w2 w1
  refine ol_r (r_assign rfl) rfl ?_
  refine ol_nil (to_k0 (fun _ _ h => h) (hK2 _ _ _ _ _ ?_))
  clear hK2
  refine wp_seq' fun K3 hK3 => ?_
  refine wp_reg ?_
  refine ol_r (r_move rfl) rfl ?_
  refine ol_call rfl rfl cb118 rfl (fun w1 hb1 hs1 hB1 => Calls.mono (cmp_isNaNI _ _) ?_)
  rintro e w2 ⟨rfl, hb2⟩
  refine After.below rfl hb1 hs1 hB1 hb2 ?_
  clear hb2 hB1 hs1 hb1 w2 w1
  refine ol_r (r_assign rfl) rfl ?_
  refine ol_nil (to_k0 (fun _ _ h => h) (hK3 _ _ _ _ _ ?_))
  clear hK3
  refine wp_seq' fun K4 hK4 => ?_
  refine wp_seq' fun K5 hK5 => ?_
  refine wp_reg ?_
  refine ol_r (r_move rfl) rfl ?_
  refine ol_nil (to_k0 (fun _ _ h => h) (hK5 _ _ _ _ _ ?_))
  clear hK5
  first | refine wp_condD rfl (fun hc11 => ?_) (fun hc11 => ?_) | refine wp_condN rfl (fun hc11 => ?_) (fun hc11 => ?_) | refine wp_condNB rfl (fun hc11 => ?_) (fun hc11 => ?_) | refine wp_cond' rfl (fun hc11 => ?_) (fun hc11 => ?_)
  ·refine wp_seq' fun K6 hK6 => ?_
   refine wp_seq' fun K7 hK7 => ?_
   refine wp_reg ?_
   refine ol_r (r_move rfl) rfl ?_
   refine ol_nil (to_k0 (fun _ _ h => h) (hK7 _ _ _ _ _ ?_))
   clear hK7
   first | refine wp_condD rfl (fun hc12 => ?_) (fun hc12 => ?_) | refine wp_condN rfl (fun hc12 => ?_) (fun hc12 => ?_) | refine wp_condNB rfl (fun hc12 => ?_) (fun hc12 => ?_) | refine wp_cond' rfl (fun hc12 => ?_) (fun hc12 => ?_)
   ·refine wp_seq' fun K8 hK8 => ?_
    refine wp_reg ?_
    refine ol_r (r_assign rfl) rfl ?_
    refine ol_nil (to_k0 (fun _ _ h => h) (hK8 _ _ _ _ _ ?_))
    clear hK8
    refine hQ.ret (rvs1 (rv_t rfl)) (fun _ _ h => h) fun w hb hs hB hkd => ?_
    first
      | exact ⟨by unfold cmpI; rw [if_pos (by omega)], hb⟩
      | exact ⟨by unfold cmpI; rw [if_neg (by omega), if_pos (by omega)], hb⟩
      | exact ⟨by unfold cmpI; rw [if_neg (by omega), if_neg (by omega)], hb⟩
      | (exfalso; simp_all; done)
   ·refine wp_skip' (to_k0 (fun _ _ h => h) (hK6 _ _ _ _ _ ?_))
    clear hK6
    refine wp_seq' fun K9 hK9 => ?_
    refine wp_reg ?_
    refine ol_r (r_assign rfl) rfl ?_
    refine ol_nil (to_k0 (fun _ _ h => h) (hK9 _ _ _ _ _ ?_))
    clear hK9
    refine hQ.ret (rvs1 (rv_t rfl)) (fun _ _ h => h) fun w hb hs hB hkd => ?_
    first
      | exact ⟨by unfold cmpI; rw [if_pos (by omega)], hb⟩
      | exact ⟨by unfold cmpI; rw [if_neg (by omega), if_pos (by omega)], hb⟩
      | exact ⟨by unfold cmpI; rw [if_neg (by omega), if_neg (by omega)], hb⟩
      | (exfalso; simp_all; done)
  ·refine wp_skip' (to_k0 (fun _ _ h => h) (hK4 _ _ _ _ _ ?_))
   clear hK4
   refine wp_seq' fun K10 hK10 => ?_
   refine wp_seq' fun K11 hK11 => ?_
   refine wp_reg ?_
   refine ol_r (r_move rfl) rfl ?_
   refine ol_nil (to_k0 (fun _ _ h => h) (hK11 _ _ _ _ _ ?_))
   clear hK11
   first | refine wp_condD rfl (fun hc13 => ?_) (fun hc13 => ?_) | refine wp_condN rfl (fun hc13 => ?_) (fun hc13 => ?_) | refine wp_condNB rfl (fun hc13 => ?_) (fun hc13 => ?_) | refine wp_cond' rfl (fun hc13 => ?_) (fun hc13 => ?_)
   ·refine wp_seq' fun K12 hK12 => ?_
    refine wp_reg ?_
    refine ol_r (r_assign rfl) rfl ?_
    refine ol_nil (to_k0 (fun _ _ h => h) (hK12 _ _ _ _ _ ?_))
    clear hK12
    refine hQ.ret (rvs1 (rv_t rfl)) (fun _ _ h => h) fun w hb hs hB hkd => ?_
    first
      | exact ⟨by unfold cmpI; rw [if_pos (by omega)], hb⟩
      | exact ⟨by unfold cmpI; rw [if_neg (by omega), if_pos (by omega)], hb⟩
      | exact ⟨by unfold cmpI; rw [if_neg (by omega), if_neg (by omega)], hb⟩
      | (exfalso; simp_all; done)
   ·refine wp_skip' (to_k0 (fun _ _ h => h) (hK10 _ _ _ _ _ ?_))
    clear hK10
    refine wp_seq' fun K13 hK13 => ?_
    refine wp_seq' fun K14 hK14 => ?_
    refine wp_reg ?_
    refine ol_r (r_move rfl) rfl ?_
    refine ol_r (r_move rfl) rfl ?_
    refine ol_r (r_lss rfl rfl) rfl ?_
    refine ol_nil (to_k0 (fun _ _ h => h) (hK14 _ _ _ _ _ ?_))
    clear hK14
    first | refine wp_condD rfl (fun hc16 => ?_) (fun hc16 => ?_) | refine wp_condN rfl (fun hc16 => ?_) (fun hc16 => ?_) | refine wp_condNB rfl (fun hc16 => ?_) (fun hc16 => ?_) | refine wp_cond' rfl (fun hc16 => ?_) (fun hc16 => ?_)
    ·refine wp_seq' fun K15 hK15 => ?_
     refine wp_reg ?_
     refine ol_r (r_assign rfl) rfl ?_
     refine ol_nil (to_k0 (fun _ _ h => h) (hK15 _ _ _ _ _ ?_))
     clear hK15
     refine hQ.ret (rvs1 (rv_t rfl)) (fun _ _ h => h) fun w hb hs hB hkd => ?_
     first
       | exact ⟨by unfold cmpI; rw [if_pos (by omega)], hb⟩
       | exact ⟨by unfold cmpI; rw [if_neg (by omega), if_pos (by omega)], hb⟩
       | exact ⟨by unfold cmpI; rw [if_neg (by omega), if_neg (by omega)], hb⟩
       | (exfalso; simp_all; done)
    ·refine wp_skip' (to_k0 (fun _ _ h => h) (hK13 _ _ _ _ _ ?_))
     clear hK13
     refine wp_seq' fun K16 hK16 => ?_
     refine wp_seq' fun K17 hK17 => ?_
     refine wp_reg ?_
     refine ol_r (r_move rfl) rfl ?_
     refine ol_r (r_move rfl) rfl ?_
     refine ol_r (r_gtr rfl rfl) rfl ?_
     refine ol_nil (to_k0 (fun _ _ h => h) (hK17 _ _ _ _ _ ?_))
     clear hK17
     first | refine wp_condD rfl (fun hc19 => ?_) (fun hc19 => ?_) | refine wp_condN rfl (fun hc19 => ?_) (fun hc19 => ?_) | refine wp_condNB rfl (fun hc19 => ?_) (fun hc19 => ?_) | refine wp_cond' rfl (fun hc19 => ?_) (fun hc19 => ?_)
     ·refine wp_seq' fun K18 hK18 => ?_
      refine wp_reg ?_
      refine ol_r (r_assign rfl) rfl ?_
      refine ol_nil (to_k0 (fun _ _ h => h) (hK18 _ _ _ _ _ ?_))
      clear hK18
      refine hQ.ret (rvs1 (rv_t rfl)) (fun _ _ h => h) fun w hb hs hB hkd => ?_
      first
        | exact ⟨by unfold cmpI; rw [if_pos (by omega)], hb⟩
        | exact ⟨by unfold cmpI; rw [if_neg (by omega), if_pos (by omega)], hb⟩
        | exact ⟨by unfold cmpI; rw [if_neg (by omega), if_neg (by omega)], hb⟩
        | (exfalso; simp_all; done)
     ·refine wp_skip' (to_k0 (fun _ _ h => h) (hK16 _ _ _ _ _ ?_))
      clear hK16
      refine wp_seq' fun K19 hK19 => ?_
      refine wp_reg ?_
      refine ol_r (r_assign rfl) rfl ?_
      refine ol_nil (to_k0 (fun _ _ h => h) (hK19 _ _ _ _ _ ?_))
      clear hK19
      refine hQ.ret (rvs1 (rv_t rfl)) (fun _ _ h => h) fun w hb hs hB hkd => ?_
      first
        | exact ⟨by unfold cmpI; rw [if_pos (by omega)], hb⟩
        | exact ⟨by unfold cmpI; rw [if_neg (by omega), if_pos (by omega)], hb⟩
        | exact ⟨by unfold cmpI; rw [if_neg (by omega), if_neg (by omega)], hb⟩
        | (exfalso; simp_all; done)
theorem Hx.Fresh.head {α : Type} {E : Enc α} {e : TypeId} {w w' : World} {a : Option Addr} {n cap : Nat} {ys : List α} (h : Fresh E e w w' a n cap ys) : (0 < n → ∃ g, a = some ⟨g, 0, none⟩) ∧ n ≤ cap ∧ cap ≤ 9223372036854775807 := by
  obtain ⟨_, h1, h2 | ⟨g, cap', cur, hv, _, _, h3, h4, _⟩⟩ := h
  · cases h2.1
    exact ⟨fun h => by have := h2.2; omega, by have := h2.2; omega, by omega⟩
  · cases hv
    exact ⟨fun _ => ⟨g, rfl⟩, h3, h4⟩
theorem intKey_chk (e : Bool) (x : Int) (w : World) (n : Nat) : (Instr.checkKey e (n + 1) 3 (.int .i64 x)).run Try.prog w = .ok () w := by
  rw [Instr.checkKey]
  simp only [Sem.run_bind, run_underlying (Try.underlying3), Result.andThen_ok]
  rfl
end Go.Proofs.Ytjflbnbofedlkaa

/-
  More rules: what is left of an own row, read from its front.
-/

namespace Go.Proofs.Ytjflbnbofedlkaa.Hx
open Go Go.RowKit
set_option linter.unusedVariables false
set_option linter.unusedSimpArgs false
/-- Where the rest of a row begins. -/
def TlP (a p : Option Addr) (i n size : Nat) : Prop := i < n → p = a.map (·.add (i * size))
theorem TlP.zero {a : Option Addr} {n size : Nat} (h : 0 < n → ∃ g, a = some ⟨g, 0, none⟩) : TlP a a 0 n size := fun hn => by
  obtain ⟨g, rfl⟩ := h hn
  simp only [Option.map_some, add_none, Nat.zero_mul, Nat.add_zero]
theorem TlP.next {a p : Option Addr} {i n size c : Nat} (h : TlP a p i n size) (ha : 0 < n → ∃ g, a = some ⟨g, 0, none⟩) (hc : n ≤ c) : TlP a (if c - i = 1 then p else p.map (·.add (1 * size))) (i + 1) n size := fun hn => by
  obtain ⟨g, rfl⟩ := ha (by omega)
  rw [h (by omega), if_neg (by omega)]
  simp only [Option.map_some, add_none, Nat.add_mul, Nat.add_assoc]
section
variable {P : Program} {N : Fr} {B : Nat} {w0 : World} {Q : Exit → Act → World → Prop} {al : AL} {H : HL} {ops rest tail : List Oper} {d : Nat} {ty : TypeId} {pos : String} {after : Array Edge} {α : Type}
theorem row_head {w : World} {id n cap size : Nat} {a : Option Addr} {xs : List Value} {e : TypeId} (hs : Sat B w H) (hr : look H id = some (.row a n cap xs e size)) (hn : 0 < n) : ∃ g, a = some ⟨g, 0, none⟩ := by
  obtain ⟨_, h | ⟨g, cap', cur, hv, _⟩⟩ := (hs.ok id _ hr : w.ownsRow B e size (.slice a n cap) n xs)
  · omega
  · cases hv; exact ⟨g, rfl⟩
theorem r_ixT {s ix : Operand} {t e : TypeId} {id n cap size i m c : Nat} {kd : IntKind} {iv : Int} {a p : Option Addr} (E : Enc α) (xs : List α) (hs : ev al s = some (.slice p m c)) (hH : look H id = some (.row a n cap (E.enc xs) e size)) (hz : size = E.size) (hi : ev al ix = some (.int kd iv)) (hT : Slc P t E.size)
    (hp : TlP a p i n E.size) (hm : m = n - i) (h0 : 0 ≤ iv ∧ i + iv < n) : Runs P N B w0 (.indexAddr t s ix) ty al H (.pointer (a.map (·.add ((i + iv.toNat) * E.size)))) := fun a0 w hst => by
  obtain ⟨g, rfl⟩ := row_head hst.sat hH (by omega)
  have hpe := hp (by omega)
  subst hpe
  have h1 := r_ix (P := P) (N := N) (B := B) (w0 := w0) (H := H) (ty := ty) hs hi hT rfl (by omega) a0 w hst
  rw [h1]
  simp only [Option.map_some, add_none, Nat.add_mul, Nat.add_assoc]
theorem ol_ixT {s ix : Operand} {t e : TypeId} {id n cap size m c : Nat} (i : Nat) {kd : IntKind} {iv : Int} {a p : Option Addr} (E : Enc α) (xs : List α) (hs : ev al s = some (.slice p m c)) (hH : look H id = some (.row a n cap (E.enc xs) e size)) (hz : size = E.size) (hi : ev al ix = some (.int kd iv)) (hT : Slc P t E.size)
    (hp : TlP a p i n E.size) (hm : m = n - i) (h0 : 0 ≤ iv ∧ i + iv < n) (hlen : xs.length = n) (hd : Nat.blt d N.n = true)
    (k : ∀ x, xs[i + iv.toNat]? = some x → OL P N B w0 ops rest Q ((d, .pointer (a.map (·.add ((i + iv.toNat) * E.size)))) :: al) H) :
    OL P N B w0 ops ({ dst := some d, op := .indexAddr t s ix, type := ty, pos, after, guard := none } :: rest) Q al H :=
  ol_r (r_ixT E xs hs hH hz hi hT hp hm h0) hd (k (xs[i + iv.toNat]'(by omega)) (by simp))
theorem ql_ixT {Qa : Act → Prop} {s ix : Operand} {t e : TypeId} {id n cap size m c : Nat} (i : Nat) {kd : IntKind} {iv : Int} {a p : Option Addr} (E : Enc α) (xs : List α) (hs : ev al s = some (.slice p m c)) (hH : look H id = some (.row a n cap (E.enc xs) e size)) (hz : size = E.size) (hi : ev al ix = some (.int kd iv)) (hT : Slc P t E.size)
    (hp : TlP a p i n E.size) (hm : m = n - i) (h0 : 0 ≤ iv ∧ i + iv < n) (hlen : xs.length = n) (hd : Nat.blt d N.n = true)
    (k : ∀ x, xs[i + iv.toNat]? = some x → QL P N B w0 ops rest Qa ((d, .pointer (a.map (·.add ((i + iv.toNat) * E.size)))) :: al) H) :
    QL P N B w0 ops ({ dst := some d, op := .indexAddr t s ix, type := ty, pos, after, guard := none } :: rest) Qa al H :=
  ql_r (r_ixT E xs hs hH hz hi hT hp hm h0) hd (k (xs[i + iv.toNat]'(by omega)) (by simp))
theorem r_slN {s lo : Operand} {m c : Nat} {p : Option Addr} {t : TypeId} {size : Nat} (hs : ev al s = some (.slice p m c)) (hlo : evo al (some lo) = some (some 1)) (hT : Slc P t size) (h0 : 1 ≤ m ∧ m ≤ c) :
    Runs P N B w0 (.slice t s (some lo) none none) ty al H (.slice (if c = 1 then p else p.map (·.add (1 * size))) (m - 1) (c - 1)) := by
  have h := r_sl (P := P) (N := N) (B := B) (w0 := w0) (H := H) (ty := ty) hs hlo (hi := none) (h := none) rfl hT (by simp; omega) h0.2
  exact h
end
end Go.Proofs.Ytjflbnbofedlkaa.Hx

/-
  More rules: an append of all of a slice to a slice of one's own.
-/

namespace Go.Proofs.Ytjflbnbofedlkaa.Hx
open Go Go.RowKit
set_option linter.unusedVariables false
set_option linter.unusedSimpArgs false
section
variable {P : Program} {N : Fr} {B : Nat} {w0 : World} {Q : Exit → Act → World → Prop} {al : AL} {H : HL} {ops rest : List Oper} {d : Nat} {ty : TypeId} {pos : String} {after : Array Edge}
theorem run_append0 {t e : TypeId} {size bytes n cap c : Nat} {a : Option Addr} {w : World} (hT : RowT P t e size bytes) (hc : n ≤ cap) :
    (Builtin.append_ #[t, t] ty #[.slice a n cap, .slice none 0 c]).run P w = .ok (.slice a n cap) w := by
  obtain ⟨hu, i, z, hi, hz, hsz, hby, hzz, hpos⟩ := hT
  cases a <;> simp [Builtin.append_, run_underlying hu, sizeOf, typeInfo, hi, Builtin.lenOf, Builtin.firstCells, hc, storeCells]
theorem Sat.again {w : World} {id : Nat} {e : Ent} (hs : Sat B w H) (hr : look H id = some e) : Sat B w ((id, e) :: H) :=
  ⟨fun i f hf => hs.ok i f (by
    by_cases h : id = i
    · subst h; rw [look_cons_eq] at hf; rw [hr]; exact hf
    · rwa [look_cons_ne _ _ h] at hf), fun i j f g hij hf hg => hs.apart i j f g hij (by
    by_cases h : id = i
    · subst h; rw [look_cons_eq] at hf; rw [hr]; exact hf
    · rwa [look_cons_ne _ _ h] at hf) (by
    by_cases h : id = j
    · subst h; rw [look_cons_eq] at hg; rw [hr]; exact hg
    · rwa [look_cons_ne _ _ h] at hg)⟩
theorem ol_append0 {s x : Operand} {id n cap c : Nat} {a : Option Addr} {xs : List Value} {t e : TypeId} {size bytes : Nat} (hs : ev al s = some (.slice a n cap)) (hr : look H id = some (.row a n cap xs e size))
    (hx : ev al x = some (.slice none 0 c)) (hT : RowT P t e size bytes) (hd : Nat.blt d N.n = true)
    (k : OL P N B w0 ops rest Q ((d, .slice a n cap) :: al) ((id, .row a n cap xs e size) :: H)) :
    OL P N B w0 ops ({ dst := some d, op := .call { callee := .builtin .append, args := #[s, x], argTypes := #[t, t] }, type := ty, pos, after, guard := none } :: rest) Q al H := by
  intro a0 w hst
  have hok : w.ownsRow B e size (.slice a n cap) n xs := hst.sat.ok _ _ hr
  have hc : n ≤ cap := by
    rcases hok.2 with ⟨h1, h2⟩ | ⟨g, cap', cur, hv, hb, hg, h3, h4, h5⟩
    · omega
    · cases hv; exact h3
  refine ol_r (v := .slice a n cap) (fun a w hst => ?_) hd (fun a w hst => k a w ⟨hst.regs, hst.below, hst.sat.again hr, hst.base, hst.kd, hst.marks⟩) a0 w hst
  simp [BigFrame.execOp_builtin, BigFrame.builtin_append, hst.regs.eval hs, hst.regs.eval hx, run_append0 (ty := ty) hT hc]
end
section
variable {P : Program} {N : Fr} {B : Nat} {w0 : World} {Q : Exit → Act → World → Prop} {Ss : List (Nat × HL)} {ops : Array Oper} {listed : Array Bool} {n : Nat} {al : AL} {H : HL} {d : Nat} {ty : TypeId} {pos : String} {after : Array Edge} {Hj : HL}
/-- A part of a slice that is only read, in free order. -/
theorem aq_slr {α : Type} {xs : List α} {a : Option Addr} {m cap : Nat} {t : TypeId} {s : Operand} {lo hi : Option Operand} {l h : Option Int} {E : Enc α} (i j : Nat) (hi' : ops[i]? = some { dst := some d, op := .slice t s lo hi none, type := ty, pos, after, guard := none }) (hs : Region.noSelect ops = true) (hf : Region.free .any ops listed i = true) (hr : (Region.ready .any ops listed).contains i = true)
    (hm : (j, Hj) ∈ Ss) (hw : (Region.waitsFor .any ops j i || Nat.ble ops.size j) = true) (hn : (Ss.map (·.1)).contains i = false) (hd : Nat.blt d N.n = true)
    (hl : Rd E B w0 a m cap xs) (h1 : ev al s = some (.slice a m cap)) (hlo : evo al lo = some l) (hhi : evo al hi = some h) (hT : Slc P t E.size) (h0 : 0 ≤ l.getD 0 ∧ l.getD 0 ≤ h.getD m ∧ h.getD m ≤ m)
    (k : ∀ a' c', Rd E B w0 a' ((h.getD m).toNat - (l.getD 0).toNat) c' ((xs.drop (l.getD 0).toNat).take ((h.getD m).toNat - (l.getD 0).toNat)) → AQ P N B w0 ops Q Ss n (listed.setIfInBounds i true) ((d, .slice a' ((h.getD m).toNat - (l.getD 0).toNat) c') :: al) H) : AQ P N B w0 ops Q Ss (n + 1) listed al H := by
  obtain ⟨a', c', h2, h3⟩ := hl.part (l := (l.getD 0).toNat) (h := (h.getD m).toNat) (by omega) (by omega)
  have hr' := r_sl (P := P) (N := N) (B := B) (w0 := w0) (H := Hj) (ty := ty) (lo := lo) (hi := hi) h1 hlo hhi hT ⟨h0.1, h0.2.1, by have := hl.room; omega⟩ hl.room.1
  rw [h2] at hr'
  exact aq_r i j hi' hs hf hr hm hw hn hd hr' (k a' c' h3)
end
end Go.Proofs.Ytjflbnbofedlkaa.Hx

/-
  Places: orders and entries.
-/







namespace Go.Proofs.Ytjflbnbofedlkaa
open Go Go.RowKit Hx
set_option linter.unusedVariables false
set_option linter.unusedSimpArgs false
set_option maxRecDepth 8000
def encScore : Enc ScoreR := { size := 3, cells := fun x => [.string x.name, .int .i64 x.start, .int .i64 x.time], val := fun x => .agg #[.string x.name, .int .i64 x.start, .int .i64 x.time], len := fun _ => rfl, ones := fun _ u h => (by simp at h; rcases h with h | h | h <;> subst h <;> rfl), pos := by decide, vc := fun _ => rfl }
theorem ty24 : Ty Try.prog 24 encScore := .inr ⟨ag24, fun _ => rfl⟩
def encPlace : Enc PlaceR := { size := 4, cells := fun x => [.int .i64 x.rank, .string x.sc.name, .int .i64 x.sc.start, .int .i64 x.sc.time], val := fun x => .agg #[.int .i64 x.rank, .string x.sc.name, .int .i64 x.sc.start, .int .i64 x.sc.time], len := fun _ => rfl, ones := fun _ u h => (by simp at h; rcases h with h | h | h | h <;> subst h <;> rfl), pos := by decide, vc := fun _ => rfl }
theorem ty32 : Ty Try.prog 32 encPlace := .inr ⟨ag32, fun _ => rfl⟩
/-- A score as a place without a rank. -/
def encP0 : Enc ScoreR := { size := 4, cells := fun x => [.int .i64 0, .string x.name, .int .i64 x.start, .int .i64 x.time], val := fun x => .agg #[.int .i64 0, .string x.name, .int .i64 x.start, .int .i64 x.time], len := fun _ => rfl, ones := fun _ u h => (by simp at h; rcases h with h | h | h | h <;> subst h <;> rfl), pos := by decide, vc := fun _ => rfl }
theorem encP0_is : ∀ (l : List ScoreR), encP0.enc l = encPlace.enc (l.map fun x => ⟨0, x⟩)
  | [] => rfl
  | x :: r => congrArg (fun t => [Value.int .i64 0, .string x.name, .int .i64 x.start, .int .i64 x.time] ++ t) (encP0_is r)
def layS106_ren : Go.Shelf.Ren := ⟨fun | 0 => 0 | 1 => 1 | 2 => 2 | 106 => 98 | 122 => 97 | 125 => 95 | 128 => 116 | 129 => 117 | 134 => 153 | 213 => 119 | 215 => 118 | 264 => 130 | 265 => 141 | 329 => 137 | 330 => 138 | 347 => 158 | 348 => 159 | 349 => 160 | 350 => 161 | 351 => 162 | 352 => 163 | 353 => 164 | 354 => 165 | 355 => 166 | 356 => 167 | 357 => 168 | 358 => 169 | 359 => 170 | 360 => 171 | 361 => 172 | 363 => 173 | 366 => 174 | n => n, fun | 0 => 0 | 1 => 1 | 2 => 2 | 3 => 3 | 4 => 4 | 5 => 5 | 6 => 6 | 7 => 7 | 8 => 8 | 9 => 9 | 10 => 10 | 11 => 11 | 12 => 12 | 13 => 13 | 14 => 14 | 15 => 15 | 16 => 16 | 17 => 17 | 18 => 18 | 19 => 19 | 20 => 20 | 21 => 21 | 27 => 145 | 28 => 150 | 31 => 37 | 41 => 129 | 43 => 91 | 46 => 142 | 47 => 141 | 51 => 167 | 52 => 166 | 53 => 169 | 54 => 168 | 74 => 200 | 75 => 201 | 80 => 207 | 81 => 66 | 104 => 76 | 111 => 170 | 114 => 53 | 127 => 216 | 131 => 119 | 143 => 206 | 144 => 221 | 145 => 222 | 148 => 178 | 149 => 179 | 164 => 223 | 182 => 160 | 183 => 161 | 218 => 189 | 219 => 190 | 220 => 191 | 222 => 193 | 228 => 202 | 229 => 203 | 238 => 208 | 239 => 209 | 240 => 210 | 241 => 211 | 242 => 212 | 243 => 213 | 244 => 214 | 245 => 215 | 246 => 217 | 247 => 218 | 248 => 219 | 249 => 220 | n => n, fun n => n⟩
theorem layS106 : Go.Proofs.Lays.n106 Try.prog layS106_ren := { mixed := by kernel_rfl, f106 := Try.func98.trans (congrArg some (by kernel_rfl)), f213 := Try.func119.trans (congrArg some (by kernel_rfl)), f265 := Try.func141.trans (congrArg some (by kernel_rfl)), t3 := Try.underlying3, a3 := Try.isAgg3, z3 := Try.sizeOf3, v3 := Try.zeroValue3, t9 := Try.underlying9, a9 := Try.isAgg9, z9 := Try.sizeOf9, v9 := Try.zeroValue9 }

theorem strings_Compare (a b : ByteArray) (w : World) : Calls Try.prog 98 #[.string a, .string b] w fun e w' => e = .returned (.int .i64 (cmpS a b)) ∧ Below w.heap.size w w' := by
  refine (Any.strings_Compare layS106 a b w).mono ?_
  rintro e w' ⟨he, rfl⟩
  exact ⟨he, Below.refl _ _⟩
theorem match_order (a b : ScoreR) (w : World) : Calls Try.prog 74 #[encScore.val a, encScore.val b] w fun e w' => e = .returned (.int .i64 (scf a b)) ∧ Below w.heap.size w w' := by
  refine enterQ (N := 22) (C := fun _ => True) (H := []) (B := w.heap.size) (args := [_, _]) Try.func74 rfl rfl rfl (Nat.le_refl _) (Sat.nil _ _) fun Q hQ => ?_
  refine wp_seq' fun K1 hK1 => ?_
  refine wp_reg ?_
  refine ol_box 2 rfl rfl rfl fun b2 => ?_
  refine ol_box 3 rfl rfl rfl fun b3 => ?_
  refine ol_r (r_assign rfl) rfl ?_
  refine ol_nil (to_k0 (fun _ _ h => h) (hK1 _ _ _ _ _ ?_))
  clear hK1
  apply wp_seq_cutM (σ := Unit) (fun s => True) (fun s => [(4, .int .i64 (scf a b))]) [] (fun s => []) [(2, _), (3, _)]
  ·exact sub_nil
  ·exact (subH_same rfl (subH_same rfl subH_nil))
  ·intro K2 hK2
   refine wp_rega [(999, [(2, _), (3, _)])] (by kernel_rfl) ⟨.inr (subH_same rfl (subH_same rfl subH_nil)), trivial⟩ ?_
   refine aq_r 0 999 rfl (by kernel_rfl) (by kernel_rfl) (by kernel_rfl) (.head _) (by kernel_rfl) (by kernel_rfl) rfl (r_fa (o' := 2) rfl fl24_2 rfl) ?_
   refine aq_r 1 999 rfl (by kernel_rfl) (by kernel_rfl) (by kernel_rfl) (.head _) (by kernel_rfl) (by kernel_rfl) rfl (r_ld (id := 2) rfl rfl rfl sc3) ?_
   refine aq_r 2 999 rfl (by kernel_rfl) (by kernel_rfl) (by kernel_rfl) (.head _) (by kernel_rfl) (by kernel_rfl) rfl (r_fa (o' := 2) rfl fl24_2 rfl) ?_
   refine aq_r 3 999 rfl (by kernel_rfl) (by kernel_rfl) (by kernel_rfl) (.head _) (by kernel_rfl) (by kernel_rfl) rfl (r_ld (id := 3) rfl rfl rfl sc3) ?_
   refine aq_r 5 999 rfl (by kernel_rfl) (by kernel_rfl) (by kernel_rfl) (.head _) (by kernel_rfl) (by kernel_rfl) rfl (r_fa (o' := 1) rfl fl24_1 rfl) ?_
   refine aq_r 6 999 rfl (by kernel_rfl) (by kernel_rfl) (by kernel_rfl) (.head _) (by kernel_rfl) (by kernel_rfl) rfl (r_ld (id := 2) rfl rfl rfl sc3) ?_
   refine aq_r 7 999 rfl (by kernel_rfl) (by kernel_rfl) (by kernel_rfl) (.head _) (by kernel_rfl) (by kernel_rfl) rfl (r_fa (o' := 1) rfl fl24_1 rfl) ?_
   refine aq_r 8 999 rfl (by kernel_rfl) (by kernel_rfl) (by kernel_rfl) (.head _) (by kernel_rfl) (by kernel_rfl) rfl (r_ld (id := 3) rfl rfl rfl sc3) ?_
   refine aq_r 10 999 rfl (by kernel_rfl) (by kernel_rfl) (by kernel_rfl) (.head _) (by kernel_rfl) (by kernel_rfl) rfl (r_fa (o' := 0) rfl fl24_0 rfl) ?_
   refine aq_r 11 999 rfl (by kernel_rfl) (by kernel_rfl) (by kernel_rfl) (.head _) (by kernel_rfl) (by kernel_rfl) rfl (r_ld (id := 2) rfl rfl rfl sc9) ?_
   refine aq_r 12 999 rfl (by kernel_rfl) (by kernel_rfl) (by kernel_rfl) (.head _) (by kernel_rfl) (by kernel_rfl) rfl (r_fa (o' := 0) rfl fl24_0 rfl) ?_
   refine aq_r 13 999 rfl (by kernel_rfl) (by kernel_rfl) (by kernel_rfl) (.head _) (by kernel_rfl) (by kernel_rfl) rfl (r_ld (id := 3) rfl rfl rfl sc9) ?_
   refine aq_one (i := 4) (by kernel_rfl) rfl fun K3 hK3 => ?_
   refine ol_call rfl rfl cb97 rfl (fun w1 hb1 hs1 hB1 => Calls.mono (cmp_CompareI _ _ _) ?_)
   rintro e w2 ⟨rfl, hb2⟩
   refine After.below rfl hb1 hs1 hB1 hb2 ?_
   clear hb2 hB1 hs1 hb1 w2 w1
   refine ol_nil (to_k0 (fun _ _ h => h) (hK3 _ _ ⟨.inr (by repeat' first | exact subH_nil | refine subH_same rfl ?_ | (refine subH_blk rfl (by repeat' first | exact sub_nil | refine sub_cons rfl ?_) ?_)), trivial⟩ ?_))
   clear hK3
   refine aq_one (i := 9) (by kernel_rfl) rfl fun K4 hK4 => ?_
   refine ol_call rfl rfl cb97 rfl (fun w1 hb1 hs1 hB1 => Calls.mono (cmp_CompareI _ _ _) ?_)
   rintro e w2 ⟨rfl, hb2⟩
   refine After.below rfl hb1 hs1 hB1 hb2 ?_
   clear hb2 hB1 hs1 hb1 w2 w1
   refine ol_nil (to_k0 (fun _ _ h => h) (hK4 _ _ ⟨.inr (by repeat' first | exact subH_nil | refine subH_same rfl ?_ | (refine subH_blk rfl (by repeat' first | exact sub_nil | refine sub_cons rfl ?_) ?_)), trivial⟩ ?_))
   clear hK4
   refine aq_one (i := 14) (by kernel_rfl) rfl fun K5 hK5 => ?_
   refine ol_call rfl rfl cb98 rfl (fun w1 hb1 hs1 hB1 => Calls.mono (strings_Compare _ _ _) ?_)
   rintro e w2 ⟨rfl, hb2⟩
   refine After.below rfl hb1 hs1 hB1 hb2 ?_
   clear hb2 hB1 hs1 hb1 w2 w1
   refine ol_nil (to_k0 (fun _ _ h => h) (hK5 _ _ ⟨.inr (by repeat' first | exact subH_nil | refine subH_same rfl ?_ | (refine subH_blk rfl (by repeat' first | exact sub_nil | refine sub_cons rfl ?_) ?_)), trivial⟩ ?_))
   clear hK5
   refine aq_one (i := 15) (by kernel_rfl) rfl fun K6 hK6 => ?_
   refine ol_bsN 20 rfl rw150 rfl rfl (fun _ => by kernel_rfl) rfl fun a20 => ?_
   refine ol_nil (to_k0 (fun _ _ h => h) (hK6 _ _ ⟨.inr (by repeat' first | exact subH_nil | refine subH_same rfl ?_ | (refine subH_blk rfl (by repeat' first | exact sub_nil | refine sub_cons rfl ?_) ?_)), trivial⟩ ?_))
   clear hK6
   refine aq_one (i := 16) (by kernel_rfl) rfl fun K7 hK7 => ?_
   refine ol_call rfl rfl cb96 rfl (fun w1 hb1 hs1 hB1 => Calls.mono (cmp_OrI _ _ _ [cmpI a.time b.time, cmpI a.start b.start, cmpS a.name b.name] _ (Sat.rd hs1 (E := encI) (id := 20) rfl rfl)) ?_)
   rintro e w2 ⟨rfl, hb2⟩
   refine After.below rfl hb1 hs1 hB1 hb2 ?_
   clear hb2 hB1 hs1 hb1 w2 w1
   refine ol_nil (to_k0 (fun _ _ h => h) (hK7 _ _ ⟨.inr (by repeat' first | exact subH_nil | refine subH_same rfl ?_ | (refine subH_blk rfl (by repeat' first | exact sub_nil | refine sub_cons rfl ?_) ?_)), trivial⟩ ?_))
   clear hK7
   refine aq_r 17 999 rfl (by kernel_rfl) (by kernel_rfl) (by kernel_rfl) (.head _) (by kernel_rfl) (by kernel_rfl) rfl (r_assign rfl) ?_
   refine aq_done (by kernel_rfl) ?_
   refine (to_k0 (fun _ _ h => h) (hK2 (()) _ _ ?_ (sub_cons rfl sub_nil) sub_nil subH_nil (subH_same rfl (subH_same rfl subH_nil))))
   try dsimp only
   all_goals trivial
  ·rintro s hI
   refine hQ.ret (rvs1 (rv_t rfl)) (fun _ _ h => h) fun w hb hs hB hkd => ?_
   exact ⟨rfl, hb⟩
theorem match_order0 (a b : ScoreR) (w : World) : Calls Try.prog 76 #[encP0.val a, encP0.val b] w fun e w' => e = .returned (.int .i64 (scf a b)) ∧ Below w.heap.size w w' := by
  refine enterQ (N := 10) (C := fun _ => True) (H := []) (B := w.heap.size) (args := [_, _]) Try.func76 rfl rfl rfl (Nat.le_refl _) (Sat.nil _ _) fun Q hQ => ?_
  refine wp_seq' fun K1 hK1 => ?_
  refine wp_reg ?_
  refine ol_box 2 rfl rfl rfl fun b2 => ?_
  refine ol_box 3 rfl rfl rfl fun b3 => ?_
  refine ol_r (r_assign rfl) rfl ?_
  refine ol_nil (to_k0 (fun _ _ h => h) (hK1 _ _ _ _ _ ?_))
  clear hK1
  refine wp_seq' fun K2 hK2 => ?_
  refine wp_reg ?_
  refine ol_r (r_fa (o' := 1) rfl fl32_1 rfl) rfl ?_
  refine ol_r (r_lda (id := 2) (n := 3) rfl rfl rfl ag24) rfl ?_
  refine ol_r (r_fa (o' := 1) rfl fl32_1 rfl) rfl ?_
  refine ol_r (r_lda (id := 3) (n := 3) rfl rfl rfl ag24) rfl ?_
  refine ol_call rfl rfl cb74 rfl (fun w1 hb1 hs1 hB1 => Calls.mono (match_order a b _) ?_)
  rintro e w2 ⟨rfl, hb2⟩
  refine After.below rfl hb1 hs1 hB1 hb2 ?_
  clear hb2 hB1 hs1 hb1 w2 w1
  refine ol_r (r_assign rfl) rfl ?_
  refine ol_nil (to_k0 (fun _ _ h => h) (hK2 _ _ _ _ _ ?_))
  clear hK2
  refine hQ.ret (rvs1 (rv_t rfl)) (fun _ _ h => h) fun w hb hs hB hkd => ?_
  exact ⟨rfl, hb⟩
def layP0_ren : Go.Shelf.Ren := ⟨fun | 0 => 0 | 1 => 1 | 2 => 2 | 6 => 75 | 11 => 97 | 14 => 99 | 15 => 95 | 18 => 118 | 20 => 120 | 21 => 121 | 22 => 122 | 23 => 123 | 24 => 124 | 25 => 125 | 26 => 126 | 27 => 127 | 28 => 116 | 29 => 117 | 30 => 145 | 46 => 142 | 47 => 137 | 48 => 138 | 49 => 143 | 50 => 144 | 57 => 155 | 60 => 158 | 61 => 159 | 62 => 160 | 63 => 161 | 64 => 162 | 65 => 163 | 66 => 164 | 67 => 165 | 68 => 166 | 69 => 167 | 70 => 168 | 71 => 169 | 72 => 170 | 73 => 171 | 74 => 172 | 75 => 174 | n => n, fun | 0 => 0 | 1 => 1 | 2 => 2 | 3 => 3 | 4 => 4 | 5 => 5 | 6 => 6 | 7 => 7 | 8 => 8 | 9 => 9 | 10 => 10 | 11 => 11 | 12 => 12 | 13 => 13 | 14 => 14 | 15 => 15 | 16 => 16 | 17 => 17 | 18 => 18 | 19 => 19 | 20 => 20 | 21 => 21 | 22 => 25 | 23 => 125 | 24 => 32 | 25 => 126 | 27 => 150 | 28 => 155 | 29 => 91 | 37 => 146 | 38 => 141 | 39 => 142 | 41 => 198 | 42 => 170 | 44 => 171 | 45 => 160 | 46 => 161 | 47 => 172 | 48 => 173 | 49 => 174 | 50 => 119 | 51 => 175 | 52 => 166 | 53 => 167 | 54 => 168 | 55 => 169 | 56 => 197 | 66 => 189 | 67 => 190 | 68 => 191 | 69 => 195 | 70 => 193 | 71 => 196 | 76 => 202 | 77 => 203 | 78 => 205 | 81 => 207 | 82 => 208 | 83 => 209 | 84 => 210 | 85 => 211 | 86 => 212 | 87 => 66 | 88 => 213 | 89 => 214 | 90 => 215 | 91 => 216 | 92 => 217 | 93 => 218 | 94 => 219 | 95 => 220 | 96 => 223 | n => n, fun n => n⟩
theorem layP0 : Go.Proofs.SlLaysF0.n6 Try.prog layP0_ren := { mixed := by kernel_rfl, f6 := ⟨"slices.SortFunc[[]harrier/api.Place,harrier/api.Place]", by decide, Try.func75.trans (congrArg some (by kernel_rfl))⟩, f14 := ⟨"slices.pdqsortCmpFunc[harrier/api.Place]", by decide, Try.func99.trans (congrArg some (by kernel_rfl))⟩, f15 := Try.func95.trans (congrArg some (by kernel_rfl)), f20 := ⟨"slices.insertionSortCmpFunc[harrier/api.Place]", by decide, Try.func120.trans (congrArg some (by kernel_rfl))⟩, f21 := ⟨"slices.heapSortCmpFunc[harrier/api.Place]", by decide, Try.func121.trans (congrArg some (by kernel_rfl))⟩, f22 := ⟨"slices.breakPatternsCmpFunc[harrier/api.Place]", by decide, Try.func122.trans (congrArg some (by kernel_rfl))⟩, f23 := ⟨"slices.choosePivotCmpFunc[harrier/api.Place]", by decide, Try.func123.trans (congrArg some (by kernel_rfl))⟩, f24 := ⟨"slices.reverseRangeCmpFunc[harrier/api.Place]", by decide, Try.func124.trans (congrArg some (by kernel_rfl))⟩, f25 := ⟨"slices.partialInsertionSortCmpFunc[harrier/api.Place]", by decide, Try.func125.trans (congrArg some (by kernel_rfl))⟩, f26 := ⟨"slices.partitionEqualCmpFunc[harrier/api.Place]", by decide, Try.func126.trans (congrArg some (by kernel_rfl))⟩, f27 := ⟨"slices.partitionCmpFunc[harrier/api.Place]", by decide, Try.func127.trans (congrArg some (by kernel_rfl))⟩, f28 := Try.func116.trans (congrArg some (by kernel_rfl)), f29 := Try.func117.trans (congrArg some (by kernel_rfl)), f46 := ⟨"slices.siftDownCmpFunc[harrier/api.Place]", by decide, Try.func142.trans (congrArg some (by kernel_rfl))⟩, f47 := Try.func137.trans (congrArg some (by kernel_rfl)), f48 := Try.func138.trans (congrArg some (by kernel_rfl)), f49 := ⟨"slices.medianAdjacentCmpFunc[harrier/api.Place]", by decide, Try.func143.trans (congrArg some (by kernel_rfl))⟩, f50 := ⟨"slices.medianCmpFunc[harrier/api.Place]", by decide, Try.func144.trans (congrArg some (by kernel_rfl))⟩, f57 := ⟨"slices.order2CmpFunc[harrier/api.Place]", by decide, Try.func155.trans (congrArg some (by kernel_rfl))⟩, t0 := Try.underlying0, a0 := Try.isAgg0, z0 := Try.sizeOf0, v0 := Try.zeroValue0, t3 := Try.underlying3, a3 := Try.isAgg3, z3 := Try.sizeOf3, v3 := Try.zeroValue3, t4 := Try.underlying4, a4 := Try.isAgg4, z4 := Try.sizeOf4, v4 := Try.zeroValue4, t5 := Try.underlying5, a5 := Try.isAgg5, z5 := Try.sizeOf5, v5 := Try.zeroValue5, t9 := Try.underlying9, a9 := Try.isAgg9, z9 := Try.sizeOf9, v9 := Try.zeroValue9, t22 := Try.underlying25, a22 := Try.isAgg25, z22 := Try.sizeOf25, v22 := Try.zeroValue25, t25 := Try.underlying126, a25 := Try.isAgg126, z25 := Try.sizeOf126, v25 := Try.zeroValue126, t39 := Try.underlying142, a39 := Try.isAgg142, z39 := Try.sizeOf142, v39 := Try.zeroValue142, t45 := Try.underlying160, a45 := Try.isAgg160, z45 := Try.sizeOf160, v45 := Try.zeroValue160, t46 := Try.underlying161, a46 := Try.isAgg161, z46 := Try.sizeOf161, v46 := Try.zeroValue161, t50 := Try.underlying119, a50 := Try.isAgg119, z50 := Try.sizeOf119, v50 := Try.zeroValue119, t53 := Try.underlying167, a53 := Try.isAgg167, z53 := Try.sizeOf167, v53 := Try.zeroValue167, t55 := Try.underlying169, a55 := Try.isAgg169, z55 := Try.sizeOf169, v55 := Try.zeroValue169, t66 := Try.underlying189, a66 := Try.isAgg189, z66 := Try.sizeOf189, v66 := Try.zeroValue189, t70 := Try.underlying193, a70 := Try.isAgg193, z70 := Try.sizeOf193, v70 := Try.zeroValue193, t76 := Try.underlying202, a76 := Try.isAgg202, z76 := Try.sizeOf202, v76 := Try.zeroValue202, t77 := Try.underlying203, a77 := Try.isAgg203, z77 := Try.sizeOf203, v77 := Try.zeroValue203 }

theorem sort_places (B id : Nat) (a : Option Addr) (n c : Nat) (xs : List ScoreR) (T : TypeId) (H : HL) (w : World) (hB : B ≤ w.heap.size) (hs : Sat B w H) (hr : Hx.look H id = some (.row a n c (encP0.enc xs) T 4)) (hsz : n < 4611686018427387904) :
    Calls Try.prog 75 #[.slice a n c, .func (.func 76) #[] #[]] w fun e w' => e = .returned (.tuple #[]) ∧ Below B w w' ∧ Sat B w' ((id, .row a n c (encP0.enc (sortL sclt xs)) T 4) :: H) ∧ B ≤ w'.heap.size ∧ Kd (fun _ => False) w w' := by
  have hlen : xs.length = n := (hs.rd (E := encP0) hr rfl).len
  by_cases hn : n = 0
  · subst hn
    obtain rfl : xs = [] := List.eq_nil_of_length_eq_zero hlen
    have h := AnyF.slices_SortFunc_none (P := Try.prog) (ρ := layP0_ren) layP0 a c (.func (.func 76) #[] #[]) w
    change Calls Try.prog 75 _ _ _ at h
    refine h.mono ?_
    rintro e w' ⟨rfl, rfl⟩
    have hnil : sortL sclt ([] : List ScoreR) = [] := List.eq_nil_of_length_eq_zero (sortL_len [])
    rw [hnil]
    exact ⟨rfl, Below.refl _ _, hs.again hr, hB, Kd.refl _ _⟩
  have : Inhabited ScoreR := ⟨⟨⟨#[]⟩, 0, 0⟩⟩
  have h := sortK_rows encP0 layP0 Try.isAgg32 Try.sizeOf32 scf scf_swo scf_tot 76 #[] (enters_of Try.func76 (by kernel_rfl) rfl) (fun w x y => match_order0 x y w) B id a n c xs T H w hB hs hr (by omega) hsz
  rw [sortBy_scf] at h
  exact h
theorem ref5_before (a b : ScoreR) (w : World) : Calls Try.prog 100 #[encScore.val a, encScore.val b] w fun e w' => e = .returned (.bool (sclt a b)) ∧ Below w.heap.size w w' := by
  refine enterQ (N := 30) (C := fun _ => True) (H := []) (B := w.heap.size) (args := [_, _]) Try.func100 rfl rfl rfl (Nat.le_refl _) (Sat.nil _ _) fun Q hQ => ?_
  refine wp_seq' fun K1 hK1 => ?_
  refine wp_reg ?_
  refine ol_box 2 rfl rfl rfl fun b2 => ?_
  refine ol_box 3 rfl rfl rfl fun b3 => ?_
  refine ol_r (r_assign rfl) rfl ?_
  refine ol_nil (to_k0 (fun _ _ h => h) (hK1 _ _ _ _ _ ?_))
  clear hK1
  refine wp_seq' fun K2 hK2 => ?_
  refine wp_seq' fun K3 hK3 => ?_
  refine wp_reg ?_
  refine ol_r (r_fa (o' := 2) rfl fl24_2 rfl) rfl ?_
  refine ol_r (r_ld (id := 2) rfl rfl rfl sc3) rfl ?_
  refine ol_r (r_fa (o' := 2) rfl fl24_2 rfl) rfl ?_
  refine ol_r (r_ld (id := 3) rfl rfl rfl sc3) rfl ?_
  refine ol_r (r_neq rfl rfl) rfl ?_
  refine ol_nil (to_k0 (fun _ _ h => h) (hK3 _ _ _ _ _ ?_))
  clear hK3
  first | refine wp_condD rfl (fun hc9 => ?_) (fun hc9 => ?_) | refine wp_condN rfl (fun hc9 => ?_) (fun hc9 => ?_) | refine wp_condNB rfl (fun hc9 => ?_) (fun hc9 => ?_) | refine wp_cond' rfl (fun hc9 => ?_) (fun hc9 => ?_)
  ·refine wp_seq' fun K4 hK4 => ?_
   refine wp_reg ?_
   refine ol_r (r_fa (o' := 2) rfl fl24_2 rfl) rfl ?_
   refine ol_r (r_ld (id := 2) rfl rfl rfl sc3) rfl ?_
   refine ol_r (r_fa (o' := 2) rfl fl24_2 rfl) rfl ?_
   refine ol_r (r_ld (id := 3) rfl rfl rfl sc3) rfl ?_
   refine ol_r (r_lss rfl rfl) rfl ?_
   refine ol_r (r_assign rfl) rfl ?_
   refine ol_nil (to_k0 (fun _ _ h => h) (hK4 _ _ _ _ _ ?_))
   clear hK4
   refine hQ.ret (rvs1 (rv_t rfl)) (fun _ _ h => h) fun w hb hs hB hkd => ?_
   exact ⟨by rw [sclt, if_pos hc9], hb⟩
  ·refine wp_skip' (to_k0 (fun _ _ h => h) (hK2 _ _ _ _ _ ?_))
   clear hK2
   refine wp_seq' fun K5 hK5 => ?_
   refine wp_seq' fun K6 hK6 => ?_
   refine wp_reg ?_
   refine ol_r (r_fa (o' := 1) rfl fl24_1 rfl) rfl ?_
   refine ol_r (r_ld (id := 2) rfl rfl rfl sc3) rfl ?_
   refine ol_r (r_fa (o' := 1) rfl fl24_1 rfl) rfl ?_
   refine ol_r (r_ld (id := 3) rfl rfl rfl sc3) rfl ?_
   refine ol_r (r_neq rfl rfl) rfl ?_
   refine ol_nil (to_k0 (fun _ _ h => h) (hK6 _ _ _ _ _ ?_))
   clear hK6
   first | refine wp_condD rfl (fun hc19 => ?_) (fun hc19 => ?_) | refine wp_condN rfl (fun hc19 => ?_) (fun hc19 => ?_) | refine wp_condNB rfl (fun hc19 => ?_) (fun hc19 => ?_) | refine wp_cond' rfl (fun hc19 => ?_) (fun hc19 => ?_)
   ·refine wp_seq' fun K7 hK7 => ?_
    refine wp_reg ?_
    refine ol_r (r_fa (o' := 1) rfl fl24_1 rfl) rfl ?_
    refine ol_r (r_ld (id := 2) rfl rfl rfl sc3) rfl ?_
    refine ol_r (r_fa (o' := 1) rfl fl24_1 rfl) rfl ?_
    refine ol_r (r_ld (id := 3) rfl rfl rfl sc3) rfl ?_
    refine ol_r (r_lss rfl rfl) rfl ?_
    refine ol_r (r_assign rfl) rfl ?_
    refine ol_nil (to_k0 (fun _ _ h => h) (hK7 _ _ _ _ _ ?_))
    clear hK7
    refine hQ.ret (rvs1 (rv_t rfl)) (fun _ _ h => h) fun w hb hs hB hkd => ?_
    exact ⟨by rw [sclt, if_neg hc9, if_pos hc19], hb⟩
   ·refine wp_skip' (to_k0 (fun _ _ h => h) (hK5 _ _ _ _ _ ?_))
    clear hK5
    refine wp_seq' fun K8 hK8 => ?_
    refine wp_reg ?_
    refine ol_r (r_fa (o' := 0) rfl fl24_0 rfl) rfl ?_
    refine ol_r (r_ld (id := 2) rfl rfl rfl sc9) rfl ?_
    refine ol_r (r_fa (o' := 0) rfl fl24_0 rfl) rfl ?_
    refine ol_r (r_ld (id := 3) rfl rfl rfl sc9) rfl ?_
    refine ol_r (r_slss rfl rfl) rfl ?_
    refine ol_r (r_assign rfl) rfl ?_
    refine ol_nil (to_k0 (fun _ _ h => h) (hK8 _ _ _ _ _ ?_))
    clear hK8
    refine hQ.ret (rvs1 (rv_t rfl)) (fun _ _ h => h) fun w hb hs hB hkd => ?_
    exact ⟨by rw [sclt, if_neg hc9, if_neg hc19], hb⟩
theorem match_CheckEntry (x : ScoreR) (w : World) (hn : x.name.size ≤ 9223372036854775807) : Calls Try.prog 10 #[encScore.val x] w fun e w' => e = .returned (.int .i64 (chkEn x)) ∧ Below w.heap.size w w' := by
  refine enterQ (N := 19) (C := fun _ => True) (H := []) (B := w.heap.size) (args := [_]) Try.func10 rfl rfl rfl (Nat.le_refl _) (Sat.nil _ _) fun Q hQ => ?_
  refine wp_seq' fun K1 hK1 => ?_
  refine wp_reg ?_
  refine ol_box 1 rfl rfl rfl fun b1 => ?_
  refine ol_r (r_assign rfl) rfl ?_
  refine ol_nil (to_k0 (fun _ _ h => h) (hK1 _ _ _ _ _ ?_))
  clear hK1
  refine wp_seq' fun K2 hK2 => ?_
  refine wp_block' ?_
  refine wp_seq' fun K3 hK3 => ?_
  refine wp_reg ?_
  refine ol_r (r_fa (o' := 0) rfl fl24_0 rfl) rfl ?_
  refine ol_r (r_ld (id := 1) rfl rfl rfl sc9) rfl ?_
  refine ol_call rfl rfl cb44 rfl (fun w1 hb1 hs1 hB1 => Calls.mono (quant_IsName x.name _ hn) ?_)
  rintro e w2 ⟨rfl, hb2⟩
  refine After.below rfl hb1 hs1 hB1 hb2 ?_
  clear hb2 hB1 hs1 hb1 w2 w1
  refine ol_r (r_not rfl) rfl ?_
  refine ol_r (r_assign rfl) rfl ?_
  refine ol_nil (to_k0 (fun _ _ h => h) (hK3 _ _ _ _ _ ?_))
  clear hK3
  first | refine wp_condD rfl (fun hc3 => ?_) (fun hc3 => ?_) | refine wp_condN rfl (fun hc3 => ?_) (fun hc3 => ?_) | refine wp_condNB rfl (fun hc3 => ?_) (fun hc3 => ?_) | refine wp_cond' rfl (fun hc3 => ?_) (fun hc3 => ?_)
  ·refine wp_seq' fun K4 hK4 => ?_
   refine wp_reg ?_
   refine ol_r (r_assign rfl) rfl ?_
   refine ol_nil (to_k0 (fun _ _ h => h) (hK4 _ _ _ _ _ ?_))
   clear hK4
   refine hQ.ret (rvs1 (rv_t rfl)) (fun _ _ h => h) fun w hb hs hB hkd => ?_
   exact ⟨by rw [chkEn, if_pos (by simpa using hc3)], hb⟩
  ·refine wp_seq' fun K5 hK5 => ?_
   refine wp_reg ?_
   refine ol_r (r_fa (o' := 1) rfl fl24_1 rfl) rfl ?_
   refine ol_r (r_ld (id := 1) rfl rfl rfl sc3) rfl ?_
   refine ol_call rfl rfl cb45 rfl (fun w1 hb1 hs1 hB1 => Calls.mono (match_in _ _ _ _) ?_)
   rintro e w2 ⟨rfl, hb2⟩
   refine After.below rfl hb1 hs1 hB1 hb2 ?_
   clear hb2 hB1 hs1 hb1 w2 w1
   refine ol_r (r_not rfl) rfl ?_
   refine ol_r (r_move rfl) rfl ?_
   refine ol_split (d := 13) rfl (fun hs13 => ?_) (fun hs13 => ?_)
   ·have phs13 := hs13; try simp only [decide_eq_true_eq, decide_eq_false_iff_not, Bool.not_eq_true', Bool.not_eq_false', Bool.not_true, Bool.not_false] at phs13
    refine ol_s rfl rfl hs13 rfl ?_
    refine ol_s rfl rfl hs13 rfl ?_
    refine ol_s rfl rfl hs13 rfl ?_
    refine ol_s rfl rfl hs13 rfl ?_
    refine ol_r (r_pickT rfl hs13 rfl) rfl ?_
    refine ol_r (r_assign rfl) rfl ?_
    refine ol_nil (to_k0 (fun _ _ h => h) (hK5 _ _ _ _ _ ?_))
    clear hK5
    refine wp_condT rfl ?_
    refine wp_seq' fun K6 hK6 => ?_
    refine wp_reg ?_
    refine ol_r (r_assign rfl) rfl ?_
    refine ol_nil (to_k0 (fun _ _ h => h) (hK6 _ _ _ _ _ ?_))
    clear hK6
    refine hQ.ret (rvs1 (rv_t rfl)) (fun _ _ h => h) fun w hb hs hB hkd => ?_
    exact ⟨by rw [chkEn, if_neg (by rw [hc3]; simp), if_pos (.inl phs13)], hb⟩
   ·have phs13 := hs13; try simp only [decide_eq_true_eq, decide_eq_false_iff_not, Bool.not_eq_true', Bool.not_eq_false', Bool.not_true, Bool.not_false] at phs13
    refine ol_g rfl rfl hs13 ?_
    refine ol_r (r_fa (o' := 2) rfl fl24_2 rfl) rfl ?_
    refine ol_g rfl rfl hs13 ?_
    refine ol_r (r_ld (id := 1) rfl rfl rfl sc3) rfl ?_
    refine ol_g rfl rfl hs13 ?_
    refine ol_call rfl rfl cb45 rfl (fun w1 hb1 hs1 hB1 => Calls.mono (match_in _ _ _ _) ?_)
    rintro e w2 ⟨rfl, hb2⟩
    refine After.below rfl hb1 hs1 hB1 hb2 ?_
    clear hb2 hB1 hs1 hb1 w2 w1
    refine ol_g rfl rfl hs13 ?_
    refine ol_r (r_not rfl) rfl ?_
    refine ol_r (r_pickF rfl hs13 rfl) rfl ?_
    refine ol_r (r_assign rfl) rfl ?_
    refine ol_nil (to_k0 (fun _ _ h => h) (hK5 _ _ _ _ _ ?_))
    clear hK5
    first | refine wp_condD rfl (fun hc8 => ?_) (fun hc8 => ?_) | refine wp_condN rfl (fun hc8 => ?_) (fun hc8 => ?_) | refine wp_condNB rfl (fun hc8 => ?_) (fun hc8 => ?_) | refine wp_cond' rfl (fun hc8 => ?_) (fun hc8 => ?_)
    ·refine wp_seq' fun K7 hK7 => ?_
     refine wp_reg ?_
     refine ol_r (r_assign rfl) rfl ?_
     refine ol_nil (to_k0 (fun _ _ h => h) (hK7 _ _ _ _ _ ?_))
     clear hK7
     refine hQ.ret (rvs1 (rv_t rfl)) (fun _ _ h => h) fun w hb hs hB hkd => ?_
     exact ⟨by rw [chkEn, if_neg (by rw [hc3]; simp), if_pos (.inr (by simpa using hc8))], hb⟩
    ·refine wp_skip' (to_k0 (fun _ _ h => h) (hK2 _ _ _ _ _ ?_))
     clear hK2
     refine wp_seq' fun K8 hK8 => ?_
     refine wp_reg ?_
     refine ol_r (r_assign rfl) rfl ?_
     refine ol_nil (to_k0 (fun _ _ h => h) (hK8 _ _ _ _ _ ?_))
     clear hK8
     refine hQ.ret (rvs1 (rv_t rfl)) (fun _ _ h => h) fun w hb hs hB hkd => ?_
     exact ⟨by rw [chkEn, if_neg (by rw [hc3]; simp), if_neg (by rw [phs13, show inB x.time 1 1000000000 = true by simpa using hc8]; simp)], hb⟩
theorem ref5_CheckEntry (x : ScoreR) (w : World) (hn : x.name.size ≤ 9223372036854775807) : Calls Try.prog 11 #[encScore.val x] w fun e w' => e = .returned (.int .i64 (chkEn x)) ∧ Below w.heap.size w w' := by
  refine enterQ (N := 15) (C := fun _ => True) (H := []) (B := w.heap.size) (args := [_]) Try.func11 rfl rfl rfl (Nat.le_refl _) (Sat.nil _ _) fun Q hQ => ?_
  refine wp_seq' fun K1 hK1 => ?_
  refine wp_reg ?_
  refine ol_box 1 rfl rfl rfl fun b1 => ?_
  refine ol_r (r_assign rfl) rfl ?_
  refine ol_nil (to_k0 (fun _ _ h => h) (hK1 _ _ _ _ _ ?_))
  clear hK1
  refine wp_seq' fun K2 hK2 => ?_
  refine wp_seq' fun K3 hK3 => ?_
  refine wp_reg ?_
  refine ol_r (r_fa (o' := 0) rfl fl24_0 rfl) rfl ?_
  refine ol_r (r_ld (id := 1) rfl rfl rfl sc9) rfl ?_
  refine ol_call rfl rfl cb46 rfl (fun w1 hb1 hs1 hB1 => Calls.mono (ref1_IsName x.name _ hn) ?_)
  rintro e w2 ⟨rfl, hb2⟩
  refine After.below rfl hb1 hs1 hB1 hb2 ?_
  clear hb2 hB1 hs1 hb1 w2 w1
  refine ol_r (r_not rfl) rfl ?_
  refine ol_nil (to_k0 (fun _ _ h => h) (hK3 _ _ _ _ _ ?_))
  clear hK3
  first | refine wp_condD rfl (fun hc6 => ?_) (fun hc6 => ?_) | refine wp_condN rfl (fun hc6 => ?_) (fun hc6 => ?_) | refine wp_condNB rfl (fun hc6 => ?_) (fun hc6 => ?_) | refine wp_cond' rfl (fun hc6 => ?_) (fun hc6 => ?_)
  ·refine wp_seq' fun K4 hK4 => ?_
   refine wp_reg ?_
   refine ol_r (r_assign rfl) rfl ?_
   refine ol_nil (to_k0 (fun _ _ h => h) (hK4 _ _ _ _ _ ?_))
   clear hK4
   refine hQ.ret (rvs1 (rv_t rfl)) (fun _ _ h => h) fun w hb hs hB hkd => ?_
   exact ⟨by rw [chkEn, if_pos (by simpa using hc6)], hb⟩
  ·refine wp_skip' (to_k0 (fun _ _ h => h) (hK2 _ _ _ _ _ ?_))
   clear hK2
   refine wp_seq' fun K5 hK5 => ?_
   refine wp_seq' fun K6 hK6 => ?_
   refine wp_reg ?_
   refine ol_r (r_fa (o' := 1) rfl fl24_1 rfl) rfl ?_
   refine ol_r (r_ld (id := 1) rfl rfl rfl sc3) rfl ?_
   refine ol_call rfl rfl cb47 rfl (fun w1 hb1 hs1 hB1 => Calls.mono (ref5_outside _ _ _ _) ?_)
   rintro e w2 ⟨rfl, hb2⟩
   refine After.below rfl hb1 hs1 hB1 hb2 ?_
   clear hb2 hB1 hs1 hb1 w2 w1
   refine ol_r (r_move rfl) rfl ?_
   refine ol_split (d := 10) rfl (fun hs10 => ?_) (fun hs10 => ?_)
   ·have phs10 := hs10; try simp only [decide_eq_true_eq, decide_eq_false_iff_not, Bool.not_eq_true', Bool.not_eq_false', Bool.not_true, Bool.not_false] at phs10
    refine ol_s rfl rfl hs10 rfl ?_
    refine ol_s rfl rfl hs10 rfl ?_
    refine ol_s rfl rfl hs10 rfl ?_
    refine ol_r (r_pickT rfl hs10 rfl) rfl ?_
    refine ol_nil (to_k0 (fun _ _ h => h) (hK6 _ _ _ _ _ ?_))
    clear hK6
    refine wp_condT rfl ?_
    refine wp_seq' fun K7 hK7 => ?_
    refine wp_reg ?_
    refine ol_r (r_assign rfl) rfl ?_
    refine ol_nil (to_k0 (fun _ _ h => h) (hK7 _ _ _ _ _ ?_))
    clear hK7
    refine hQ.ret (rvs1 (rv_t rfl)) (fun _ _ h => h) fun w hb hs hB hkd => ?_
    exact ⟨by rw [chkEn, if_neg (by rw [hc6]; simp), if_pos (.inl phs10)], hb⟩
   ·have phs10 := hs10; try simp only [decide_eq_true_eq, decide_eq_false_iff_not, Bool.not_eq_true', Bool.not_eq_false', Bool.not_true, Bool.not_false] at phs10
    refine ol_g rfl rfl hs10 ?_
    refine ol_r (r_fa (o' := 2) rfl fl24_2 rfl) rfl ?_
    refine ol_g rfl rfl hs10 ?_
    refine ol_r (r_ld (id := 1) rfl rfl rfl sc3) rfl ?_
    refine ol_g rfl rfl hs10 ?_
    refine ol_call rfl rfl cb47 rfl (fun w1 hb1 hs1 hB1 => Calls.mono (ref5_outside _ _ _ _) ?_)
    rintro e w2 ⟨rfl, hb2⟩
    refine After.below rfl hb1 hs1 hB1 hb2 ?_
    clear hb2 hB1 hs1 hb1 w2 w1
    refine ol_r (r_pickF rfl hs10 rfl) rfl ?_
    refine ol_nil (to_k0 (fun _ _ h => h) (hK6 _ _ _ _ _ ?_))
    clear hK6
    first | refine wp_condD rfl (fun hc14 => ?_) (fun hc14 => ?_) | refine wp_condN rfl (fun hc14 => ?_) (fun hc14 => ?_) | refine wp_condNB rfl (fun hc14 => ?_) (fun hc14 => ?_) | refine wp_cond' rfl (fun hc14 => ?_) (fun hc14 => ?_)
    ·refine wp_seq' fun K8 hK8 => ?_
     refine wp_reg ?_
     refine ol_r (r_assign rfl) rfl ?_
     refine ol_nil (to_k0 (fun _ _ h => h) (hK8 _ _ _ _ _ ?_))
     clear hK8
     refine hQ.ret (rvs1 (rv_t rfl)) (fun _ _ h => h) fun w hb hs hB hkd => ?_
     exact ⟨by rw [chkEn, if_neg (by rw [hc6]; simp), if_pos (.inr (by simpa using hc14))], hb⟩
    ·refine wp_skip' (to_k0 (fun _ _ h => h) (hK5 _ _ _ _ _ ?_))
     clear hK5
     refine wp_seq' fun K9 hK9 => ?_
     refine wp_reg ?_
     refine ol_r (r_assign rfl) rfl ?_
     refine ol_nil (to_k0 (fun _ _ h => h) (hK9 _ _ _ _ _ ?_))
     clear hK9
     refine hQ.ret (rvs1 (rv_t rfl)) (fun _ _ h => h) fun w hb hs hB hkd => ?_
     exact ⟨by rw [chkEn, if_neg (by rw [hc6]; simp), if_neg (by rw [phs10, show inB x.time 1 1000000000 = true by simpa using hc14]; simp)], hb⟩
end Go.Proofs.Ytjflbnbofedlkaa

/-
  Places: scores in order, by the reference.
-/

namespace Go.Proofs.Ytjflbnbofedlkaa
open Go Go.RowKit Hx
set_option linter.unusedVariables false
set_option linter.unusedSimpArgs false
set_option maxRecDepth 8000
theorem ref5_sorted_small (a : Option Addr) (n c : Nat) (xs : List ScoreR) (w : World) (h2 : n < 2) (hx : Rd encScore w.heap.size w a n c xs) :
    Calls Try.prog 77 #[.slice a n c] w fun e w' => ∃ b m k, e = .returned (.slice b m k) ∧ Fresh encScore 24 w w' b m k (sortL sclt xs) := by
  have hln := hx.len
  refine enterQ (N := 65) (C := fun _ => True) (H := []) (B := w.heap.size) (args := [_]) Try.func77 rfl rfl rfl (Nat.le_refl _) (Sat.nil _ _) fun Q hQ => ?_
  refine wp_seq' fun K1 hK1 => ?_
  refine wp_reg ?_
  refine ol_r (r_assign rfl) rfl ?_
  refine ol_nil (to_k0 (fun _ _ h => h) (hK1 _ _ _ _ _ ?_))
  clear hK1
  refine wp_seq' fun K2 hK2 => ?_
  refine wp_seq' fun K3 hK3 => ?_
  refine wp_reg ?_
  refine ol_r (r_move rfl) rfl ?_
  refine ol_r (r_len rfl sl22) rfl ?_
  refine ol_r (r_lss rfl rfl) rfl ?_
  refine ol_nil (to_k0 (fun _ _ h => h) (hK3 _ _ _ _ _ ?_))
  clear hK3
  first | refine wp_condD rfl (fun hc8 => ?_) (fun hc8 => ?_) | refine wp_condN rfl (fun hc8 => ?_) (fun hc8 => ?_) | refine wp_condNB rfl (fun hc8 => ?_) (fun hc8 => ?_) | refine wp_cond' rfl (fun hc8 => ?_) (fun hc8 => ?_)
  ·refine wp_seq' fun K4 hK4 => ?_
   refine wp_reg ?_
   refine ol_r (r_move rfl) rfl ?_
   refine ol_appendN encScore 10 rfl rfl hx rfl rw22 (by omega) rfl fun a10 c10 => ?_
   refine ol_r (r_assign rfl) rfl ?_
   refine ol_nil (to_k0 (fun _ _ h => h) (hK4 _ _ _ _ _ ?_))
   clear hK4
   refine hQ.ret (rvs1 (rv_t rfl)) (fun _ _ h => h) fun w hb hs hB hkd => ?_
   rw [← sortL_of sclt_tot (srt_small (by omega)) (List.Perm.refl xs)]
   exact ⟨_, _, _, rfl, hb, hs.ok 10 _ rfl⟩
  ·exfalso
   omega
theorem ref5_sorted_step (N : Nat) (ih : ∀ (a : Option Addr) (n c : Nat) (xs : List ScoreR) (w : World), n ≤ N → Rd encScore w.heap.size w a n c xs → n ≤ 1000000 →
    Calls Try.prog 77 #[.slice a n c] w fun e w' => ∃ b m k, e = .returned (.slice b m k) ∧ Fresh encScore 24 w w' b m k (sortL sclt xs)) (a : Option Addr) (n c : Nat) (xs : List ScoreR) (w : World) (hN : n ≤ N + 1) (h2 : ¬n < 2) (hx : Rd encScore w.heap.size w a n c xs) (hn : n ≤ 1000000) :
    Calls Try.prog 77 #[.slice a n c] w fun e w' => ∃ b m k, e = .returned (.slice b m k) ∧ Fresh encScore 24 w w' b m k (sortL sclt xs) := by
  have hln := hx.len
  refine enterQ (N := 65) (C := fun _ => True) (H := []) (B := w.heap.size) (args := [_]) Try.func77 rfl rfl rfl (Nat.le_refl _) (Sat.nil _ _) fun Q hQ => ?_
  refine wp_seq' fun K1 hK1 => ?_
  refine wp_reg ?_
  refine ol_r (r_assign rfl) rfl ?_
  refine ol_nil (to_k0 (fun _ _ h => h) (hK1 _ _ _ _ _ ?_))
  clear hK1
  refine wp_seq' fun K2 hK2 => ?_
  refine wp_seq' fun K3 hK3 => ?_
  refine wp_reg ?_
  refine ol_r (r_move rfl) rfl ?_
  refine ol_r (r_len rfl sl22) rfl ?_
  refine ol_r (r_lss rfl rfl) rfl ?_
  refine ol_nil (to_k0 (fun _ _ h => h) (hK3 _ _ _ _ _ ?_))
  clear hK3
  first | refine wp_condD rfl (fun hc8 => ?_) (fun hc8 => ?_) | refine wp_condN rfl (fun hc8 => ?_) (fun hc8 => ?_) | refine wp_condNB rfl (fun hc8 => ?_) (fun hc8 => ?_) | refine wp_cond' rfl (fun hc8 => ?_) (fun hc8 => ?_)
  ·exfalso
   omega
  ·refine wp_skip' (to_k0 (fun _ _ h => h) (hK2 _ _ _ _ _ ?_))
   clear hK2
   refine wp_seq' fun K4 hK4 => ?_
   refine wp_rega [(999, [])] (by kernel_rfl) ⟨.inr subH_nil, trivial⟩ ?_
   refine aq_r 0 999 rfl (by kernel_rfl) (by kernel_rfl) (by kernel_rfl) (.head _) (by kernel_rfl) (by kernel_rfl) rfl (r_move rfl) ?_
   refine aq_r 1 999 rfl (by kernel_rfl) (by kernel_rfl) (by kernel_rfl) (.head _) (by kernel_rfl) (by kernel_rfl) rfl (r_move rfl) ?_
   refine aq_r 2 999 rfl (by kernel_rfl) (by kernel_rfl) (by kernel_rfl) (.head _) (by kernel_rfl) (by kernel_rfl) rfl (r_len rfl sl22) ?_
   first | refine aq_r 3 999 rfl (by kernel_rfl) (by kernel_rfl) (by kernel_rfl) (.head _) (by kernel_rfl) (by kernel_rfl) rfl (r_quo rfl rfl (by omega)) ?_ | refine aq_r 3 999 rfl (by kernel_rfl) (by kernel_rfl) (by kernel_rfl) (.head _) (by kernel_rfl) (by kernel_rfl) rfl (r_tquo rfl rfl (by omega)) ?_
   refine aq_slr 4 999 rfl (by kernel_rfl) (by kernel_rfl) (by kernel_rfl) (.head _) (by kernel_rfl) (by kernel_rfl) rfl hx rfl rfl rfl sl22 (by simp only [Option.getD_some, Option.getD_none]; omega) fun a15 c15 hl15 => ?_
   try simp only [Option.getD_some, Option.getD_none] at hl15 ⊢
   refine aq_r 6 999 rfl (by kernel_rfl) (by kernel_rfl) (by kernel_rfl) (.head _) (by kernel_rfl) (by kernel_rfl) rfl (r_move rfl) ?_
   refine aq_r 7 999 rfl (by kernel_rfl) (by kernel_rfl) (by kernel_rfl) (.head _) (by kernel_rfl) (by kernel_rfl) rfl (r_move rfl) ?_
   refine aq_r 8 999 rfl (by kernel_rfl) (by kernel_rfl) (by kernel_rfl) (.head _) (by kernel_rfl) (by kernel_rfl) rfl (r_len rfl sl22) ?_
   first | refine aq_r 9 999 rfl (by kernel_rfl) (by kernel_rfl) (by kernel_rfl) (.head _) (by kernel_rfl) (by kernel_rfl) rfl (r_quo rfl rfl (by omega)) ?_ | refine aq_r 9 999 rfl (by kernel_rfl) (by kernel_rfl) (by kernel_rfl) (.head _) (by kernel_rfl) (by kernel_rfl) rfl (r_tquo rfl rfl (by omega)) ?_
   refine aq_slr 10 999 rfl (by kernel_rfl) (by kernel_rfl) (by kernel_rfl) (.head _) (by kernel_rfl) (by kernel_rfl) rfl hx rfl rfl rfl sl22 (by simp only [Option.getD_some, Option.getD_none]; omega) fun a21 c21 hl21 => ?_
   try simp only [Option.getD_some, Option.getD_none] at hl21 ⊢
   refine aq_one (i := 5) (by kernel_rfl) rfl fun K5 hK5 => ?_
   refine ol_call rfl rfl cb77 rfl (fun w1 hb1 hs1 hB1 => ?_)
   refine Calls.mono (ih _ _ _ _ _ (by omega) (hl15.at hb1 hB1) (by omega)) ?_
   rintro e w2 ⟨a16, n16, c16, rfl, hf⟩
   have hl16 := hf.len
   obtain ⟨hh16, hc16⟩ := hf.head
   refine After.fresh (id := 16) rfl hb1 hs1 hB1 hf ?_
   clear hf hB1 hs1 hb1 w2 w1
   refine ol_nil (to_k0 (fun _ _ h => h) (hK5 _ _ ⟨.inr (by repeat' first | exact subH_nil | refine subH_same rfl ?_ | (refine subH_blk rfl (by repeat' first | exact sub_nil | refine sub_cons rfl ?_) ?_)), trivial⟩ ?_))
   clear hK5
   refine aq_one (i := 11) (by kernel_rfl) rfl fun K6 hK6 => ?_
   refine ol_call rfl rfl cb77 rfl (fun w1 hb1 hs1 hB1 => ?_)
   refine Calls.mono (ih _ _ _ _ _ (by omega) (hl21.at hb1 hB1) (by omega)) ?_
   rintro e w2 ⟨a22, n22, c22, rfl, hf⟩
   have hl22 := hf.len
   obtain ⟨hh22, hc22⟩ := hf.head
   refine After.fresh (id := 22) rfl hb1 hs1 hB1 hf ?_
   clear hf hB1 hs1 hb1 w2 w1
   obtain ⟨P1, hP1⟩ : ∃ P, P = (xs.drop (Int.toNat 0)).take (((n : Int) / 2).toNat - Int.toNat 0) := ⟨_, rfl⟩
   obtain ⟨P2, hP2⟩ : ∃ P, P = (xs.drop ((n : Int) / 2).toNat).take ((n : Int).toNat - ((n : Int) / 2).toNat) := ⟨_, rfl⟩
   have hcat : P1 ++ P2 = xs := by
     rw [hP1, hP2, List.take_of_length_le (l := xs.drop ((n : Int) / 2).toNat) (by rw [List.length_drop]; omega)]
     show List.take ((n : Int) / 2).toNat xs ++ _ = _
     exact List.take_append_drop _ _
   rw [← hP1] at hl16
   rw [← hP2] at hl22
   rw [← hP1, ← hP2]
   obtain ⟨L1, hL1⟩ : ∃ L, L = sortL sclt P1 := ⟨_, rfl⟩
   obtain ⟨L2, hL2⟩ : ∃ L, L = sortL sclt P2 := ⟨_, rfl⟩
   have hS1 : Srt sclt L1 := by rw [hL1]; exact sortL_srt sclt_tot _
   have hS2 : Srt sclt L2 := by rw [hL2]; exact sortL_srt sclt_tot _
   have hn12 : n16 + n22 = n := by
     rw [← hl16, ← hl22, sortL_len, sortL_len, ← List.length_append, hcat, hln]
   rw [← hL1] at hl16
   rw [← hL2] at hl22
   rw [← hL1, ← hL2]
   clear hP1 hP2
   refine ol_nil (to_k0 (fun _ _ h => h) (hK6 _ _ ⟨.inr (by repeat' first | exact subH_nil | refine subH_same rfl ?_ | (refine subH_blk rfl (by repeat' first | exact sub_nil | refine sub_cons rfl ?_) ?_)), trivial⟩ ?_))
   clear hK6
   refine aq_r 12 999 rfl (by kernel_rfl) (by kernel_rfl) (by kernel_rfl) (.head _) (by kernel_rfl) (by kernel_rfl) rfl (r_assign rfl) ?_
   refine aq_r 13 999 rfl (by kernel_rfl) (by kernel_rfl) (by kernel_rfl) (.head _) (by kernel_rfl) (by kernel_rfl) rfl (r_assign rfl) ?_
   refine aq_done (by kernel_rfl) ?_
   refine (to_k0 (fun _ _ h => h) (hK4 _ _ _ _ _ ?_))
   clear hK4
   refine wp_seq' fun K7 hK7 => ?_
   refine wp_reg ?_
   refine ol_nilrow 5 24 3 ?_
   refine ol_r (r_assign rfl) rfl ?_
   refine ol_nil (to_k0 (fun _ _ h => h) (hK7 _ _ _ _ _ ?_))
   clear hK7
   refine wp_seq' fun K8 hK8 => ?_
   refine wp_block' ?_
   apply wp_loopM (σ := Nat × Nat × Option Addr × Option Addr × Option Addr × Nat × Nat × List ScoreR) (fun s => s.1 ≤ n16 ∧ s.2.1 ≤ n22 ∧ TlP a16 s.2.2.1 s.1 n16 3 ∧ TlP a22 s.2.2.2.1 s.2.1 n22 3 ∧ s.2.2.2.2.2.1 = s.1 + s.2.1 ∧ s.2.2.2.2.2.2.2.length = s.2.2.2.2.2.1 ∧ MergeI sclt L1 L2 s.2.2.2.2.2.2.2 (L1.drop s.1) (L2.drop s.2.1)) (fun s => [(3, .slice s.2.2.1 (n16 - s.1) (c16 - s.1)), (4, .slice s.2.2.2.1 (n22 - s.2.1) (c22 - s.2.1)), (5, .slice s.2.2.2.2.1 s.2.2.2.2.2.1 s.2.2.2.2.2.2.1)]) [(2, _)] (fun s => [(5, .row s.2.2.2.2.1 s.2.2.2.2.2.1 s.2.2.2.2.2.2.1 (encScore.enc s.2.2.2.2.2.2.2) 24 3)]) [(16, _), (22, _)] (fun s => n16 + n22 - (s.1 + s.2.1)) ((0, 0, a16, a22, none, 0, 0, []))
   ·try dsimp only
    exact ⟨Nat.zero_le _, Nat.zero_le _, TlP.zero hh16, TlP.zero hh22, rfl, rfl, MergeI.init hS1 hS2⟩
   ·exact (sub_cons rfl (sub_cons rfl (sub_cons rfl sub_nil)))
   ·exact (sub_cons rfl sub_nil)
   ·exact (subH_row rfl (by first | (dsimp only; rfl; done) | (rfl; done) | (dsimp only; done)) subH_nil)
   ·exact (subH_same rfl (subH_same rfl subH_nil))
   ·rintro ⟨i, j, pa, pb, oa, m, oc, zs⟩ ⟨hi, hj, hpa, hpb, hmm, hzl, hm⟩
    dsimp only at hi hj hpa hpb hmm hzl hm ⊢
    intro K9 hK9
    refine wp_seq' fun K10 hK10 => ?_
    apply wp_seq_cutM (σ := Bool) (fun s => s = true ↔ i < n16 ∨ j < n22) (fun s => [(30, .bool s)]) [(2, _), (3, _), (4, _), (5, _)] (fun s => []) [(5, _), (16, _), (22, _)]
    ·exact (sub_cons rfl (sub_cons rfl (sub_cons rfl (sub_cons rfl sub_nil))))
    ·exact (subH_same rfl (subH_same rfl (subH_same rfl subH_nil)))
    ·intro K11 hK11
     refine wp_reg ?_
     refine ol_r (r_move rfl) rfl ?_
     refine ol_r (r_len rfl sl22) rfl ?_
     refine ol_r (r_gtr rfl rfl) rfl ?_
     refine ol_r (r_move rfl) rfl ?_
     refine ol_split (d := 26) rfl (fun hs26 => ?_) (fun hs26 => ?_)
     ·have phs26 := hs26; try simp only [decide_eq_true_eq, decide_eq_false_iff_not, Bool.not_eq_true', Bool.not_eq_false', Bool.not_true, Bool.not_false] at phs26
      refine ol_s rfl rfl hs26 rfl ?_
      refine ol_s rfl rfl hs26 rfl ?_
      refine ol_s rfl rfl hs26 rfl ?_
      refine ol_r (r_pickT rfl hs26 rfl) rfl ?_
      refine ol_nil (to_k0 (fun _ _ h => h) (hK11 (_) _ _ ?_ (sub_cons rfl sub_nil) (sub_cons rfl (sub_cons rfl (sub_cons rfl (sub_cons rfl sub_nil)))) subH_nil (subH_same rfl (subH_same rfl (subH_same rfl subH_nil)))))
      try dsimp only
      first
      | (rw [decide_eq_true_eq]; omega)
      | (simp; omega)
     ·have phs26 := hs26; try simp only [decide_eq_true_eq, decide_eq_false_iff_not, Bool.not_eq_true', Bool.not_eq_false', Bool.not_true, Bool.not_false] at phs26
      refine ol_g rfl rfl hs26 ?_
      refine ol_r (r_move rfl) rfl ?_
      refine ol_g rfl rfl hs26 ?_
      refine ol_r (r_len rfl sl22) rfl ?_
      refine ol_g rfl rfl hs26 ?_
      refine ol_r (r_gtr rfl rfl) rfl ?_
      refine ol_r (r_pickF rfl hs26 rfl) rfl ?_
      refine ol_nil (to_k0 (fun _ _ h => h) (hK11 (_) _ _ ?_ (sub_cons rfl sub_nil) (sub_cons rfl (sub_cons rfl (sub_cons rfl (sub_cons rfl sub_nil)))) subH_nil (subH_same rfl (subH_same rfl (subH_same rfl subH_nil)))))
      try dsimp only
      first
      | (rw [decide_eq_true_eq]; omega)
      | (simp; omega)
    ·rintro bc hbc
     first | refine wp_condD rfl (fun hc30 => ?_) (fun hc30 => ?_) | refine wp_condN rfl (fun hc30 => ?_) (fun hc30 => ?_) | refine wp_condNB rfl (fun hc30 => ?_) (fun hc30 => ?_) | refine wp_cond' rfl (fun hc30 => ?_) (fun hc30 => ?_)
     ·refine wp_skip' (to_k0 (fun _ _ h => h) (hK10 _ _ _ _ _ ?_))
      clear hK10
      refine wp_block' ?_
      apply wp_seq_cutM (σ := Bool) (fun s => MrgC sclt L1 L2 i j (!s)) (fun s => [(47, .bool s)]) [(2, _), (3, _), (4, _), (5, _)] (fun s => []) [(5, _), (16, _), (22, _)]
      ·exact (sub_cons rfl (sub_cons rfl (sub_cons rfl (sub_cons rfl sub_nil))))
      ·exact (subH_same rfl (subH_same rfl (subH_same rfl subH_nil)))
      ·intro K12 hK12
       refine wp_regq (by kernel_rfl) (by kernel_rfl) ?_
       refine ql_r (r_move rfl) rfl ?_
       refine ql_r (r_len rfl sl22) rfl ?_
       refine ql_r (r_eql rfl rfl) rfl ?_
       refine ql_r (r_move rfl) rfl ?_
       refine ql_split (d := 34) rfl (fun hs34 => ?_) (fun hs34 => ?_)
       ·have phs34 := hs34; try simp only [decide_eq_true_eq, decide_eq_false_iff_not, Bool.not_eq_true', Bool.not_eq_false', Bool.not_true, Bool.not_false] at phs34
        refine ql_s rfl rfl hs34 rfl ?_
        refine ql_s rfl rfl hs34 rfl ?_
        refine ql_s rfl rfl hs34 rfl ?_
        refine ql_s rfl rfl hs34 rfl ?_
        refine ql_u rfl rfl rfl ?_
        refine ql_u rfl rfl rfl ?_
        refine ql_u rfl rfl rfl ?_
        refine ql_u rfl rfl rfl ?_
        refine ql_u rfl rfl rfl ?_
        refine ql_u rfl rfl rfl ?_
        refine ql_u rfl rfl rfl ?_
        refine ql_s rfl rfl hs34 rfl ?_
        refine ql_r (r_pickT rfl hs34 rfl) rfl ?_
        refine ql_nil (to_k0 (fun _ _ h => h) (hK12 (_) _ _ ?_ (sub_cons rfl sub_nil) (sub_cons rfl (sub_cons rfl (sub_cons rfl (sub_cons rfl sub_nil)))) subH_nil (subH_same rfl (subH_same rfl (subH_same rfl subH_nil)))))
        try dsimp only
        first
        | exact mrg_D sclt_tot hx43 hx40
        | (have := hbc.1 hc30; refine mrg_A ?_ ?_ <;> omega)
        | (have := hbc.1 hc30; refine mrg_C ?_ ?_ <;> omega)
       ·have phs34 := hs34; try simp only [decide_eq_true_eq, decide_eq_false_iff_not, Bool.not_eq_true', Bool.not_eq_false', Bool.not_true, Bool.not_false] at phs34
        refine ql_g rfl rfl hs34 ?_
        refine ql_r (r_move rfl) rfl ?_
        refine ql_g rfl rfl hs34 ?_
        refine ql_r (r_len rfl sl22) rfl ?_
        refine ql_g rfl rfl hs34 ?_
        refine ql_r (r_gtr rfl rfl) rfl ?_
        refine ql_g rfl rfl hs34 ?_
        refine ql_r (r_move rfl) rfl ?_
        refine ql_split (d := 38) rfl (fun hs38 => ?_) (fun hs38 => ?_)
        ·have phs38 := hs38; try simp only [decide_eq_true_eq, decide_eq_false_iff_not, Bool.not_eq_true', Bool.not_eq_false', Bool.not_true, Bool.not_false] at phs38
         refine ql_g rfl rfl hs38 ?_
         refine ql_r (r_move rfl) rfl ?_
         refine ql_g rfl rfl hs38 ?_
         refine ql_ixT (id := 22) j encScore _ rfl rfl rfl rfl sl22 hpb rfl (by omega) (by omega) rfl fun x40 hx40 => ?_
         try simp only [Int.toNat_natCast, Int.toNat_zero, Nat.add_zero] at hx40
         refine ql_g rfl rfl hs38 ?_
         refine ql_r (r_ldw rfl (fun w1 hb1 hs1 hB1 => ld_own (id := 22) hs1 rfl rfl ty24 hx40)) rfl ?_
         refine ql_g rfl rfl hs38 ?_
         refine ql_r (r_move rfl) rfl ?_
         refine ql_g rfl rfl hs38 ?_
         refine ql_ixT (id := 16) i encScore _ rfl rfl rfl rfl sl22 hpa rfl (by omega) (by omega) rfl fun x43 hx43 => ?_
         try simp only [Int.toNat_natCast, Int.toNat_zero, Nat.add_zero] at hx43
         refine ql_g rfl rfl hs38 ?_
         refine ql_r (r_ldw rfl (fun w1 hb1 hs1 hB1 => ld_own (id := 16) hs1 rfl rfl ty24 hx43)) rfl ?_
         refine ql_g rfl rfl hs38 ?_
         refine ql_call rfl rfl cb100 rfl (fun w1 hb1 hs1 hB1 => ref5_before _ _ _) ?_
         refine ql_g rfl rfl hs34 ?_
         refine ql_r (r_pickT rfl hs38 rfl) rfl ?_
         refine ql_r (r_pickF rfl hs34 rfl) rfl ?_
         refine ql_nil (to_k0 (fun _ _ h => h) (hK12 (_) _ _ ?_ (sub_cons rfl sub_nil) (sub_cons rfl (sub_cons rfl (sub_cons rfl (sub_cons rfl sub_nil)))) subH_nil (subH_same rfl (subH_same rfl (subH_same rfl subH_nil)))))
         try dsimp only
         first
         | exact mrg_D sclt_tot hx43 hx40
         | (have := hbc.1 hc30; refine mrg_A ?_ ?_ <;> omega)
         | (have := hbc.1 hc30; refine mrg_C ?_ ?_ <;> omega)
        ·have phs38 := hs38; try simp only [decide_eq_true_eq, decide_eq_false_iff_not, Bool.not_eq_true', Bool.not_eq_false', Bool.not_true, Bool.not_false] at phs38
         refine ql_s rfl rfl hs38 rfl ?_
         refine ql_s rfl rfl hs38 rfl ?_
         refine ql_s rfl rfl hs38 rfl ?_
         refine ql_s rfl rfl hs38 rfl ?_
         refine ql_s rfl rfl hs38 rfl ?_
         refine ql_s rfl rfl hs38 rfl ?_
         refine ql_s rfl rfl hs38 rfl ?_
         refine ql_g rfl rfl hs34 ?_
         refine ql_r (r_pickF rfl hs38 rfl) rfl ?_
         refine ql_r (r_pickF rfl hs34 rfl) rfl ?_
         refine ql_nil (to_k0 (fun _ _ h => h) (hK12 (_) _ _ ?_ (sub_cons rfl sub_nil) (sub_cons rfl (sub_cons rfl (sub_cons rfl (sub_cons rfl sub_nil)))) subH_nil (subH_same rfl (subH_same rfl (subH_same rfl subH_nil)))))
         try dsimp only
         first
         | exact mrg_D sclt_tot hx43 hx40
         | (have := hbc.1 hc30; refine mrg_A ?_ ?_ <;> omega)
         | (have := hbc.1 hc30; refine mrg_C ?_ ?_ <;> omega)
      ·rintro bd hbd
       first | refine wp_condD rfl (fun hc47 => ?_) (fun hc47 => ?_) | refine wp_condN rfl (fun hc47 => ?_) (fun hc47 => ?_) | refine wp_condNB rfl (fun hc47 => ?_) (fun hc47 => ?_) | refine wp_cond' rfl (fun hc47 => ?_) (fun hc47 => ?_)
       ·refine wp_seq' fun K13 hK13 => ?_
        refine wp_reg ?_
        subst hc47
        have hjl : j < n22 := by obtain ⟨x, hx, _⟩ := hbd.2 rfl; have := (List.getElem?_eq_some_iff.1 hx).1; omega
        refine ol_r (r_move rfl) rfl ?_
        refine ol_r (r_move rfl) rfl ?_
        refine ol_ixT (id := 22) j encScore _ rfl rfl rfl rfl sl22 hpb rfl (by omega) (by omega) rfl fun x50 hx50 => ?_
        try simp only [Int.toNat_natCast, Int.toNat_zero, Nat.add_zero] at hx50
        refine ol_r (r_ldw rfl (fun w1 hb1 hs1 hB1 => ld_own (id := 22) hs1 rfl rfl ty24 hx50)) rfl ?_
        refine ol_bs1 52 rfl rfl rw22 rfl rfl rfl fun a52 => ?_
        refine ol_append1 (id := 5) (id2 := 52) rfl rfl rfl rfl rfl rw22 (by omega) rfl fun a53 c53 => ?_
        refine ol_r (r_assign rfl) rfl ?_
        refine ol_nil (to_k0 (fun _ _ h => h) (hK13 _ _ _ _ _ ?_))
        clear hK13
        refine wp_reg ?_
        refine ol_r (r_move rfl) rfl ?_
        refine ol_r (r_slN rfl rfl sl22 (by omega)) rfl ?_
        refine ol_r (r_assign rfl) rfl ?_
        refine ol_nil (to_k0 (fun _ _ h => h) (hK9 ((i, j + 1, pa, (if c22 - j = 1 then pb else Option.map (fun x => x.add (1 * 3)) pb), a53, m + 1, c53, zs ++ [x50])) _ _ ?_ ?_ (sub_cons (by first | rfl | (first | rfl | (rw [Nat.sub_add_eq, Nat.sub_add_eq]; rfl))) (sub_cons (by first | rfl | (first | rfl | (rw [Nat.sub_add_eq, Nat.sub_add_eq]; rfl))) (sub_cons (by first | rfl | (first | rfl | (rw [Nat.sub_add_eq, Nat.sub_add_eq]; rfl))) sub_nil))) (sub_cons rfl sub_nil) (by exact (subH_row rfl (by first | (dsimp only; first | rfl | (rw [Enc.enc_append]; rfl); done) | (first | rfl | (rw [Enc.enc_append]; rfl); done) | (dsimp only; done)) subH_nil)) (subH_same rfl (subH_same rfl subH_nil))))
        ·try dsimp only
         exact ⟨hi, by omega, hpa, hpb.next hh22 hc22.1, by omega, by rw [List.length_append, hzl, List.length_singleton], hm.stepR sclt_tot hbd hx50⟩
        ·try dsimp only
         omega
       ·refine wp_seq' fun K14 hK14 => ?_
        refine wp_reg ?_
        have hc47 : bd = false := by simpa using hc47
        subst hc47
        have hil : i < n16 := by obtain ⟨x, hx, _⟩ := hbd.1 rfl; have := (List.getElem?_eq_some_iff.1 hx).1; omega
        refine ol_r (r_move rfl) rfl ?_
        refine ol_r (r_move rfl) rfl ?_
        refine ol_ixT (id := 16) i encScore _ rfl rfl rfl rfl sl22 hpa rfl (by omega) (by omega) rfl fun x58 hx58 => ?_
        try simp only [Int.toNat_natCast, Int.toNat_zero, Nat.add_zero] at hx58
        refine ol_r (r_ldw rfl (fun w1 hb1 hs1 hB1 => ld_own (id := 16) hs1 rfl rfl ty24 hx58)) rfl ?_
        refine ol_bs1 60 rfl rfl rw22 rfl rfl rfl fun a60 => ?_
        refine ol_append1 (id := 5) (id2 := 60) rfl rfl rfl rfl rfl rw22 (by omega) rfl fun a61 c61 => ?_
        refine ol_r (r_assign rfl) rfl ?_
        refine ol_nil (to_k0 (fun _ _ h => h) (hK14 _ _ _ _ _ ?_))
        clear hK14
        refine wp_reg ?_
        refine ol_r (r_move rfl) rfl ?_
        refine ol_r (r_slN rfl rfl sl22 (by omega)) rfl ?_
        refine ol_r (r_assign rfl) rfl ?_
        refine ol_nil (to_k0 (fun _ _ h => h) (hK9 ((i + 1, j, (if c16 - i = 1 then pa else Option.map (fun x => x.add (1 * 3)) pa), pb, a61, m + 1, c61, zs ++ [x58])) _ _ ?_ ?_ (sub_cons (by first | rfl | (first | rfl | (rw [Nat.sub_add_eq, Nat.sub_add_eq]; rfl))) (sub_cons (by first | rfl | (first | rfl | (rw [Nat.sub_add_eq, Nat.sub_add_eq]; rfl))) (sub_cons (by first | rfl | (first | rfl | (rw [Nat.sub_add_eq, Nat.sub_add_eq]; rfl))) sub_nil))) (sub_cons rfl sub_nil) (by exact (subH_row rfl (by first | (dsimp only; first | rfl | (rw [Enc.enc_append]; rfl); done) | (first | rfl | (rw [Enc.enc_append]; rfl); done) | (dsimp only; done)) subH_nil)) (subH_same rfl (subH_same rfl subH_nil))))
        ·try dsimp only
         exact ⟨by omega, hj, hpa.next hh16 hc16.1, hpb, by omega, by rw [List.length_append, hzl, List.length_singleton], hm.stepL sclt_tot hbd hx58⟩
        ·try dsimp only
         omega
     ·refine wp_exit' (to_k0 (fun _ _ h => h) (hK8 _ _ _ _ _ ?_))
      clear hK8
      refine wp_seq' fun K15 hK15 => ?_
      refine wp_reg ?_
      refine ol_r (r_move rfl) rfl ?_
      refine ol_r (r_assign rfl) rfl ?_
      refine ol_nil (to_k0 (fun _ _ h => h) (hK15 _ _ _ _ _ ?_))
      clear hK15
      refine hQ.ret (rvs1 (rv_t rfl)) (fun _ _ h => h) fun w hb hs hB hkd => ?_
      have hno : ¬(i < n16 ∨ j < n22) := fun h => by rw [hc30] at hbc; exact Bool.noConfusion (hbc.2 h)
      have he := merge_end sclt_tot hcat hL1 hL2 hm (by omega) (by omega)
      rw [← he]
      exact ⟨_, _, _, rfl, hb, hs.ok 5 _ rfl⟩
theorem ref5_sorted : ∀ (N : Nat) (a : Option Addr) (n c : Nat) (xs : List ScoreR) (w : World), n ≤ N → Rd encScore w.heap.size w a n c xs → n ≤ 1000000 →
    Calls Try.prog 77 #[.slice a n c] w fun e w' => ∃ b m k, e = .returned (.slice b m k) ∧ Fresh encScore 24 w w' b m k (sortL sclt xs)
  | 0, a, n, c, xs, w, hN, hx, hn => ref5_sorted_small a n c xs w (by omega) hx
  | N + 1, a, n, c, xs, w, hN, hx, hn => by
    by_cases h2 : n < 2
    · exact ref5_sorted_small a n c xs w h2 hx
    · exact ref5_sorted_step N (fun a n c xs w h1 h2 h3 => ref5_sorted N a n c xs w h1 h2 h3) a n c xs w hN h2 hx hn
end Go.Proofs.Ytjflbnbofedlkaa

/-
  Places: program and reference; MatchPlacesMatchSpec.
-/




namespace Go.Proofs.Ytjflbnbofedlkaa
open Go Go.RowKit Hx
set_option linter.unusedVariables false
set_option linter.unusedSimpArgs false
set_option maxRecDepth 8000
namespace Hx
theorem r_faO2 {P : Program} {N : Fr} {B : Nat} {w0 : World} {al : AL} {H : HL} {ty : TypeId} {α : Type} {E : Enc α} {a : Option Addr} {n cap : Nat} {xs : List α} {x : Operand} {s : TypeId} {f o1 o2 o id size : Nat} {e : TypeId} {i : Nat} {y : α} (hp : ev al x = some (.pointer ((a.map (·.add (i * E.size))).map (·.add o1)))) (hH : look H id = some (.row a n cap (E.enc xs) e size)) (hz : size = E.size) (hx : xs[i]? = some y) (hf : Fld P s f o2) (ho : o1 + o2 = o) :
    Runs P N B w0 (.fieldAddr s x f) ty al H (.pointer ((a.map (·.add (i * E.size))).map (·.add o))) := fun a0 w hst => by
  have hr := hst.sat.rd hH hz
  have h0 := hr.isSome (by have := hr.len; have := (List.getElem?_eq_some_iff.1 hx).1; omega)
  have h := r_faw (P := P) (N := N) (B := B) (w0 := w0) (ty := ty) hp (by cases a <;> simp_all) hf a0 w hst
  rw [show ((a.map (·.add (i * E.size))).map (·.add o)) = (((a.map (·.add (i * E.size))).map (·.add o1)).map (·.add o2)) by cases a <;> simp [Addr.add_add, ← ho, Nat.add_assoc]]
  exact h
end Hx
theorem strK : KeyT Try.prog 9 Value.string := KeyT.basic Try.underlying9 (fun a => trivial) (fun a b h => by cases h; rfl)
theorem mk122 : MapK Try.prog 122 Value.string encScore.val zS := ⟨_, _, Try.underlying122, strK, fun _ => Try.zeroValue24 _⟩
theorem mk127 : MapK Try.prog 127 Value.string Value.bool false := ⟨_, _, Try.underlying127, strK, fun _ => Try.zeroValue4 _⟩
theorem ref5_places (a : Option Addr) (n c : Nat) (xs : List ScoreR) (w : World) (hx : Rd encScore w.heap.size w a n c xs) (hn : n ≤ 5000) :
    Calls Try.prog 43 #[.slice a n c] w fun e w' => ∃ b m k, e = .returned (.slice b m k) ∧ Fresh encPlace 32 w w' b m k (placesS xs) := by
  have hln := hx.len
  obtain ⟨S, hS⟩ : ∃ S, S = sortL sclt xs := ⟨_, rfl⟩
  obtain ⟨F, hF⟩ : ∃ F, F = firsts S [] := ⟨_, rfl⟩
  have hFl : F.length ≤ S.length := by rw [hF]; exact (firsts_sub _ _).length_le
  have hSl : S.length = n := by rw [hS, sortL_len, hln]
  refine enterQ (N := 57) (C := fun _ => True) (H := []) (B := w.heap.size) (args := [_]) Try.func43 rfl rfl rfl (Nat.le_refl _) (Sat.nil _ _) fun Q hQ => ?_
  refine wp_seq' fun K1 hK1 => ?_
  refine wp_reg ?_
  refine ol_r (r_assign rfl) rfl ?_
  refine ol_nil (to_k0 (fun _ _ h => h) (hK1 _ _ _ _ _ ?_))
  clear hK1
  refine wp_seq' fun K2 hK2 => ?_
  refine wp_reg ?_
  refine ol_nilrow 3 32 4 ?_
  refine ol_r (r_assign rfl) rfl ?_
  refine ol_nil (to_k0 (fun _ _ h => h) (hK2 _ _ _ _ _ ?_))
  clear hK2
  refine wp_seq' fun K3 hK3 => ?_
  refine wp_reg ?_
  refine ol_mkmapE (Value.string) (Value.bool) 9 rfl fun b9 => ?_
  refine ol_r (r_assign rfl) rfl ?_
  refine ol_nil (to_k0 (fun _ _ h => h) (hK3 _ _ _ _ _ ?_))
  clear hK3
  refine wp_seq' fun K4 hK4 => ?_
  refine wp_seq' fun K5 hK5 => ?_
  refine wp_reg ?_
  refine ol_r (r_move rfl) rfl ?_
  refine ol_call rfl rfl cb77 rfl (fun w1 hb1 hs1 hB1 => Calls.mono (ref5_sorted _ _ _ _ xs _ (Nat.le_refl _) (hx.at hb1 hB1) (by omega)) ?_)
  rintro e w2 ⟨a11, n11, c11, rfl, hf11⟩
  refine After.fresh (id := 11) rfl hb1 hs1 hB1 hf11 ?_
  have hl11 := hf11.len; clear hf11 hB1 hs1 hb1 w2 w1
  rw [← hS] at hl11 ⊢
  refine ol_r (r_len rfl sl22) rfl ?_
  refine ol_r (r_move rfl) rfl ?_
  refine ol_nil (to_k0 (fun _ _ h => h) (hK5 _ _ _ _ _ ?_))
  clear hK5
  refine wp_block' ?_
  apply wp_loopM (σ := Nat × List (ByteArray × Bool) × Nat × Option Addr × Nat) (fun s => s.1 ≤ n11 ∧ s.2.2.1 ≤ F.length ∧ ∃ seen, SeenB s.2.1 seen ∧ firsts (S.drop s.1) seen = F.drop s.2.2.1) (fun s => [(13, .int .i64 s.1), (3, .slice s.2.2.2.1 s.2.2.1 s.2.2.2.2)]) [(2, _), (4, _), (11, _), (12, _)] (fun s => [(3, .row s.2.2.2.1 s.2.2.1 s.2.2.2.2 (encPlace.enc (placesN F s.2.2.1)) 32 4), (9, .ob b9 (MapO (pEnc Value.string Value.bool s.2.1)))]) [(11, _)] (fun s => n11 - s.1) ((0, [], 0, none, 0))
  ·try dsimp only
   exact ⟨Nat.zero_le _, Nat.zero_le _, [], SeenB.nil, by rw [hF]; rfl⟩
  ·exact (sub_cons rfl (sub_cons rfl sub_nil))
  ·exact (sub_cons rfl (sub_cons rfl (sub_cons rfl (sub_cons rfl sub_nil))))
  ·exact (subH_row rfl (by first | (dsimp only; rfl; done) | (rfl; done) | (dsimp only; done)) (subH_same rfl subH_nil))
  ·exact (subH_same rfl subH_nil)
  ·rintro ⟨k, D, j, oa, oc⟩ ⟨hk, hj, seen, hSe, hP⟩
   dsimp only at hk hj hSe hP ⊢
   have hpl := placesN_len hj
   intro K6 hK6
   refine wp_seq' fun K7 hK7 => ?_
   refine wp_reg ?_
   refine ol_r (r_lss rfl rfl) rfl ?_
   refine ol_nil (to_k0 (fun _ _ h => h) (hK7 _ _ _ _ _ ?_))
   clear hK7
   refine wp_seq' fun K8 hK8 => ?_
   first | refine wp_condD rfl (fun hc14 => ?_) (fun hc14 => ?_) | refine wp_condN rfl (fun hc14 => ?_) (fun hc14 => ?_) | refine wp_condNB rfl (fun hc14 => ?_) (fun hc14 => ?_) | refine wp_cond' rfl (fun hc14 => ?_) (fun hc14 => ?_)
   ·refine wp_skip' (to_k0 (fun _ _ h => h) (hK8 _ _ _ _ _ ?_))
    clear hK8
    refine wp_seq' fun K9 hK9 => ?_
    refine wp_block' ?_
    refine wp_seq' fun K10 hK10 => ?_
    refine wp_reg ?_
    refine ol_ixo (id := 11) encScore _ rfl rfl rfl rfl sl22 (by omega) rfl fun x15 hx15 => ?_
    try simp only [Int.toNat_natCast] at hx15
    try simp only [Int.toNat_natCast] at hx15
    refine ol_r (r_ldw rfl (fun w1 hb1 hs1 hB1 => ld_own (id := 11) hs1 rfl rfl ty24 hx15)) rfl ?_
    refine ol_alloc 6 z24 rfl fun b6 => ?_
    refine ol_store (id := 6) rfl rfl rfl rfl sz24 rfl rfl (by first | decide | exact Nat.zero_lt_succ _ | simp) ?_
    refine ol_nil (to_k0 (fun _ _ h => h) (hK10 _ _ _ _ _ ?_))
    clear hK10
    refine wp_seq' fun K11 hK11 => ?_
    refine wp_seq' fun K12 hK12 => ?_
    refine wp_reg ?_
    refine ol_r (r_move rfl) rfl ?_
    refine ol_r (r_fa (o' := 0) rfl fl24_0 rfl) rfl ?_
    refine ol_r (r_ld (id := 6) rfl rfl rfl sc9) rfl ?_
    refine ol_r (r_look1 (K := Value.string) (V := Value.bool) (z := false) (id := 9) rfl rfl rfl mk127) rfl ?_
    refine ol_nil (to_k0 (fun _ _ h => h) (hK12 _ _ _ _ _ ?_))
    clear hK12
    first | refine wp_condD rfl (fun hc20 => ?_) (fun hc20 => ?_) | refine wp_condN rfl (fun hc20 => ?_) (fun hc20 => ?_) | refine wp_condNB rfl (fun hc20 => ?_) (fun hc20 => ?_) | refine wp_cond' rfl (fun hc20 => ?_) (fun hc20 => ?_)
    ·refine wp_exit' (to_k0 (fun _ _ h => h) (hK9 _ _ _ _ _ ?_))
     clear hK9
     refine wp_reg ?_
     refine ol_r (r_add rfl rfl (by omega)) rfl ?_
     refine ol_r (r_move rfl) rfl ?_
     refine ol_nil (to_k0 (fun _ _ h => h) (hK6 ((k + 1, D, j, _, _)) _ _ ?_ ?_ (sub_cons rfl (sub_cons rfl sub_nil)) (sub_cons rfl (sub_cons rfl (sub_cons rfl (sub_cons rfl sub_nil)))) (by exact (subH_row rfl (by first | (dsimp only; first | rfl | (rw [placesN_succ hf1, Enc.enc_append]; rfl); done) | (first | rfl | (rw [placesN_succ hf1, Enc.enc_append]; rfl); done) | (dsimp only; done)) (subH_same rfl subH_nil))) (subH_same rfl subH_nil)))
     ·try dsimp only
      exact ⟨by omega, hj, seen, hSe, firsts_skip hP hx15 (by rw [hSe.get] at hc20; simpa using hc20)⟩
     ·try dsimp only
      omega
    ·refine wp_skip' (to_k0 (fun _ _ h => h) (hK11 _ _ _ _ _ ?_))
     clear hK11
     refine wp_seq' fun K13 hK13 => ?_
     refine wp_reg ?_
     obtain ⟨hf1, hf2⟩ := firsts_take hP hx15 (by rw [hSe.get] at hc20; simpa using hc20)
     have hjl := (List.getElem?_eq_some_iff.1 hf1).1
     refine ol_r (r_move rfl) rfl ?_
     refine ol_r (r_fa (o' := 0) rfl fl24_0 rfl) rfl ?_
     refine ol_r (r_ld (id := 6) rfl rfl rfl sc9) rfl ?_
     refine ol_mapset (K := Value.string) (V := Value.bool) (z := false) (id := 9) rfl rfl rfl rfl mk127 trivial ?_
     refine ol_nil (to_k0 (fun _ _ h => h) (hK13 _ _ _ _ _ ?_))
     clear hK13
     refine wp_seq' fun K14 hK14 => ?_
     refine wp_reg ?_
     refine ol_r (r_move rfl) rfl ?_
     refine ol_r (r_len rfl sl25) rfl ?_
     refine ol_r (r_add rfl rfl (by omega)) rfl ?_
     refine ol_r (r_assign rfl) rfl ?_
     refine ol_nil (to_k0 (fun _ _ h => h) (hK14 _ _ _ _ _ ?_))
     clear hK14
     apply wp_seq_cutM (σ := Unit) (fun s => True) (fun s => [(7, .int .i64 (rankN F j))]) [(2, _), (3, _), (4, _), (6, _), (11, _), (12, _), (13, _)] (fun s => []) [(3, _), (6, _), (9, _), (11, _)]
     ·exact (sub_cons rfl (sub_cons rfl (sub_cons rfl (sub_cons rfl (sub_cons rfl (sub_cons rfl (sub_cons rfl sub_nil)))))))
     ·exact (subH_same rfl (subH_same rfl (subH_same rfl (subH_same rfl subH_nil))))
     ·intro K15 hK15
      refine wp_seq' fun K16 hK16 => ?_
      refine wp_reg ?_
      refine ol_r (r_move rfl) rfl ?_
      refine ol_r (r_len rfl sl25) rfl ?_
      refine ol_r (r_assign rfl) rfl ?_
      refine ol_nil (to_k0 (fun _ _ h => h) (hK16 _ _ _ _ _ ?_))
      clear hK16
      refine wp_seq' fun K17 hK17 => ?_
      refine wp_regq (by kernel_rfl) (by kernel_rfl) ?_
      refine ql_r (r_move rfl) rfl ?_
      refine ql_r (r_gtr rfl rfl) rfl ?_
      refine ql_r (r_move rfl) rfl ?_
      refine ql_split (d := 31) rfl (fun hs31 => ?_) (fun hs31 => ?_)
      ·have phs31 := hs31; try simp only [decide_eq_true_eq, decide_eq_false_iff_not, Bool.not_eq_true', Bool.not_eq_false', Bool.not_true, Bool.not_false] at phs31
       refine ql_g rfl rfl hs31 ?_
       refine ql_r (r_move rfl) rfl ?_
       refine ql_g rfl rfl hs31 ?_
       refine ql_r (r_move rfl) rfl ?_
       refine ql_g rfl rfl hs31 ?_
       refine ql_r (r_sub rfl rfl (by omega)) rfl ?_
       refine ql_g rfl rfl hs31 ?_
       refine ql_ixo (id := 3) encPlace _ rfl rfl rfl rfl sl25 (by omega) (by omega) rfl fun x35 hx35 => ?_
       try simp only [Int.toNat_natCast] at hx35
       try simp only [Int.toNat_natCast] at hx35
       refine ql_g rfl rfl hs31 ?_
       refine ql_r (r_faO (id := 3) rfl rfl rfl hx35 fl32_1) rfl ?_
       refine ql_g rfl rfl hs31 ?_
       refine ql_r (r_faO2 (id := 3) (o := 3) rfl rfl rfl hx35 fl24_2 rfl) rfl ?_
       refine ql_g rfl rfl hs31 ?_
       refine ql_r (r_ldw rfl (fun w1 hb1 hs1 hB1 => ld_ownF (id := 3) (o := 3) hs1 rfl rfl sc3 hx35 rfl)) rfl ?_
       refine ql_g rfl rfl hs31 ?_
       refine ql_r (r_fa (o' := 2) rfl fl24_2 rfl) rfl ?_
       refine ql_g rfl rfl hs31 ?_
       refine ql_r (r_ld (id := 6) rfl rfl rfl sc3) rfl ?_
       refine ql_g rfl rfl hs31 ?_
       refine ql_r (r_eql rfl rfl) rfl ?_
       refine ql_r (r_pickT rfl hs31 rfl) rfl ?_
       refine ql_nil (to_k0 (fun _ _ h => h) (hK17 _ _ _ _ _ ?_))
       clear hK17
       first | refine wp_condD rfl (fun hc42 => ?_) (fun hc42 => ?_) | refine wp_condN rfl (fun hc42 => ?_) (fun hc42 => ?_) | refine wp_condNB rfl (fun hc42 => ?_) (fun hc42 => ?_) | refine wp_cond' rfl (fun hc42 => ?_) (fun hc42 => ?_)
       ·refine wp_reg ?_
        refine ol_r (r_move rfl) rfl ?_
        refine ol_r (r_move rfl) rfl ?_
        refine ol_r (r_sub rfl rfl (by omega)) rfl ?_
        refine ol_ixo (id := 3) encPlace _ rfl rfl rfl rfl sl25 (by omega) rfl fun x46 hx46 => ?_
        try simp only [Int.toNat_natCast] at hx46
        try simp only [Int.toNat_natCast] at hx46
        refine ol_r (r_faO (id := 3) rfl rfl rfl hx46 fl32_0) rfl ?_
        refine ol_r (r_ldw rfl (fun w1 hb1 hs1 hB1 => ld_ownF (id := 3) (o := 0) hs1 rfl rfl sc3 hx46 rfl)) rfl ?_
        refine ol_r (r_assign rfl) rfl ?_
        refine ol_nil (to_k0 (fun _ _ h => h) (hK15 (()) _ _ ?_ (sub_cons (by first | rfl | (first | (rw [rk_same hj (by omega) hf1 hx35 hx46 hc42]; rfl) | (rw [rk_new hj (by omega) hf1 hx35 hc42]; rfl) | (rw [rk_first (F := F) (j := j) (by omega)]; rfl))) sub_nil) (sub_cons rfl (sub_cons rfl (sub_cons rfl (sub_cons rfl (sub_cons rfl (sub_cons rfl (sub_cons rfl sub_nil))))))) subH_nil (subH_same rfl (subH_same rfl (subH_same rfl (subH_same rfl subH_nil))))))
        try dsimp only
        all_goals trivial
       ·refine wp_skip' (to_k0 (fun _ _ h => h) (hK15 (()) _ _ ?_ (sub_cons (by first | rfl | (first | (rw [rk_same hj (by omega) hf1 hx35 hx46 hc42]; rfl) | (rw [rk_new hj (by omega) hf1 hx35 hc42]; rfl) | (rw [rk_first (F := F) (j := j) (by omega)]; rfl))) sub_nil) (sub_cons rfl (sub_cons rfl (sub_cons rfl (sub_cons rfl (sub_cons rfl (sub_cons rfl (sub_cons rfl sub_nil))))))) subH_nil (subH_same rfl (subH_same rfl (subH_same rfl (subH_same rfl subH_nil))))))
        try dsimp only
        all_goals trivial
      ·have phs31 := hs31; try simp only [decide_eq_true_eq, decide_eq_false_iff_not, Bool.not_eq_true', Bool.not_eq_false', Bool.not_true, Bool.not_false] at phs31
       refine ql_s rfl rfl hs31 rfl ?_
       refine ql_s rfl rfl hs31 rfl ?_
       refine ql_s rfl rfl hs31 rfl ?_
       refine ql_s rfl rfl hs31 rfl ?_
       refine ql_s rfl rfl hs31 rfl ?_
       refine ql_s rfl rfl hs31 rfl ?_
       refine ql_s rfl rfl hs31 rfl ?_
       refine ql_s rfl rfl hs31 rfl ?_
       refine ql_s rfl rfl hs31 rfl ?_
       refine ql_s rfl rfl hs31 rfl ?_
       refine ql_r (r_pickF rfl hs31 rfl) rfl ?_
       refine ql_nil (to_k0 (fun _ _ h => h) (hK17 _ _ _ _ _ ?_))
       clear hK17
       refine wp_condF rfl ?_
       refine wp_skip' (to_k0 (fun _ _ h => h) (hK15 (()) _ _ ?_ (sub_cons (by first | rfl | (first | (rw [rk_same hj (by omega) hf1 hx35 hx46 hc42]; rfl) | (rw [rk_new hj (by omega) hf1 hx35 hc42]; rfl) | (rw [rk_first (F := F) (j := j) (by omega)]; rfl))) sub_nil) (sub_cons rfl (sub_cons rfl (sub_cons rfl (sub_cons rfl (sub_cons rfl (sub_cons rfl (sub_cons rfl sub_nil))))))) subH_nil (subH_same rfl (subH_same rfl (subH_same rfl (subH_same rfl subH_nil))))))
       try dsimp only
       all_goals trivial
     ·rintro s hI
      refine wp_reg ?_
      refine ol_r (r_move rfl) rfl ?_
      refine ol_r (r_move rfl) rfl ?_
      refine ol_r (r_lda (id := 6) (n := 3) rfl rfl rfl ag24) rfl ?_
      refine ol_r (r_build rfl (fun _ => bd32_0_1 _ _ _ _ _)) rfl ?_
      refine ol_bs1 53 rfl rfl rw25 rfl rfl rfl fun a53 => ?_
      refine ol_append1 (id := 3) (id2 := 53) rfl rfl rfl rfl rfl rw25 (by omega) rfl fun a54 c54 => ?_
      refine ol_r (r_assign rfl) rfl ?_
      refine ol_nil (to_k0 (fun _ _ h => h) (hK9 _ _ _ _ _ ?_))
      clear hK9
      refine wp_reg ?_
      refine ol_r (r_add rfl rfl (by omega)) rfl ?_
      refine ol_r (r_move rfl) rfl ?_
      refine ol_nil (to_k0 (fun _ _ h => h) (hK6 ((k + 1, pS D x15.name true, j + 1, _, _)) _ _ ?_ ?_ (sub_cons rfl (sub_cons rfl sub_nil)) (sub_cons rfl (sub_cons rfl (sub_cons rfl (sub_cons rfl sub_nil)))) (by exact (subH_row rfl (by first | (dsimp only; first | rfl | (rw [placesN_succ hf1, Enc.enc_append]; rfl); done) | (first | rfl | (rw [placesN_succ hf1, Enc.enc_append]; rfl); done) | (dsimp only; done)) (subH_same rfl subH_nil))) (subH_same rfl subH_nil)))
      ·try dsimp only
       exact ⟨by omega, by have := (List.getElem?_eq_some_iff.1 hf1).1; omega, _, hSe.put _, hf2⟩
      ·try dsimp only
       omega
   ·refine wp_exit' (to_k0 (fun _ _ h => h) (hK4 _ _ _ _ _ ?_))
    clear hK4
    refine wp_seq' fun K18 hK18 => ?_
    refine wp_reg ?_
    refine ol_r (r_move rfl) rfl ?_
    refine ol_r (r_assign rfl) rfl ?_
    refine ol_nil (to_k0 (fun _ _ h => h) (hK18 _ _ _ _ _ ?_))
    clear hK18
    refine hQ.ret (rvs1 (rv_t rfl)) (fun _ _ h => h) fun w hb hs hB hkd => ?_
    have hjl := firsts_done hP (by omega)
    obtain rfl : j = F.length := by omega
    exact ⟨_, _, _, rfl, hb, by rw [show placesS xs = placesN F F.length by rw [hF, hS]; rfl]; exact hs.ok 3 _ rfl⟩
end Go.Proofs.Ytjflbnbofedlkaa
