/-
  Scale: products over quotients, for numbers that are not too large; rounded up.
-/
import Derived.Test.YtogcclagmobkiaaHu
import Derived.Test.YtogcclagmobkiaaSplitM
import Derived.Test.YtogcclagmobkiaaIndexFn
import Derived.Test.YtogcclagmobkiaaRoot
namespace Go.Proofs.Ytogcclagmobkiaa
open Go Go.RowKit Hx
set_option linter.unusedVariables false
set_option linter.unusedSimpArgs false
set_option maxRecDepth 8000
theorem bits_Mul64 (x y : Int) (w : World) (hx : 0 ≤ x ∧ x ≤ 4294967295) (hy : 0 ≤ y ∧ y ≤ 4294967295) (hxy : 0 ≤ x * y ∧ x * y ≤ 9223372036854775807) :
    Calls Try.prog 161 #[.int .u64 x, .int .u64 y] w fun e w' => e = .returned (.tuple #[.int .u64 0, .int .u64 (x * y)]) ∧ Below w.heap.size w w' := by
  refine enterQ (N := 51) (C := fun _ => True) (H := []) (B := w.heap.size) (args := [_, _]) Try.func161 rfl rfl rfl (Nat.le_refl _) (Sat.nil _ _) fun Q hQ => ?_
  refine wp_seq' fun K1 hK1 => ?_
  refine wp_reg ?_
  refine ol_r (r_assign rfl) rfl ?_
  refine ol_r (r_assign rfl) rfl ?_
  refine ol_nil (to_k0 (fun _ _ h => h) (hK1 _ _ _ _ _ ?_))
  clear hK1
  refine wp_seq' fun K2 hK2 => ?_
  refine wp_reg ?_
  refine ol_r (r_move rfl) rfl ?_
  refine ol_r (r_and32 x rfl rfl (by omega) (by omega) (by omega)) rfl ?_
  refine ol_r (r_assign rfl) rfl ?_
  refine ol_nil (to_k0 (fun _ _ h => h) (hK2 _ _ _ _ _ ?_))
  clear hK2
  refine wp_seq' fun K3 hK3 => ?_
  refine wp_reg ?_
  refine ol_r (r_move rfl) rfl ?_
  refine ol_r (r_shr32 0 rfl rfl (by omega) (by omega)) rfl ?_
  refine ol_r (r_assign rfl) rfl ?_
  refine ol_nil (to_k0 (fun _ _ h => h) (hK3 _ _ _ _ _ ?_))
  clear hK3
  refine wp_seq' fun K4 hK4 => ?_
  refine wp_reg ?_
  refine ol_r (r_move rfl) rfl ?_
  refine ol_r (r_and32 y rfl rfl (by omega) (by omega) (by omega)) rfl ?_
  refine ol_r (r_assign rfl) rfl ?_
  refine ol_nil (to_k0 (fun _ _ h => h) (hK4 _ _ _ _ _ ?_))
  clear hK4
  refine wp_seq' fun K5 hK5 => ?_
  refine wp_reg ?_
  refine ol_r (r_move rfl) rfl ?_
  refine ol_r (r_shr32 0 rfl rfl (by omega) (by omega)) rfl ?_
  refine ol_r (r_assign rfl) rfl ?_
  refine ol_nil (to_k0 (fun _ _ h => h) (hK5 _ _ _ _ _ ?_))
  clear hK5
  refine wp_seq' fun K6 hK6 => ?_
  refine wp_reg ?_
  refine ol_r (r_move rfl) rfl ?_
  refine ol_r (r_move rfl) rfl ?_
  refine ol_r (r_mulg (x * y) rfl rfl (wrap_u64 (by omega))) rfl ?_
  refine ol_r (r_assign rfl) rfl ?_
  refine ol_nil (to_k0 (fun _ _ h => h) (hK6 _ _ _ _ _ ?_))
  clear hK6
  refine wp_seq' fun K7 hK7 => ?_
  refine wp_reg ?_
  refine ol_r (r_move rfl) rfl ?_
  refine ol_r (r_move rfl) rfl ?_
  refine ol_r (r_mulg 0 rfl rfl (by rw [Int.zero_mul]; exact wrap_u64 (by omega))) rfl ?_
  refine ol_r (r_move rfl) rfl ?_
  refine ol_r (r_shr32 (x * y / 4294967296) rfl rfl (by omega) rfl) rfl ?_
  refine ol_r (r_addg (x * y / 4294967296) rfl rfl (by rw [Int.zero_add]; exact wrap_u64 (by omega))) rfl ?_
  refine ol_r (r_assign rfl) rfl ?_
  refine ol_nil (to_k0 (fun _ _ h => h) (hK7 _ _ _ _ _ ?_))
  clear hK7
  refine wp_seq' fun K8 hK8 => ?_
  refine wp_reg ?_
  refine ol_r (r_move rfl) rfl ?_
  refine ol_r (r_and32 (x * y / 4294967296) rfl rfl (by omega) (by omega) (by omega)) rfl ?_
  refine ol_r (r_assign rfl) rfl ?_
  refine ol_nil (to_k0 (fun _ _ h => h) (hK8 _ _ _ _ _ ?_))
  clear hK8
  refine wp_seq' fun K9 hK9 => ?_
  refine wp_reg ?_
  refine ol_r (r_move rfl) rfl ?_
  refine ol_r (r_shr32 0 rfl rfl (by omega) (by omega)) rfl ?_
  refine ol_r (r_assign rfl) rfl ?_
  refine ol_nil (to_k0 (fun _ _ h => h) (hK9 _ _ _ _ _ ?_))
  clear hK9
  refine wp_seq' fun K10 hK10 => ?_
  refine wp_reg ?_
  refine ol_r (r_move rfl) rfl ?_
  refine ol_r (r_move rfl) rfl ?_
  refine ol_r (r_move rfl) rfl ?_
  refine ol_r (r_mulg 0 rfl rfl (by rw [Int.mul_zero]; exact wrap_u64 (by omega))) rfl ?_
  refine ol_r (r_addg (x * y / 4294967296) rfl rfl (by rw [Int.add_zero]; exact wrap_u64 (by omega))) rfl ?_
  refine ol_r (r_assign rfl) rfl ?_
  refine ol_nil (to_k0 (fun _ _ h => h) (hK10 _ _ _ _ _ ?_))
  clear hK10
  refine wp_seq' fun K11 hK11 => ?_
  refine wp_reg ?_
  refine ol_r (r_move rfl) rfl ?_
  refine ol_r (r_move rfl) rfl ?_
  refine ol_r (r_mulg 0 rfl rfl (by rw [Int.zero_mul]; exact wrap_u64 (by omega))) rfl ?_
  refine ol_r (r_move rfl) rfl ?_
  refine ol_r (r_addg 0 rfl rfl (by rw [Int.zero_add]; exact wrap_u64 (by omega))) rfl ?_
  refine ol_r (r_move rfl) rfl ?_
  refine ol_r (r_shr32 0 rfl rfl (by omega) (by omega)) rfl ?_
  refine ol_r (r_addg 0 rfl rfl (by rw [Int.zero_add]; exact wrap_u64 (by omega))) rfl ?_
  refine ol_r (r_assign rfl) rfl ?_
  refine ol_nil (to_k0 (fun _ _ h => h) (hK11 _ _ _ _ _ ?_))
  clear hK11
  refine wp_seq' fun K12 hK12 => ?_
  refine wp_reg ?_
  refine ol_r (r_move rfl) rfl ?_
  refine ol_r (r_move rfl) rfl ?_
  refine ol_r (r_mulg (x * y) rfl rfl (wrap_u64 (by omega))) rfl ?_
  refine ol_r (r_assign rfl) rfl ?_
  refine ol_nil (to_k0 (fun _ _ h => h) (hK12 _ _ _ _ _ ?_))
  clear hK12
  refine hQ.ret (rvs2 (rv_t rfl) (rv_t rfl)) (fun _ _ h => h) fun w hb hs hB hkd => ?_
  exact ⟨rfl, hb⟩
theorem bits_Div64 (x y : Int) (w : World) (hx : 0 ≤ x ∧ x ≤ 9223372036854775807) (hy : 1 ≤ y ∧ y ≤ 9223372036854775807) :
    Calls Try.prog 163 #[.int .u64 0, .int .u64 x, .int .u64 y] w fun e w' => e = .returned (.tuple #[.int .u64 (x / y), .int .u64 (x % y)]) ∧ Below w.heap.size w w' := by
  have hq : 0 ≤ x / y := Int.ediv_nonneg hx.1 (by omega)
  have hq2 : x / y ≤ x := Int.ediv_le_self _ hx.1
  have hr : 0 ≤ x % y := Int.emod_nonneg _ (by omega)
  have hr2 : x % y < y := Int.emod_lt_of_pos _ (by omega)
  refine enterQ (N := 135) (C := fun _ => True) (H := []) (B := w.heap.size) (args := [_, _, _]) Try.func163 rfl rfl rfl (Nat.le_refl _) (Sat.nil _ _) fun Q hQ => ?_
  refine wp_seq' fun K1 hK1 => ?_
  refine wp_reg ?_
  refine ol_r (r_assign rfl) rfl ?_
  refine ol_r (r_assign rfl) rfl ?_
  refine ol_nil (to_k0 (fun _ _ h => h) (hK1 _ _ _ _ _ ?_))
  clear hK1
  refine wp_seq' fun K2 hK2 => ?_
  refine wp_seq' fun K3 hK3 => ?_
  refine wp_reg ?_
  refine ol_r (r_move rfl) rfl ?_
  refine ol_r (r_eql rfl rfl) rfl ?_
  refine ol_nil (to_k0 (fun _ _ h => h) (hK3 _ _ _ _ _ ?_))
  clear hK3
  refine wp_condD rfl (fun hc20 => ?_) (fun hc20 => ?_)
  ·exfalso
   omega
  ·refine wp_skip' (to_k0 (fun _ _ h => h) (hK2 _ _ _ _ _ ?_))
   clear hK2
   refine wp_seq' fun K4 hK4 => ?_
   refine wp_seq' fun K5 hK5 => ?_
   refine wp_reg ?_
   refine ol_r (r_move rfl) rfl ?_
   refine ol_r (r_move rfl) rfl ?_
   refine ol_r (r_leq rfl rfl) rfl ?_
   refine ol_nil (to_k0 (fun _ _ h => h) (hK5 _ _ _ _ _ ?_))
   clear hK5
   refine wp_condD rfl (fun hc24 => ?_) (fun hc24 => ?_)
   ·exfalso
    omega
   ·refine wp_skip' (to_k0 (fun _ _ h => h) (hK4 _ _ _ _ _ ?_))
    clear hK4
    refine wp_seq' fun K6 hK6 => ?_
    refine wp_seq' fun K7 hK7 => ?_
    refine wp_reg ?_
    refine ol_r (r_move rfl) rfl ?_
    refine ol_r (r_eql rfl rfl) rfl ?_
    refine ol_nil (to_k0 (fun _ _ h => h) (hK7 _ _ _ _ _ ?_))
    clear hK7
    refine wp_condD rfl (fun hc27 => ?_) (fun hc27 => ?_)
    ·refine wp_seq' fun K8 hK8 => ?_
     refine wp_regq (by kernel_rfl) (by kernel_rfl) ?_
     refine ql_r (r_move rfl) rfl ?_
     refine ql_r (r_move rfl) rfl ?_
     refine ql_r (r_quog rfl rfl (by omega) (by omega) (wrap_u64 (by omega))) rfl ?_
     refine ql_r (r_move rfl) rfl ?_
     refine ql_r (r_move rfl) rfl ?_
     refine ql_r (r_remg rfl rfl (by omega) (by omega) (wrap_u64 (by omega))) rfl ?_
     refine ql_r (r_assign rfl) rfl ?_
     refine ql_r (r_assign rfl) rfl ?_
     refine ql_nil (to_k0 (fun _ _ h => h) (hK8 _ _ _ _ _ ?_))
     clear hK8
     refine hQ.ret (rvs2 (rv_t rfl) (rv_t rfl)) (fun _ _ h => h) fun w hb hs hB hkd => ?_
     exact ⟨rfl, hb⟩
    ·exfalso
     omega
theorem cmp_isNaNu (x : Int) (w : World) : Calls Try.prog 193 #[.int .u64 x] w fun e w' => e = .returned (.bool false) ∧ Below w.heap.size w w' := by
  refine enterQ (N := 6) (C := fun _ => True) (H := []) (B := w.heap.size) (args := [_]) Try.func193 rfl rfl rfl (Nat.le_refl _) (Sat.nil _ _) fun Q hQ => ?_
  refine wp_seq' fun K1 hK1 => ?_
  refine wp_reg ?_
  refine ol_r (r_assign rfl) rfl ?_
  refine ol_nil (to_k0 (fun _ _ h => h) (hK1 _ _ _ _ _ ?_))
  clear hK1
  refine wp_seq' fun K2 hK2 => ?_
  refine wp_reg ?_
  refine ol_r (r_move rfl) rfl ?_
  refine ol_r (r_move rfl) rfl ?_
  refine ol_r (r_neq rfl rfl) rfl ?_
  refine ol_r (r_assign rfl) rfl ?_
  refine ol_nil (to_k0 (fun _ _ h => h) (hK2 _ _ _ _ _ ?_))
  clear hK2
  refine hQ.ret (rvs1 (rv_t rfl)) (fun _ _ h => h) fun w hb hs hB hkd => ?_
  exact ⟨by simp, hb⟩
def cmpI (x y : Int) : Int := if x < y then -1 else if y < x then 1 else 0
theorem cmp_Compareu (x y : Int) (w : World) : Calls Try.prog 183 #[.int .u64 x, .int .u64 y] w fun e w' => e = .returned (.int .i64 (cmpI x y)) ∧ Below w.heap.size w w' := by
  refine enterQ (N := 20) (C := fun _ => True) (H := []) (B := w.heap.size) (args := [_, _]) Try.func183 rfl rfl rfl (Nat.le_refl _) (Sat.nil _ _) fun Q hQ => ?_
  refine wp_seq' fun K1 hK1 => ?_
  refine wp_reg ?_
  refine ol_r (r_assign rfl) rfl ?_
  refine ol_nil (to_k0 (fun _ _ h => h) (hK1 _ _ _ _ _ ?_))
  clear hK1
  refine wp_seq' fun K2 hK2 => ?_
  refine wp_reg ?_
  refine ol_r (r_move rfl) rfl ?_
  refine ol_call rfl rfl cb193 rfl (fun w1 hb1 hs1 hB1 => Calls.mono (cmp_isNaNu _ _) ?_)
  rintro e w2 ⟨rfl, hb2⟩
  refine After.below rfl hb1 hs1 hB1 hb2 ?_
  clear hb2 hB1 hs1 hb1 w2 w1
  refine ol_r (r_assign rfl) rfl ?_
  refine ol_nil (to_k0 (fun _ _ h => h) (hK2 _ _ _ _ _ ?_))
  clear hK2
  refine wp_seq' fun K3 hK3 => ?_
  refine wp_reg ?_
  refine ol_r (r_move rfl) rfl ?_
  refine ol_call rfl rfl cb193 rfl (fun w1 hb1 hs1 hB1 => Calls.mono (cmp_isNaNu _ _) ?_)
  rintro e w2 ⟨rfl, hb2⟩
  refine After.below rfl hb1 hs1 hB1 hb2 ?_
  clear hb2 hB1 hs1 hb1 w2 w1
  refine ol_r (r_assign rfl) rfl ?_
  refine ol_nil (to_k0 (fun _ _ h => h) (hK3 _ _ _ _ _ ?_))
  clear hK3
  refine wp_seq' fun K4 hK4 => ?_
  refine wp_seq' fun K5 hK5 => ?_
  refine wp_reg ?_
  refine ol_r (r_move rfl) rfl ?_
  refine ol_nil (to_k0 (fun _ _ h => h) (hK5 _ _ _ _ _ ?_))
  clear hK5
  refine wp_cond' rfl (fun hc11 => ?_) (fun hc11 => ?_)
  ·refine wp_seq' fun K6 hK6 => ?_
   refine wp_seq' fun K7 hK7 => ?_
   refine wp_reg ?_
   refine ol_r (r_move rfl) rfl ?_
   refine ol_nil (to_k0 (fun _ _ h => h) (hK7 _ _ _ _ _ ?_))
   clear hK7
   refine wp_cond' rfl (fun hc12 => ?_) (fun hc12 => ?_)
   ·refine wp_seq' fun K8 hK8 => ?_
    refine wp_reg ?_
    refine ol_r (r_assign rfl) rfl ?_
    refine ol_nil (to_k0 (fun _ _ h => h) (hK8 _ _ _ _ _ ?_))
    clear hK8
    refine hQ.ret (rvs1 (rv_t rfl)) (fun _ _ h => h) fun w hb hs hB hkd => ?_
    first
      | (exfalso; simp_all; done)
   ·refine wp_skip' (to_k0 (fun _ _ h => h) (hK6 _ _ _ _ _ ?_))
    clear hK6
    refine wp_seq' fun K9 hK9 => ?_
    refine wp_reg ?_
    refine ol_r (r_assign rfl) rfl ?_
    refine ol_nil (to_k0 (fun _ _ h => h) (hK9 _ _ _ _ _ ?_))
    clear hK9
    refine hQ.ret (rvs1 (rv_t rfl)) (fun _ _ h => h) fun w hb hs hB hkd => ?_
    first
      | (exfalso; simp_all; done)
  ·refine wp_skip' (to_k0 (fun _ _ h => h) (hK4 _ _ _ _ _ ?_))
   clear hK4
   refine wp_seq' fun K10 hK10 => ?_
   refine wp_seq' fun K11 hK11 => ?_
   refine wp_reg ?_
   refine ol_r (r_move rfl) rfl ?_
   refine ol_nil (to_k0 (fun _ _ h => h) (hK11 _ _ _ _ _ ?_))
   clear hK11
   refine wp_cond' rfl (fun hc13 => ?_) (fun hc13 => ?_)
   ·refine wp_seq' fun K12 hK12 => ?_
    refine wp_reg ?_
    refine ol_r (r_assign rfl) rfl ?_
    refine ol_nil (to_k0 (fun _ _ h => h) (hK12 _ _ _ _ _ ?_))
    clear hK12
    refine hQ.ret (rvs1 (rv_t rfl)) (fun _ _ h => h) fun w hb hs hB hkd => ?_
    first
      | (exfalso; simp_all; done)
   ·refine wp_skip' (to_k0 (fun _ _ h => h) (hK10 _ _ _ _ _ ?_))
    clear hK10
    refine wp_seq' fun K13 hK13 => ?_
    refine wp_seq' fun K14 hK14 => ?_
    refine wp_reg ?_
    refine ol_r (r_move rfl) rfl ?_
    refine ol_r (r_move rfl) rfl ?_
    refine ol_r (r_lss rfl rfl) rfl ?_
    refine ol_nil (to_k0 (fun _ _ h => h) (hK14 _ _ _ _ _ ?_))
    clear hK14
    refine wp_condD rfl (fun hc16 => ?_) (fun hc16 => ?_)
    ·refine wp_seq' fun K15 hK15 => ?_
     refine wp_reg ?_
     refine ol_r (r_assign rfl) rfl ?_
     refine ol_nil (to_k0 (fun _ _ h => h) (hK15 _ _ _ _ _ ?_))
     clear hK15
     refine hQ.ret (rvs1 (rv_t rfl)) (fun _ _ h => h) fun w hb hs hB hkd => ?_
     first
       | exact ⟨by unfold cmpI; rw [if_pos (by omega)], hb⟩
    ·refine wp_skip' (to_k0 (fun _ _ h => h) (hK13 _ _ _ _ _ ?_))
     clear hK13
     refine wp_seq' fun K16 hK16 => ?_
     refine wp_seq' fun K17 hK17 => ?_
     refine wp_reg ?_
     refine ol_r (r_move rfl) rfl ?_
     refine ol_r (r_move rfl) rfl ?_
     refine ol_r (r_gtr rfl rfl) rfl ?_
     refine ol_nil (to_k0 (fun _ _ h => h) (hK17 _ _ _ _ _ ?_))
     clear hK17
     refine wp_condD rfl (fun hc19 => ?_) (fun hc19 => ?_)
     ·refine wp_seq' fun K18 hK18 => ?_
      refine wp_reg ?_
      refine ol_r (r_assign rfl) rfl ?_
      refine ol_nil (to_k0 (fun _ _ h => h) (hK18 _ _ _ _ _ ?_))
      clear hK18
      refine hQ.ret (rvs1 (rv_t rfl)) (fun _ _ h => h) fun w hb hs hB hkd => ?_
      first
        | exact ⟨by unfold cmpI; rw [if_neg (by omega), if_pos (by omega)], hb⟩
     ·refine wp_skip' (to_k0 (fun _ _ h => h) (hK16 _ _ _ _ _ ?_))
      clear hK16
      refine wp_seq' fun K19 hK19 => ?_
      refine wp_reg ?_
      refine ol_r (r_assign rfl) rfl ?_
      refine ol_nil (to_k0 (fun _ _ h => h) (hK19 _ _ _ _ _ ?_))
      clear hK19
      refine hQ.ret (rvs1 (rv_t rfl)) (fun _ _ h => h) fun w hb hs hB hkd => ?_
      first
        | exact ⟨by unfold cmpI; rw [if_neg (by omega), if_neg (by omega)], hb⟩
/-- A way of rounding, as it lies. -/
def encWay : Enc (Int × FuncId) := { size := 2, cells := fun x => [.int .i64 x.1, .func (.func x.2) #[] #[]], val := fun x => .agg #[.int .i64 x.1, .func (.func x.2) #[] #[]], len := fun _ => rfl, ones := fun _ u h => (by simp at h; rcases h with h | h <;> subst h <;> rfl), pos := by decide, vc := fun _ => rfl }
theorem ty183 : Ty Try.prog 183 encWay := .inr ⟨ag183, fun _ => rfl⟩
def waysL : List (Int × FuncId) := [(1, 188), (2, 189), (3, 190), (4, 191), (5, 192)]
theorem bd183_0_1 (x0 : Int) (g1 : FuncId) (w : World) : (Instr.build 183 #[(0, .int .i64 x0), (1, .func (.func g1) #[] #[])]).run Try.prog w = .ok (.agg #[.int .i64 x0, .func (.func g1) #[] #[]]) w := by kernel_rfl
theorem quant_ways (w : World) : Calls Try.prog 180 #[] w fun e w' => ∃ b m k, e = .returned (.slice b m k) ∧ Fresh encWay 183 w w' b m k waysL := by
  refine enterQ (N := 7) (C := fun _ => True) (H := []) (B := w.heap.size) (args := []) Try.func180 rfl rfl rfl (Nat.le_refl _) (Sat.nil _ _) fun Q hQ => ?_
  refine wp_seq' fun K1 hK1 => ?_
  refine wp_reg ?_
  refine ol_r (r_assign rfl) rfl ?_
  refine ol_nil (to_k0 (fun _ _ h => h) (hK1 _ _ _ _ _ ?_))
  clear hK1
  refine wp_seq' fun K2 hK2 => ?_
  refine wp_reg ?_
  refine ol_r (r_build rfl (fun _ => bd183_0_1 _ _ _)) rfl ?_
  refine ol_r (r_build rfl (fun _ => bd183_0_1 _ _ _)) rfl ?_
  refine ol_r (r_build rfl (fun _ => bd183_0_1 _ _ _)) rfl ?_
  refine ol_r (r_build rfl (fun _ => bd183_0_1 _ _ _)) rfl ?_
  refine ol_r (r_build rfl (fun _ => bd183_0_1 _ _ _)) rfl ?_
  refine ol_bsG (encWay.enc (waysL)) 6 rfl rw178 rfl rfl (fun _ => by kernel_rfl) rfl fun a6 => ?_
  refine ol_r (r_assign rfl) rfl ?_
  refine ol_nil (to_k0 (fun _ _ h => h) (hK2 _ _ _ _ _ ?_))
  clear hK2
  refine hQ.ret (rvs1 (rv_t rfl)) (fun _ _ h => h) fun w hb hs hB hkd => ?_
  exact ⟨_, _, _, rfl, hb, hs.ok 6 _ rfl⟩
theorem way_up (below : Bool) (whole half : Int) (w : World) : Calls Try.prog 189 #[.bool below, .int .u64 whole, .int .i64 half] w fun e w' => e = .returned (.bool (!below)) ∧ Below w.heap.size w w' := by
  refine enterQ (N := 9) (C := fun _ => True) (H := []) (B := w.heap.size) (args := [_, _, _]) Try.func189 rfl rfl rfl (Nat.le_refl _) (Sat.nil _ _) fun Q hQ => ?_
  refine wp_seq' fun K1 hK1 => ?_
  refine wp_reg ?_
  refine ol_r (r_assign rfl) rfl ?_
  refine ol_nil (to_k0 (fun _ _ h => h) (hK1 _ _ _ _ _ ?_))
  clear hK1
  refine wp_seq' fun K2 hK2 => ?_
  refine wp_reg ?_
  refine ol_r (r_move rfl) rfl ?_
  refine ol_r (r_not rfl) rfl ?_
  refine ol_r (r_assign rfl) rfl ?_
  refine ol_nil (to_k0 (fun _ _ h => h) (hK2 _ _ _ _ _ ?_))
  clear hK2
  refine hQ.ret (rvs1 (rv_t rfl)) (fun _ _ h => h) fun w hb hs hB hkd => ?_
  exact ⟨rfl, hb⟩
theorem way_near (below : Bool) (whole half : Int) (w : World) : Calls Try.prog 191 #[.bool below, .int .u64 whole, .int .i64 half] w fun e w' => e = .returned (.bool (decide (0 < half) || (decide (half = 0) && !below))) ∧ Below w.heap.size w w' := by
  refine enterQ (N := 17) (C := fun _ => True) (H := []) (B := w.heap.size) (args := [_, _, _]) Try.func191 rfl rfl rfl (Nat.le_refl _) (Sat.nil _ _) fun Q hQ => ?_
  refine wp_seq' fun K1 hK1 => ?_
  refine wp_reg ?_
  refine ol_r (r_assign rfl) rfl ?_
  refine ol_nil (to_k0 (fun _ _ h => h) (hK1 _ _ _ _ _ ?_))
  clear hK1
  refine wp_seq' fun K2 hK2 => ?_
  refine wp_reg ?_
  refine ol_r (r_move rfl) rfl ?_
  refine ol_r (r_gtr rfl rfl) rfl ?_
  refine ol_r (r_move rfl) rfl ?_
  refine ol_split (d := 9) rfl (fun hs9 => ?_) (fun hs9 => ?_)
  ·have phs9 := hs9; try simp only [decide_eq_true_eq, decide_eq_false_iff_not, Bool.not_eq_true', Bool.not_eq_false', Bool.not_true, Bool.not_false] at phs9
   refine ol_s rfl rfl hs9 rfl ?_
   refine ol_s rfl rfl hs9 rfl ?_
   refine ol_s rfl rfl hs9 rfl ?_
   refine ol_u rfl rfl rfl ?_
   refine ol_u rfl rfl rfl ?_
   refine ol_s rfl rfl hs9 rfl ?_
   refine ol_r (r_pickT rfl hs9 rfl) rfl ?_
   refine ol_r (r_assign rfl) rfl ?_
   refine ol_nil (to_k0 (fun _ _ h => h) (hK2 _ _ _ _ _ ?_))
   clear hK2
   refine hQ.ret (rvs1 (rv_t rfl)) (fun _ _ h => h) fun w hb hs hB hkd => ?_
   first
     | exact ⟨by simp_all, hb⟩
  ·have phs9 := hs9; try simp only [decide_eq_true_eq, decide_eq_false_iff_not, Bool.not_eq_true', Bool.not_eq_false', Bool.not_true, Bool.not_false] at phs9
   refine ol_g rfl rfl hs9 ?_
   refine ol_r (r_move rfl) rfl ?_
   refine ol_g rfl rfl hs9 ?_
   refine ol_r (r_eql rfl rfl) rfl ?_
   refine ol_g rfl rfl hs9 ?_
   refine ol_r (r_move rfl) rfl ?_
   refine ol_split (d := 12) rfl (fun hs12 => ?_) (fun hs12 => ?_)
   ·have phs12 := hs12; try simp only [decide_eq_true_eq, decide_eq_false_iff_not, Bool.not_eq_true', Bool.not_eq_false', Bool.not_true, Bool.not_false] at phs12
    refine ol_g rfl rfl hs12 ?_
    refine ol_r (r_move rfl) rfl ?_
    refine ol_g rfl rfl hs12 ?_
    refine ol_r (r_not rfl) rfl ?_
    refine ol_g rfl rfl hs9 ?_
    refine ol_r (r_pickT rfl hs12 rfl) rfl ?_
    refine ol_r (r_pickF rfl hs9 rfl) rfl ?_
    refine ol_r (r_assign rfl) rfl ?_
    refine ol_nil (to_k0 (fun _ _ h => h) (hK2 _ _ _ _ _ ?_))
    clear hK2
    refine hQ.ret (rvs1 (rv_t rfl)) (fun _ _ h => h) fun w hb hs hB hkd => ?_
    first
      | exact ⟨by simp_all, hb⟩
   ·have phs12 := hs12; try simp only [decide_eq_true_eq, decide_eq_false_iff_not, Bool.not_eq_true', Bool.not_eq_false', Bool.not_true, Bool.not_false] at phs12
    refine ol_s rfl rfl hs12 rfl ?_
    refine ol_s rfl rfl hs12 rfl ?_
    refine ol_g rfl rfl hs9 ?_
    refine ol_r (r_pickF rfl hs12 rfl) rfl ?_
    refine ol_r (r_pickF rfl hs9 rfl) rfl ?_
    refine ol_r (r_assign rfl) rfl ?_
    refine ol_nil (to_k0 (fun _ _ h => h) (hK2 _ _ _ _ _ ?_))
    clear hK2
    refine hQ.ret (rvs1 (rv_t rfl)) (fun _ _ h => h) fun w hb hs hB hkd => ?_
    first
      | exact ⟨by simp_all, hb⟩
theorem indexFunc_way (a : Option Addr) (n c1 : Nat) (xs : List (Int × FuncId)) (g : FuncId) (cv : List Value) (p : Int × FuncId → Bool) (r : Int) (w : World) (hx : Rd encWay w.heap.size w a n c1 xs) (hg : Callable Try.prog g) (hr : idxP p xs = r)
    (hf : ∀ x w', x ∈ xs → Below w.heap.size w w' → w.heap.size ≤ w'.heap.size → Calls Try.prog g ([encWay.val x] ++ cv).toArray w' fun e w2 => e = .returned (.bool (p x)) ∧ Below w'.heap.size w' w2) :
    Calls Try.prog 181 #[.slice a n c1, .func (.func g) #[] cv.toArray] w fun e w' => e = .returned (.int .i64 r) ∧ Below w.heap.size w w' := by
  have hl := hx.len
  have hfit := hx.fit
  subst hl
  subst hr
  refine enterQ (N := 19) (C := fun _ => True) (H := []) (B := w.heap.size) (args := [_, _]) Try.func181 rfl rfl rfl (Nat.le_refl _) (Sat.nil _ _) fun Q hQ => ?_
  refine wp_seq' fun K1 hK1 => ?_
  refine wp_reg ?_
  refine ol_r (r_assign rfl) rfl ?_
  refine ol_nil (to_k0 (fun _ _ h => h) (hK1 _ _ _ _ _ ?_))
  clear hK1
  refine wp_seq' fun K2 hK2 => ?_
  refine wp_seq' fun K3 hK3 => ?_
  refine wp_reg ?_
  refine ol_r (r_move rfl) rfl ?_
  refine ol_r (r_len rfl sl178) rfl ?_
  refine ol_r (r_move rfl) rfl ?_
  refine ol_nil (to_k0 (fun _ _ h => h) (hK3 _ _ _ _ _ ?_))
  clear hK3
  refine wp_block' ?_
  apply wp_loopM (σ := Nat) (fun s => s ≤ xs.length ∧ ∀ y ∈ xs.take s, p y = false) (fun s => [(8, .int .i64 s)]) [(0, _), (1, _), (7, _)] (fun s => []) [] (fun s => xs.length - s) (0)
  ·try dsimp only
   simp
  ·exact (sub_cons rfl sub_nil)
  ·exact (sub_cons rfl (sub_cons rfl (sub_cons rfl sub_nil)))
  ·exact subH_nil
  ·exact subH_nil
  ·rintro k ⟨hk, hP⟩
   intro K4 hK4
   refine wp_seq' fun K5 hK5 => ?_
   refine wp_reg ?_
   refine ol_r (r_lss rfl rfl) rfl ?_
   refine ol_nil (to_k0 (fun _ _ h => h) (hK5 _ _ _ _ _ ?_))
   clear hK5
   refine wp_seq' fun K6 hK6 => ?_
   refine wp_condD rfl (fun hc9 => ?_) (fun hc9 => ?_)
   ·refine wp_skip' (to_k0 (fun _ _ h => h) (hK6 _ _ _ _ _ ?_))
    clear hK6
    refine wp_seq' fun K7 hK7 => ?_
    refine wp_block' ?_
    refine wp_seq' fun K8 hK8 => ?_
    refine wp_reg ?_
    refine ol_r (r_move rfl) rfl ?_
    refine ol_r (r_assign rfl) rfl ?_
    refine ol_nil (to_k0 (fun _ _ h => h) (hK8 _ _ _ _ _ ?_))
    clear hK8
    refine wp_seq' fun K9 hK9 => ?_
    refine wp_reg ?_
    refine ol_r (r_move rfl) rfl ?_
    refine ol_r (r_move rfl) rfl ?_
    refine ol_r (r_move rfl) rfl ?_
    refine ol_ixr hx rfl rfl sl178 (by omega) rfl fun x14 hx14 => ?_
    try simp only [Int.toNat_natCast] at hx14
    refine ol_r (r_ldw rfl (fun w1 hb1 hs1 hB1 => Rd.loads hx ty183 hx14 hb1)) rfl ?_
    refine ol_call rfl rfl hg rfl (fun w1 hb1 hs1 hB1 => Calls.mono (hf _ _ (List.mem_of_getElem? hx14) hb1 hB1) ?_)
    rintro e w2 ⟨rfl, hb2⟩
    refine After.below rfl hb1 hs1 hB1 hb2 ?_
    clear hb2 hB1 hs1 hb1 w2 w1
    refine ol_nil (to_k0 (fun _ _ h => h) (hK9 _ _ _ _ _ ?_))
    clear hK9
    refine wp_cond' rfl (fun hc16 => ?_) (fun hc16 => ?_)
    ·refine wp_seq' fun K10 hK10 => ?_
     refine wp_reg ?_
     refine ol_r (r_move rfl) rfl ?_
     refine ol_r (r_assign rfl) rfl ?_
     refine ol_nil (to_k0 (fun _ _ h => h) (hK10 _ _ _ _ _ ?_))
     clear hK10
     refine hQ.ret (rvs1 (rv_t rfl)) (fun _ _ h => h) fun w hb hs hB hkd => ?_
     exact ⟨by rw [idxP_at hx14 hc16 hP], hb⟩
    ·refine wp_skip' (to_k0 (fun _ _ h => h) (hK7 _ _ _ _ _ ?_))
     clear hK7
     refine wp_reg ?_
     refine ol_r (r_add rfl rfl (by omega)) rfl ?_
     refine ol_r (r_move rfl) rfl ?_
     refine ol_nil (to_k0 (fun _ _ h => h) (hK4 (k + 1) _ _ ?_ ?_ (sub_cons rfl sub_nil) (sub_cons rfl (sub_cons rfl (sub_cons rfl sub_nil))) (by exact subH_nil) subH_nil))
     ·try dsimp only
      refine ⟨by omega, fun y hy => ?_⟩
      rw [take_succ_get hx14] at hy
      rcases List.mem_append.1 hy with h | h
      · exact hP y h
      · simp at h; subst h; exact hc16
     ·try dsimp only
      omega
   ·refine wp_exit' (to_k0 (fun _ _ h => h) (hK2 _ _ _ _ _ ?_))
    clear hK2
    refine wp_seq' fun K11 hK11 => ?_
    refine wp_reg ?_
    refine ol_r (r_assign rfl) rfl ?_
    refine ol_nil (to_k0 (fun _ _ h => h) (hK11 _ _ _ _ _ ?_))
    clear hK11
    refine hQ.ret (rvs1 (rv_t rfl)) (fun _ _ h => h) fun w hb hs hB hkd => ?_
    rw [List.take_of_length_le (by omega)] at hP
    exact ⟨by rw [idxP_no hP], hb⟩
theorem scale_is (x : Int × FuncId) (how : Int) (b : Nat) (w : World) (h : Blk w.heap.size w b [(0, .int .i64 how)]) :
    Calls Try.prog 182 ([encWay.val x] ++ [Value.pointer (some ⟨b, 0, none⟩)]).toArray w fun e w' => e = .returned (.bool (decide (x.1 = how))) ∧ Below w.heap.size w w' := by
  refine enterQ (N := 8) (C := fun _ => True) (H := []) (B := w.heap.size) (args := [_, _]) Try.func182 rfl rfl rfl (Nat.le_refl _) (Sat.nil _ _) fun Q hQ => ?_
  refine wp_seq' fun K1 hK1 => ?_
  refine wp_reg ?_
  refine ol_box 2 rfl rfl rfl fun b2 => ?_
  refine ol_r (r_assign rfl) rfl ?_
  refine ol_nil (to_k0 (fun _ _ h => h) (hK1 _ _ _ _ _ ?_))
  clear hK1
  refine wp_seq' fun K2 hK2 => ?_
  refine wp_reg ?_
  refine ol_r (r_fa (o' := 0) rfl fl183_0 rfl) rfl ?_
  refine ol_r (r_ld (id := 2) rfl rfl rfl sc3) rfl ?_
  refine ol_r (r_ldw rfl (fun w1 hb1 hs1 hB1 => Blk.loads (o := 0) h hb1 sc3 rfl)) rfl ?_
  refine ol_r (r_eql rfl rfl) rfl ?_
  refine ol_r (r_assign rfl) rfl ?_
  refine ol_nil (to_k0 (fun _ _ h => h) (hK2 _ _ _ _ _ ?_))
  clear hK2
  refine hQ.ret (rvs1 (rv_t rfl)) (fun _ _ h => h) fun w hb hs hB hkd => ?_
  exact ⟨rfl, hb⟩
theorem quant_ScaleUp (a num den : Int) (w : World) (ha : 0 ≤ a ∧ a ≤ 4294967295) (hn : 0 ≤ num ∧ num ≤ 4294967295) (hd : 1 ≤ den ∧ den ≤ 4294967295) (hx : 0 ≤ a * num ∧ a * num ≤ 1000000000000000000) :
    Calls Try.prog 159 #[.int .i64 a, .int .i64 num, .int .i64 den, .int .i64 2] w fun e w' => e = .returned (.tuple #[.int .i64 (upD (a * num) den), .int .i64 0]) ∧ Below w.heap.size w w' := by
  have hq : 0 ≤ a * num / den := Int.ediv_nonneg hx.1 (by omega)
  have hq2 : a * num / den ≤ a * num := Int.ediv_le_self _ hx.1
  have hr : 0 ≤ a * num % den := Int.emod_nonneg _ (by omega)
  have hr2 : a * num % den < den := Int.emod_lt_of_pos _ (by omega)
  have hup := upD_eq (x := a * num) hd.1
  refine enterQ (N := 88) (C := fun _ => True) (H := []) (B := w.heap.size) (args := [_, _, _, _]) Try.func159 rfl rfl rfl (Nat.le_refl _) (Sat.nil _ _) fun Q hQ => ?_
  refine wp_seq' fun K1 hK1 => ?_
  refine wp_reg ?_
  refine ol_box 7 rfl rfl rfl fun b7 => ?_
  refine ol_r (r_assign rfl) rfl ?_
  refine ol_r (r_assign rfl) rfl ?_
  refine ol_nil (to_k0 (fun _ _ h => h) (hK1 _ _ _ _ _ ?_))
  clear hK1
  refine wp_seq' fun K2 hK2 => ?_
  refine wp_reg ?_
  refine ol_call rfl rfl cb180 rfl (fun w1 hb1 hs1 hB1 => Calls.mono (quant_ways _) ?_)
  rintro e w2 ⟨a18, n18, c18, rfl, hf18⟩
  refine After.fresh (id := 18) rfl hb1 hs1 hB1 hf18 ?_
  have hl18 := hf18.len; clear hf18 hB1 hs1 hb1 w2 w1
  refine ol_r (r_assign rfl) rfl ?_
  refine ol_nil (to_k0 (fun _ _ h => h) (hK2 _ _ _ _ _ ?_))
  clear hK2
  refine wp_seq' fun K3 hK3 => ?_
  refine wp_reg ?_
  have hn18 : n18 = 5 := by rw [← hl18]; rfl
  refine ol_r (r_move rfl) rfl ?_
  refine ol_r (r_func rfl) rfl ?_
  refine ol_call rfl rfl cb181 rfl (fun w1 hb1 hs1 hB1 => Calls.mono (indexFunc_way _ _ _ waysL _ _ (fun x => decide (x.1 = 2)) 1 _ (Sat.rd hs1 (E := encWay) (id := 18) rfl rfl) cb182 rfl (fun x w' _ h1 h2 => scale_is x 2 _ w' ((hs1.blk (id := 7) rfl).at h1 h2))) ?_)
  rintro e w2 ⟨rfl, hb2⟩
  refine After.below rfl hb1 hs1 hB1 hb2 ?_
  clear hb2 hB1 hs1 hb1 w2 w1
  refine ol_r (r_assign rfl) rfl ?_
  refine ol_nil (to_k0 (fun _ _ h => h) (hK3 _ _ _ _ _ ?_))
  clear hK3
  refine wp_seq' fun K4 hK4 => ?_
  refine wp_seq' fun K5 hK5 => ?_
  refine wp_reg ?_
  refine ol_r (r_move rfl) rfl ?_
  refine ol_r (r_lss rfl rfl) rfl ?_
  refine ol_nil (to_k0 (fun _ _ h => h) (hK5 _ _ _ _ _ ?_))
  clear hK5
  refine wp_condD rfl (fun hc23 => ?_) (fun hc23 => ?_)
  ·exfalso
   omega
  ·refine wp_skip' (to_k0 (fun _ _ h => h) (hK4 _ _ _ _ _ ?_))
   clear hK4
   refine wp_seq' fun K6 hK6 => ?_
   refine wp_seq' fun K7 hK7 => ?_
   refine wp_reg ?_
   refine ol_r (r_move rfl) rfl ?_
   refine ol_r (r_leq rfl rfl) rfl ?_
   refine ol_r (r_move rfl) rfl ?_
   refine ol_split (d := 26) rfl (fun hs26 => ?_) (fun hs26 => ?_)
   ·have phs26 := hs26; try simp only [decide_eq_true_eq, decide_eq_false_iff_not, Bool.not_eq_true', Bool.not_eq_false', Bool.not_true, Bool.not_false] at phs26
    refine ol_s rfl rfl hs26 rfl ?_
    refine ol_s rfl rfl hs26 rfl ?_
    refine ol_r (r_pickT rfl hs26 rfl) rfl ?_
    refine ol_nil (to_k0 (fun _ _ h => h) (hK7 _ _ _ _ _ ?_))
    clear hK7
    refine wp_condT rfl ?_
    refine wp_seq' fun K8 hK8 => ?_
    refine wp_reg ?_
    refine ol_r (r_assign rfl) rfl ?_
    refine ol_r (r_assign rfl) rfl ?_
    refine ol_nil (to_k0 (fun _ _ h => h) (hK8 _ _ _ _ _ ?_))
    clear hK8
    refine hQ.ret (rvs2 (rv_t rfl) (rv_t rfl)) (fun _ _ h => h) fun w hb hs hB hkd => ?_
    first
      | (exfalso; omega)
   ·have phs26 := hs26; try simp only [decide_eq_true_eq, decide_eq_false_iff_not, Bool.not_eq_true', Bool.not_eq_false', Bool.not_true, Bool.not_false] at phs26
    refine ol_g rfl rfl hs26 ?_
    refine ol_r (r_move rfl) rfl ?_
    refine ol_g rfl rfl hs26 ?_
    refine ol_r (r_lss rfl rfl) rfl ?_
    refine ol_r (r_pickF rfl hs26 rfl) rfl ?_
    refine ol_nil (to_k0 (fun _ _ h => h) (hK7 _ _ _ _ _ ?_))
    clear hK7
    refine wp_condD rfl (fun hc29 => ?_) (fun hc29 => ?_)
    ·exfalso
     omega
    ·refine wp_skip' (to_k0 (fun _ _ h => h) (hK6 _ _ _ _ _ ?_))
     clear hK6
     refine wp_seq' fun K9 hK9 => ?_
     refine wp_reg ?_
     refine ol_r (r_move rfl) rfl ?_
     refine ol_r (r_lss rfl rfl) rfl ?_
     refine ol_r (r_assign rfl) rfl ?_
     refine ol_nil (to_k0 (fun _ _ h => h) (hK9 _ _ _ _ _ ?_))
     clear hK9
     refine wp_seq' fun K10 hK10 => ?_
     refine wp_reg ?_
     refine ol_r (r_move rfl) rfl ?_
     refine ol_r (r_conv (k2 := .u64) rfl (by kernel_rfl) (by kernel_rfl) (wrap_u64 (by omega))) rfl ?_
     refine ol_r (r_assign rfl) rfl ?_
     refine ol_nil (to_k0 (fun _ _ h => h) (hK10 _ _ _ _ _ ?_))
     clear hK10
     refine wp_seq' fun K11 hK11 => ?_
     refine wp_seq' fun K12 hK12 => ?_
     refine wp_reg ?_
     refine ol_r (r_move rfl) rfl ?_
     refine ol_nil (to_k0 (fun _ _ h => h) (hK12 _ _ _ _ _ ?_))
     clear hK12
     refine wp_condD rfl (fun hc34 => ?_) (fun hc34 => ?_)
     ·exfalso
      omega
     ·refine wp_skip' (to_k0 (fun _ _ h => h) (hK11 _ _ _ _ _ ?_))
      clear hK11
      refine wp_seq' fun K13 hK13 => ?_
      refine wp_reg ?_
      refine ol_r (r_move rfl) rfl ?_
      refine ol_r (r_move rfl) rfl ?_
      refine ol_r (r_conv (k2 := .u64) rfl (by kernel_rfl) (by kernel_rfl) (wrap_u64 (by omega))) rfl ?_
      refine ol_call rfl rfl cb161 rfl (fun w1 hb1 hs1 hB1 => Calls.mono (bits_Mul64 a num _ ha hn (by omega)) ?_)
      rintro e w2 ⟨rfl, hb2⟩
      refine After.below rfl hb1 hs1 hB1 hb2 ?_
      clear hb2 hB1 hs1 hb1 w2 w1
      refine ol_r (r_move rfl) rfl ?_
      refine ol_r (r_extract rfl rfl) rfl ?_
      refine ol_r (r_extract rfl rfl) rfl ?_
      refine ol_r (r_assign rfl) rfl ?_
      refine ol_r (r_assign rfl) rfl ?_
      refine ol_nil (to_k0 (fun _ _ h => h) (hK13 _ _ _ _ _ ?_))
      clear hK13
      refine wp_seq' fun K14 hK14 => ?_
      refine wp_seq' fun K15 hK15 => ?_
      refine wp_reg ?_
      refine ol_r (r_move rfl) rfl ?_
      refine ol_r (r_move rfl) rfl ?_
      refine ol_r (r_conv (k2 := .u64) rfl (by kernel_rfl) (by kernel_rfl) (wrap_u64 (by omega))) rfl ?_
      refine ol_r (r_geq rfl rfl) rfl ?_
      refine ol_nil (to_k0 (fun _ _ h => h) (hK15 _ _ _ _ _ ?_))
      clear hK15
      refine wp_condD rfl (fun hc47 => ?_) (fun hc47 => ?_)
      ·exfalso
       omega
      ·refine wp_skip' (to_k0 (fun _ _ h => h) (hK14 _ _ _ _ _ ?_))
       clear hK14
       refine wp_seq' fun K16 hK16 => ?_
       refine wp_reg ?_
       refine ol_r (r_move rfl) rfl ?_
       refine ol_r (r_move rfl) rfl ?_
       refine ol_r (r_move rfl) rfl ?_
       refine ol_r (r_conv (k2 := .u64) rfl (by kernel_rfl) (by kernel_rfl) (wrap_u64 (by omega))) rfl ?_
       refine ol_call rfl rfl cb163 rfl (fun w1 hb1 hs1 hB1 => Calls.mono (bits_Div64 (a * num) den _ (by omega) (by omega)) ?_)
       rintro e w2 ⟨rfl, hb2⟩
       refine After.below rfl hb1 hs1 hB1 hb2 ?_
       clear hb2 hB1 hs1 hb1 w2 w1
       refine ol_r (r_move rfl) rfl ?_
       refine ol_r (r_extract rfl rfl) rfl ?_
       refine ol_r (r_extract rfl rfl) rfl ?_
       refine ol_r (r_assign rfl) rfl ?_
       refine ol_r (r_assign rfl) rfl ?_
       refine ol_nil (to_k0 (fun _ _ h => h) (hK16 _ _ _ _ _ ?_))
       clear hK16
       refine wp_seq' fun K17 hK17 => ?_
       refine wp_seq' fun K18 hK18 => ?_
       refine wp_regq (by kernel_rfl) (by kernel_rfl) ?_
       refine ql_r (r_move rfl) rfl ?_
       refine ql_r (r_gtr rfl rfl) rfl ?_
       refine ql_r (r_move rfl) rfl ?_
       refine ql_split (d := 58) rfl (fun hs58 => ?_) (fun hs58 => ?_)
       ·have phs58 := hs58; try simp only [decide_eq_true_eq, decide_eq_false_iff_not, Bool.not_eq_true', Bool.not_eq_false', Bool.not_true, Bool.not_false] at phs58
        refine ql_g rfl rfl hs58 ?_
        refine ql_r (r_move rfl) rfl ?_
        refine ql_g rfl rfl hs58 ?_
        refine ql_r (r_leq rfl rfl) rfl ?_
        refine ql_r (r_pickT rfl hs58 rfl) rfl ?_
        refine ql_r (r_move rfl) rfl ?_
        refine ql_split (d := 62) rfl (fun hs62 => ?_) (fun hs62 => ?_)
        ·have phs62 := hs62; try simp only [decide_eq_true_eq, decide_eq_false_iff_not, Bool.not_eq_true', Bool.not_eq_false', Bool.not_true, Bool.not_false] at phs62
         refine ql_g rfl rfl hs62 ?_
         refine ql_r (r_move rfl) rfl ?_
         refine ql_g rfl rfl hs62 ?_
         refine ql_r (r_move rfl) rfl ?_
         refine ql_g rfl rfl hs62 ?_
         refine ql_ixo (id := 18) encWay waysL rfl rfl rfl rfl sl178 (by omega) (by omega) rfl fun x65 hx65 => ?_
         try simp only [Int.toNat_natCast] at hx65
         try simp only [Int.toNat_natCast] at hx65
         refine ql_g rfl rfl hs62 ?_
         have h65 := Option.some.inj (hx65.symm.trans (show _ = some ((2, 189) : Int × FuncId) from rfl))
         subst h65
         refine ql_r (r_faO (id := 18) rfl rfl rfl hx65 fl183_1) rfl ?_
         refine ql_g rfl rfl hs62 ?_
         refine ql_r (r_ldw rfl (fun w1 hb1 hs1 hB1 => ld_ownF (id := 18) (o := 1) hs1 rfl rfl sc181 hx65 rfl)) rfl ?_
         refine ql_g rfl rfl hs62 ?_
         refine ql_r (r_move rfl) rfl ?_
         refine ql_g rfl rfl hs62 ?_
         refine ql_r (r_move rfl) rfl ?_
         refine ql_g rfl rfl hs62 ?_
         refine ql_r (r_move rfl) rfl ?_
         refine ql_g rfl rfl hs62 ?_
         refine ql_r (r_move rfl) rfl ?_
         refine ql_g rfl rfl hs62 ?_
         refine ql_r (r_conv (k2 := .u64) rfl (by kernel_rfl) (by kernel_rfl) (wrap_u64 (by omega))) rfl ?_
         refine ql_g rfl rfl hs62 ?_
         refine ql_r (r_move rfl) rfl ?_
         refine ql_g rfl rfl hs62 ?_
         refine ql_r (r_subg _ rfl rfl (wrap_u64 (by omega))) rfl ?_
         refine ql_g rfl rfl hs62 ?_
         refine ql_call rfl rfl cb183 rfl (fun w1 hb1 hs1 hB1 => cmp_Compareu _ _ _) ?_
         refine ql_g rfl rfl hs62 ?_
         refine ql_call rfl rfl cb189 rfl (fun w1 hb1 hs1 hB1 => way_up _ _ _ _) ?_
         refine ql_r (r_pickT rfl hs62 rfl) rfl ?_
         refine ql_nil (to_k0 (fun _ _ h => h) (hK18 _ _ _ _ _ ?_))
         clear hK18
         refine wp_condN rfl (fun hc77 => ?_) (fun hc77 => ?_)
         ·refine wp_reg ?_
          refine ol_r (r_move rfl) rfl ?_
          refine ol_r (r_addg _ rfl rfl (wrap_u64 (by omega))) rfl ?_
          refine ol_r (r_assign rfl) rfl ?_
          refine ol_nil (to_k0 (fun _ _ h => h) (hK17 _ _ _ _ _ ?_))
          clear hK17
          refine wp_seq' fun K19 hK19 => ?_
          refine wp_seq' fun K20 hK20 => ?_
          refine wp_reg ?_
          refine ol_r (r_move rfl) rfl ?_
          refine ol_r (r_gtr rfl rfl) rfl ?_
          refine ol_nil (to_k0 (fun _ _ h => h) (hK20 _ _ _ _ _ ?_))
          clear hK20
          refine wp_condD rfl (fun hc81 => ?_) (fun hc81 => ?_)
          ·exfalso
           omega
          ·refine wp_skip' (to_k0 (fun _ _ h => h) (hK19 _ _ _ _ _ ?_))
           clear hK19
           refine wp_seq' fun K21 hK21 => ?_
           refine wp_seq' fun K22 hK22 => ?_
           refine wp_reg ?_
           refine ol_r (r_move rfl) rfl ?_
           refine ol_nil (to_k0 (fun _ _ h => h) (hK22 _ _ _ _ _ ?_))
           clear hK22
           refine wp_condD rfl (fun hc82 => ?_) (fun hc82 => ?_)
           ·exfalso
            omega
           ·refine wp_skip' (to_k0 (fun _ _ h => h) (hK21 _ _ _ _ _ ?_))
            clear hK21
            refine wp_seq' fun K23 hK23 => ?_
            refine wp_reg ?_
            refine ol_r (r_move rfl) rfl ?_
            refine ol_r (r_conv (k2 := .i64) rfl (by kernel_rfl) (by kernel_rfl) (IntWalk.i64_in _ (by omega))) rfl ?_
            refine ol_r (r_assign rfl) rfl ?_
            refine ol_r (r_assign rfl) rfl ?_
            refine ol_nil (to_k0 (fun _ _ h => h) (hK23 _ _ _ _ _ ?_))
            clear hK23
            refine hQ.ret (rvs2 (rv_t rfl) (rv_t rfl)) (fun _ _ h => h) fun w hb hs hB hkd => ?_
            first
              | exact ⟨by rw [← hup, if_pos (by omega)], hb⟩
         ·refine wp_skip' (to_k0 (fun _ _ h => h) (hK17 _ _ _ _ _ ?_))
          clear hK17
          refine wp_seq' fun K24 hK24 => ?_
          refine wp_seq' fun K25 hK25 => ?_
          refine wp_reg ?_
          refine ol_r (r_move rfl) rfl ?_
          refine ol_r (r_gtr rfl rfl) rfl ?_
          refine ol_nil (to_k0 (fun _ _ h => h) (hK25 _ _ _ _ _ ?_))
          clear hK25
          refine wp_condD rfl (fun hc81 => ?_) (fun hc81 => ?_)
          ·exfalso
           omega
          ·refine wp_skip' (to_k0 (fun _ _ h => h) (hK24 _ _ _ _ _ ?_))
           clear hK24
           refine wp_seq' fun K26 hK26 => ?_
           refine wp_seq' fun K27 hK27 => ?_
           refine wp_reg ?_
           refine ol_r (r_move rfl) rfl ?_
           refine ol_nil (to_k0 (fun _ _ h => h) (hK27 _ _ _ _ _ ?_))
           clear hK27
           refine wp_condD rfl (fun hc82 => ?_) (fun hc82 => ?_)
           ·exfalso
            omega
           ·refine wp_skip' (to_k0 (fun _ _ h => h) (hK26 _ _ _ _ _ ?_))
            clear hK26
            refine wp_seq' fun K28 hK28 => ?_
            refine wp_reg ?_
            refine ol_r (r_move rfl) rfl ?_
            refine ol_r (r_conv (k2 := .i64) rfl (by kernel_rfl) (by kernel_rfl) (IntWalk.i64_in _ (by omega))) rfl ?_
            refine ol_r (r_assign rfl) rfl ?_
            refine ol_r (r_assign rfl) rfl ?_
            refine ol_nil (to_k0 (fun _ _ h => h) (hK28 _ _ _ _ _ ?_))
            clear hK28
            refine hQ.ret (rvs2 (rv_t rfl) (rv_t rfl)) (fun _ _ h => h) fun w hb hs hB hkd => ?_
            first
              | (exfalso; omega)
        ·have phs62 := hs62; try simp only [decide_eq_true_eq, decide_eq_false_iff_not, Bool.not_eq_true', Bool.not_eq_false', Bool.not_true, Bool.not_false] at phs62
         refine ql_s rfl rfl hs62 rfl ?_
         refine ql_s rfl rfl hs62 rfl ?_
         refine ql_s rfl rfl hs62 rfl ?_
         refine ql_s rfl rfl hs62 rfl ?_
         refine ql_s rfl rfl hs62 rfl ?_
         refine ql_s rfl rfl hs62 rfl ?_
         refine ql_s rfl rfl hs62 rfl ?_
         refine ql_s rfl rfl hs62 rfl ?_
         refine ql_s rfl rfl hs62 rfl ?_
         refine ql_s rfl rfl hs62 rfl ?_
         refine ql_s rfl rfl hs62 rfl ?_
         refine ql_s rfl rfl hs62 rfl ?_
         refine ql_s rfl rfl hs62 rfl ?_
         refine ql_s rfl rfl hs62 rfl ?_
         refine ql_r (r_pickF rfl hs62 rfl) rfl ?_
         refine ql_nil (to_k0 (fun _ _ h => h) (hK18 _ _ _ _ _ ?_))
         clear hK18
         refine wp_condF rfl ?_
         refine wp_skip' (to_k0 (fun _ _ h => h) (hK17 _ _ _ _ _ ?_))
         clear hK17
         refine wp_seq' fun K29 hK29 => ?_
         refine wp_seq' fun K30 hK30 => ?_
         refine wp_reg ?_
         refine ol_r (r_move rfl) rfl ?_
         refine ol_r (r_gtr rfl rfl) rfl ?_
         refine ol_nil (to_k0 (fun _ _ h => h) (hK30 _ _ _ _ _ ?_))
         clear hK30
         refine wp_condD rfl (fun hc81 => ?_) (fun hc81 => ?_)
         ·exfalso
          omega
         ·refine wp_skip' (to_k0 (fun _ _ h => h) (hK29 _ _ _ _ _ ?_))
          clear hK29
          refine wp_seq' fun K31 hK31 => ?_
          refine wp_seq' fun K32 hK32 => ?_
          refine wp_reg ?_
          refine ol_r (r_move rfl) rfl ?_
          refine ol_nil (to_k0 (fun _ _ h => h) (hK32 _ _ _ _ _ ?_))
          clear hK32
          refine wp_condD rfl (fun hc82 => ?_) (fun hc82 => ?_)
          ·exfalso
           omega
          ·refine wp_skip' (to_k0 (fun _ _ h => h) (hK31 _ _ _ _ _ ?_))
           clear hK31
           refine wp_seq' fun K33 hK33 => ?_
           refine wp_reg ?_
           refine ol_r (r_move rfl) rfl ?_
           refine ol_r (r_conv (k2 := .i64) rfl (by kernel_rfl) (by kernel_rfl) (IntWalk.i64_in _ (by omega))) rfl ?_
           refine ol_r (r_assign rfl) rfl ?_
           refine ol_r (r_assign rfl) rfl ?_
           refine ol_nil (to_k0 (fun _ _ h => h) (hK33 _ _ _ _ _ ?_))
           clear hK33
           refine hQ.ret (rvs2 (rv_t rfl) (rv_t rfl)) (fun _ _ h => h) fun w hb hs hB hkd => ?_
           first
             | (exfalso; omega)
       ·have phs58 := hs58; try simp only [decide_eq_true_eq, decide_eq_false_iff_not, Bool.not_eq_true', Bool.not_eq_false', Bool.not_true, Bool.not_false] at phs58
        refine ql_s rfl rfl hs58 rfl ?_
        refine ql_s rfl rfl hs58 rfl ?_
        refine ql_r (r_pickF rfl hs58 rfl) rfl ?_
        refine ql_r (r_move rfl) rfl ?_
        refine ql_s rfl rfl rfl rfl ?_
        refine ql_s rfl rfl rfl rfl ?_
        refine ql_s rfl rfl rfl rfl ?_
        refine ql_s rfl rfl rfl rfl ?_
        refine ql_s rfl rfl rfl rfl ?_
        refine ql_s rfl rfl rfl rfl ?_
        refine ql_s rfl rfl rfl rfl ?_
        refine ql_s rfl rfl rfl rfl ?_
        refine ql_s rfl rfl rfl rfl ?_
        refine ql_s rfl rfl rfl rfl ?_
        refine ql_s rfl rfl rfl rfl ?_
        refine ql_s rfl rfl rfl rfl ?_
        refine ql_s rfl rfl rfl rfl ?_
        refine ql_s rfl rfl rfl rfl ?_
        refine ql_r (r_pickF rfl rfl rfl) rfl ?_
        refine ql_nil (to_k0 (fun _ _ h => h) (hK18 _ _ _ _ _ ?_))
        clear hK18
        refine wp_condF rfl ?_
        refine wp_skip' (to_k0 (fun _ _ h => h) (hK17 _ _ _ _ _ ?_))
        clear hK17
        refine wp_seq' fun K34 hK34 => ?_
        refine wp_seq' fun K35 hK35 => ?_
        refine wp_reg ?_
        refine ol_r (r_move rfl) rfl ?_
        refine ol_r (r_gtr rfl rfl) rfl ?_
        refine ol_nil (to_k0 (fun _ _ h => h) (hK35 _ _ _ _ _ ?_))
        clear hK35
        refine wp_condD rfl (fun hc81 => ?_) (fun hc81 => ?_)
        ·exfalso
         omega
        ·refine wp_skip' (to_k0 (fun _ _ h => h) (hK34 _ _ _ _ _ ?_))
         clear hK34
         refine wp_seq' fun K36 hK36 => ?_
         refine wp_seq' fun K37 hK37 => ?_
         refine wp_reg ?_
         refine ol_r (r_move rfl) rfl ?_
         refine ol_nil (to_k0 (fun _ _ h => h) (hK37 _ _ _ _ _ ?_))
         clear hK37
         refine wp_condD rfl (fun hc82 => ?_) (fun hc82 => ?_)
         ·exfalso
          omega
         ·refine wp_skip' (to_k0 (fun _ _ h => h) (hK36 _ _ _ _ _ ?_))
          clear hK36
          refine wp_seq' fun K38 hK38 => ?_
          refine wp_reg ?_
          refine ol_r (r_move rfl) rfl ?_
          refine ol_r (r_conv (k2 := .i64) rfl (by kernel_rfl) (by kernel_rfl) (IntWalk.i64_in _ (by omega))) rfl ?_
          refine ol_r (r_assign rfl) rfl ?_
          refine ol_r (r_assign rfl) rfl ?_
          refine ol_nil (to_k0 (fun _ _ h => h) (hK38 _ _ _ _ _ ?_))
          clear hK38
          refine hQ.ret (rvs2 (rv_t rfl) (rv_t rfl)) (fun _ _ h => h) fun w hb hs hB hkd => ?_
          first
            | exact ⟨by rw [← hup, if_neg (by omega), Int.add_zero], hb⟩
theorem ref1_outside (n a b : Int) (w : World) : Calls Try.prog 160 #[.int .i64 n, .int .i64 a, .int .i64 b] w fun e w' => e = .returned (.bool (!inB n a b)) ∧ Below w.heap.size w w' := by
  refine enterQ (N := 15) (C := fun _ => True) (H := []) (B := w.heap.size) (args := [_, _, _]) Try.func160 rfl rfl rfl (Nat.le_refl _) (Sat.nil _ _) fun Q hQ => ?_
  refine wp_seq' fun K1 hK1 => ?_
  refine wp_reg ?_
  refine ol_r (r_assign rfl) rfl ?_
  refine ol_nil (to_k0 (fun _ _ h => h) (hK1 _ _ _ _ _ ?_))
  clear hK1
  refine wp_seq' fun K2 hK2 => ?_
  refine wp_reg ?_
  refine ol_r (r_move rfl) rfl ?_
  refine ol_r (r_move rfl) rfl ?_
  refine ol_r (r_lss rfl rfl) rfl ?_
  refine ol_r (r_move rfl) rfl ?_
  refine ol_split (d := 10) rfl (fun hs10 => ?_) (fun hs10 => ?_)
  ·have phs10 := hs10; try simp only [decide_eq_true_eq, decide_eq_false_iff_not, Bool.not_eq_true', Bool.not_eq_false', Bool.not_true, Bool.not_false] at phs10
   refine ol_s rfl rfl hs10 rfl ?_
   refine ol_s rfl rfl hs10 rfl ?_
   refine ol_s rfl rfl hs10 rfl ?_
   refine ol_r (r_pickT rfl hs10 rfl) rfl ?_
   refine ol_r (r_assign rfl) rfl ?_
   refine ol_nil (to_k0 (fun _ _ h => h) (hK2 _ _ _ _ _ ?_))
   clear hK2
   refine hQ.ret (rvs1 (rv_t rfl)) (fun _ _ h => h) fun w hb hs hB hkd => ?_
   exact ⟨by rw [inB_not.2 (.inl (by simpa using phs10))]; rfl, hb⟩
  ·have phs10 := hs10; try simp only [decide_eq_true_eq, decide_eq_false_iff_not, Bool.not_eq_true', Bool.not_eq_false', Bool.not_true, Bool.not_false] at phs10
   refine ol_g rfl rfl hs10 ?_
   refine ol_r (r_move rfl) rfl ?_
   refine ol_g rfl rfl hs10 ?_
   refine ol_r (r_move rfl) rfl ?_
   refine ol_g rfl rfl hs10 ?_
   refine ol_r (r_gtr rfl rfl) rfl ?_
   refine ol_r (r_pickF rfl hs10 rfl) rfl ?_
   refine ol_r (r_assign rfl) rfl ?_
   refine ol_nil (to_k0 (fun _ _ h => h) (hK2 _ _ _ _ _ ?_))
   clear hK2
   refine hQ.ret (rvs1 (rv_t rfl)) (fun _ _ h => h) fun w hb hs hB hkd => ?_
   have h2 : decide (b < n) = !inB n a b := by
     by_cases h : n ≤ b
     · rw [inB_iff.2 ⟨by omega, h⟩, decide_eq_false (by omega)]; rfl
     · rw [inB_not.2 (.inr (by omega)), decide_eq_true (by omega)]; rfl
   exact ⟨by rw [h2], hb⟩
theorem ref1_sizeP (a : Int) (w : World) (ha : 0 ≤ a ∧ a ≤ 9223372036854775807) : Calls Try.prog 162 #[.int .i64 a] w fun e w' => e = .returned (.int .u64 a) ∧ Below w.heap.size w w' := by
  refine enterQ (N := 10) (C := fun _ => True) (H := []) (B := w.heap.size) (args := [_]) Try.func162 rfl rfl rfl (Nat.le_refl _) (Sat.nil _ _) fun Q hQ => ?_
  refine wp_seq' fun K1 hK1 => ?_
  refine wp_reg ?_
  refine ol_r (r_assign rfl) rfl ?_
  refine ol_nil (to_k0 (fun _ _ h => h) (hK1 _ _ _ _ _ ?_))
  clear hK1
  refine wp_seq' fun K2 hK2 => ?_
  refine wp_seq' fun K3 hK3 => ?_
  refine wp_reg ?_
  refine ol_r (r_move rfl) rfl ?_
  refine ol_r (r_lss rfl rfl) rfl ?_
  refine ol_nil (to_k0 (fun _ _ h => h) (hK3 _ _ _ _ _ ?_))
  clear hK3
  refine wp_condD rfl (fun hc4 => ?_) (fun hc4 => ?_)
  ·exfalso
   omega
  ·refine wp_skip' (to_k0 (fun _ _ h => h) (hK2 _ _ _ _ _ ?_))
   clear hK2
   refine wp_seq' fun K4 hK4 => ?_
   refine wp_reg ?_
   refine ol_r (r_move rfl) rfl ?_
   refine ol_r (r_conv (k2 := .u64) rfl (by kernel_rfl) (by kernel_rfl) (wrap_u64 (by omega))) rfl ?_
   refine ol_r (r_assign rfl) rfl ?_
   refine ol_nil (to_k0 (fun _ _ h => h) (hK4 _ _ _ _ _ ?_))
   clear hK4
   refine hQ.ret (rvs1 (rv_t rfl)) (fun _ _ h => h) fun w hb hs hB hkd => ?_
   exact ⟨rfl, hb⟩
theorem ref1_moreUp (q r d : Int) (m : Bool) (w : World) (hr : 0 ≤ r) : Calls Try.prog 164 #[.int .u64 q, .int .u64 r, .int .u64 d, .bool m, .int .i64 2] w fun e w' => e = .returned (.bool (decide (0 < r) && !m)) ∧ Below w.heap.size w w' := by
  refine enterQ (N := 40) (C := fun _ => True) (H := []) (B := w.heap.size) (args := [_, _, _, _, _]) Try.func164 rfl rfl rfl (Nat.le_refl _) (Sat.nil _ _) fun Q hQ => ?_
  refine wp_seq' fun K1 hK1 => ?_
  refine wp_reg ?_
  refine ol_r (r_assign rfl) rfl ?_
  refine ol_nil (to_k0 (fun _ _ h => h) (hK1 _ _ _ _ _ ?_))
  clear hK1
  refine wp_seq' fun K2 hK2 => ?_
  refine wp_seq' fun K3 hK3 => ?_
  refine wp_reg ?_
  refine ol_r (r_move rfl) rfl ?_
  refine ol_r (r_eql rfl rfl) rfl ?_
  refine ol_nil (to_k0 (fun _ _ h => h) (hK3 _ _ _ _ _ ?_))
  clear hK3
  refine wp_condD rfl (fun hc12 => ?_) (fun hc12 => ?_)
  ·refine wp_seq' fun K4 hK4 => ?_
   refine wp_reg ?_
   refine ol_r (r_assign rfl) rfl ?_
   refine ol_nil (to_k0 (fun _ _ h => h) (hK4 _ _ _ _ _ ?_))
   clear hK4
   refine hQ.ret (rvs1 (rv_t rfl)) (fun _ _ h => h) fun w hb hs hB hkd => ?_
   first
     | exact ⟨by rw [decide_eq_false (by omega)]; rfl, hb⟩
  ·refine wp_skip' (to_k0 (fun _ _ h => h) (hK2 _ _ _ _ _ ?_))
   clear hK2
   refine wp_seq' fun K5 hK5 => ?_
   refine wp_seq' fun K6 hK6 => ?_
   refine wp_reg ?_
   refine ol_r (r_move rfl) rfl ?_
   refine ol_nil (to_k0 (fun _ _ h => h) (hK6 _ _ _ _ _ ?_))
   clear hK6
   refine wp_block' ?_
   refine wp_seq' fun K7 hK7 => ?_
   refine wp_reg ?_
   refine ol_r (r_eql rfl rfl) rfl ?_
   refine ol_r (r_assign rfl) rfl ?_
   refine ol_nil (to_k0 (fun _ _ h => h) (hK7 _ _ _ _ _ ?_))
   clear hK7
   refine wp_condD rfl (fun hc14 => ?_) (fun hc14 => ?_)
   ·exfalso
    omega
   ·refine wp_seq' fun K8 hK8 => ?_
    refine wp_reg ?_
    refine ol_r (r_eql rfl rfl) rfl ?_
    refine ol_r (r_assign rfl) rfl ?_
    refine ol_nil (to_k0 (fun _ _ h => h) (hK8 _ _ _ _ _ ?_))
    clear hK8
    refine wp_condD rfl (fun hc17 => ?_) (fun hc17 => ?_)
    ·refine wp_seq' fun K9 hK9 => ?_
     refine wp_reg ?_
     refine ol_r (r_move rfl) rfl ?_
     refine ol_r (r_not rfl) rfl ?_
     refine ol_r (r_assign rfl) rfl ?_
     refine ol_nil (to_k0 (fun _ _ h => h) (hK9 _ _ _ _ _ ?_))
     clear hK9
     refine hQ.ret (rvs1 (rv_t rfl)) (fun _ _ h => h) fun w hb hs hB hkd => ?_
     first
       | exact ⟨by rw [decide_eq_true (by omega)]; rfl, hb⟩
    ·exfalso
     omega
theorem ref1_ScaleUp (a num den : Int) (w : World) (ha : 0 ≤ a ∧ a ≤ 4294967295) (hn : 0 ≤ num ∧ num ≤ 4294967295) (hd : 1 ≤ den ∧ den ≤ 4294967295) (hx : 0 ≤ a * num ∧ a * num ≤ 1000000000000000000) :
    Calls Try.prog 122 #[.int .i64 a, .int .i64 num, .int .i64 den, .int .i64 2] w fun e w' => e = .returned (.tuple #[.int .i64 (upD (a * num) den), .int .i64 0]) ∧ Below w.heap.size w w' := by
  have hq : 0 ≤ a * num / den := Int.ediv_nonneg hx.1 (by omega)
  have hq2 : a * num / den ≤ a * num := Int.ediv_le_self _ hx.1
  have hr : 0 ≤ a * num % den := Int.emod_nonneg _ (by omega)
  have hr2 : a * num % den < den := Int.emod_lt_of_pos _ (by omega)
  have hup := upD_eq (x := a * num) hd.1
  have ho : (!inB 2 1 5) = false := rfl
  refine enterQ (N := 64) (C := fun _ => True) (H := []) (B := w.heap.size) (args := [_, _, _, _]) Try.func122 rfl rfl rfl (Nat.le_refl _) (Sat.nil _ _) fun Q hQ => ?_
  refine wp_seq' fun K1 hK1 => ?_
  refine wp_reg ?_
  refine ol_r (r_assign rfl) rfl ?_
  refine ol_r (r_assign rfl) rfl ?_
  refine ol_nil (to_k0 (fun _ _ h => h) (hK1 _ _ _ _ _ ?_))
  clear hK1
  refine wp_seq' fun K2 hK2 => ?_
  refine wp_seq' fun K3 hK3 => ?_
  refine wp_reg ?_
  refine ol_r (r_move rfl) rfl ?_
  refine ol_call rfl rfl cb160 rfl (fun w1 hb1 hs1 hB1 => Calls.mono (ref1_outside _ _ _ _) ?_)
  rintro e w2 ⟨rfl, hb2⟩
  refine After.below rfl hb1 hs1 hB1 hb2 ?_
  clear hb2 hB1 hs1 hb1 w2 w1
  refine ol_nil (to_k0 (fun _ _ h => h) (hK3 _ _ _ _ _ ?_))
  clear hK3
  refine wp_condNB rfl (fun hc17 => ?_) (fun hc17 => ?_)
  ·exfalso
   (simp [inB] at hc17; done)
  ·refine wp_skip' (to_k0 (fun _ _ h => h) (hK2 _ _ _ _ _ ?_))
   clear hK2
   refine wp_seq' fun K4 hK4 => ?_
   refine wp_seq' fun K5 hK5 => ?_
   refine wp_reg ?_
   refine ol_r (r_move rfl) rfl ?_
   refine ol_r (r_lss rfl rfl) rfl ?_
   refine ol_r (r_move rfl) rfl ?_
   refine ol_split (d := 20) rfl (fun hs20 => ?_) (fun hs20 => ?_)
   ·have phs20 := hs20; try simp only [decide_eq_true_eq, decide_eq_false_iff_not, Bool.not_eq_true', Bool.not_eq_false', Bool.not_true, Bool.not_false] at phs20
    refine ol_s rfl rfl hs20 rfl ?_
    refine ol_s rfl rfl hs20 rfl ?_
    refine ol_r (r_pickT rfl hs20 rfl) rfl ?_
    refine ol_nil (to_k0 (fun _ _ h => h) (hK5 _ _ _ _ _ ?_))
    clear hK5
    refine wp_condT rfl ?_
    refine wp_seq' fun K6 hK6 => ?_
    refine wp_reg ?_
    refine ol_r (r_assign rfl) rfl ?_
    refine ol_r (r_assign rfl) rfl ?_
    refine ol_nil (to_k0 (fun _ _ h => h) (hK6 _ _ _ _ _ ?_))
    clear hK6
    refine hQ.ret (rvs2 (rv_t rfl) (rv_t rfl)) (fun _ _ h => h) fun w hb hs hB hkd => ?_
    first
      | (exfalso; omega)
   ·have phs20 := hs20; try simp only [decide_eq_true_eq, decide_eq_false_iff_not, Bool.not_eq_true', Bool.not_eq_false', Bool.not_true, Bool.not_false] at phs20
    refine ol_g rfl rfl hs20 ?_
    refine ol_r (r_move rfl) rfl ?_
    refine ol_g rfl rfl hs20 ?_
    refine ol_r (r_lss rfl rfl) rfl ?_
    refine ol_r (r_pickF rfl hs20 rfl) rfl ?_
    refine ol_nil (to_k0 (fun _ _ h => h) (hK5 _ _ _ _ _ ?_))
    clear hK5
    refine wp_condD rfl (fun hc23 => ?_) (fun hc23 => ?_)
    ·exfalso
     omega
    ·refine wp_skip' (to_k0 (fun _ _ h => h) (hK4 _ _ _ _ _ ?_))
     clear hK4
     refine wp_seq' fun K7 hK7 => ?_
     refine wp_reg ?_
     refine ol_r (r_move rfl) rfl ?_
     refine ol_call rfl rfl cb162 rfl (fun w1 hb1 hs1 hB1 => Calls.mono (ref1_sizeP a _ (by omega)) ?_)
     rintro e w2 ⟨rfl, hb2⟩
     refine After.below rfl hb1 hs1 hB1 hb2 ?_
     clear hb2 hB1 hs1 hb1 w2 w1
     refine ol_r (r_move rfl) rfl ?_
     refine ol_r (r_conv (k2 := .u64) rfl (by kernel_rfl) (by kernel_rfl) (wrap_u64 (by omega))) rfl ?_
     refine ol_call rfl rfl cb161 rfl (fun w1 hb1 hs1 hB1 => Calls.mono (bits_Mul64 a num _ ha hn (by omega)) ?_)
     rintro e w2 ⟨rfl, hb2⟩
     refine After.below rfl hb1 hs1 hB1 hb2 ?_
     clear hb2 hB1 hs1 hb1 w2 w1
     refine ol_r (r_move rfl) rfl ?_
     refine ol_r (r_extract rfl rfl) rfl ?_
     refine ol_r (r_extract rfl rfl) rfl ?_
     refine ol_r (r_assign rfl) rfl ?_
     refine ol_r (r_assign rfl) rfl ?_
     refine ol_nil (to_k0 (fun _ _ h => h) (hK7 _ _ _ _ _ ?_))
     clear hK7
     refine wp_seq' fun K8 hK8 => ?_
     refine wp_reg ?_
     refine ol_r (r_move rfl) rfl ?_
     refine ol_r (r_conv (k2 := .u64) rfl (by kernel_rfl) (by kernel_rfl) (wrap_u64 (by omega))) rfl ?_
     refine ol_r (r_assign rfl) rfl ?_
     refine ol_nil (to_k0 (fun _ _ h => h) (hK8 _ _ _ _ _ ?_))
     clear hK8
     refine wp_seq' fun K9 hK9 => ?_
     refine wp_seq' fun K10 hK10 => ?_
     refine wp_reg ?_
     refine ol_r (r_move rfl) rfl ?_
     refine ol_r (r_move rfl) rfl ?_
     refine ol_r (r_geq rfl rfl) rfl ?_
     refine ol_nil (to_k0 (fun _ _ h => h) (hK10 _ _ _ _ _ ?_))
     clear hK10
     refine wp_condD rfl (fun hc36 => ?_) (fun hc36 => ?_)
     ·exfalso
      omega
     ·refine wp_skip' (to_k0 (fun _ _ h => h) (hK9 _ _ _ _ _ ?_))
      clear hK9
      refine wp_seq' fun K11 hK11 => ?_
      refine wp_reg ?_
      refine ol_r (r_move rfl) rfl ?_
      refine ol_r (r_move rfl) rfl ?_
      refine ol_r (r_move rfl) rfl ?_
      refine ol_call rfl rfl cb163 rfl (fun w1 hb1 hs1 hB1 => Calls.mono (bits_Div64 (a * num) den _ (by omega) (by omega)) ?_)
      rintro e w2 ⟨rfl, hb2⟩
      refine After.below rfl hb1 hs1 hB1 hb2 ?_
      clear hb2 hB1 hs1 hb1 w2 w1
      refine ol_r (r_move rfl) rfl ?_
      refine ol_r (r_extract rfl rfl) rfl ?_
      refine ol_r (r_extract rfl rfl) rfl ?_
      refine ol_r (r_assign rfl) rfl ?_
      refine ol_r (r_assign rfl) rfl ?_
      refine ol_nil (to_k0 (fun _ _ h => h) (hK11 _ _ _ _ _ ?_))
      clear hK11
      refine wp_seq' fun K12 hK12 => ?_
      refine wp_reg ?_
      refine ol_r (r_move rfl) rfl ?_
      refine ol_r (r_lss rfl rfl) rfl ?_
      refine ol_r (r_assign rfl) rfl ?_
      refine ol_nil (to_k0 (fun _ _ h => h) (hK12 _ _ _ _ _ ?_))
      clear hK12
      refine wp_seq' fun K13 hK13 => ?_
      refine wp_seq' fun K14 hK14 => ?_
      refine wp_reg ?_
      refine ol_r (r_move rfl) rfl ?_
      refine ol_r (r_move rfl) rfl ?_
      refine ol_r (r_move rfl) rfl ?_
      refine ol_r (r_move rfl) rfl ?_
      refine ol_r (r_move rfl) rfl ?_
      refine ol_call rfl rfl cb164 rfl (fun w1 hb1 hs1 hB1 => Calls.mono (ref1_moreUp _ _ _ _ _ hr) ?_)
      rintro e w2 ⟨rfl, hb2⟩
      refine After.below rfl hb1 hs1 hB1 hb2 ?_
      clear hb2 hB1 hs1 hb1 w2 w1
      refine ol_nil (to_k0 (fun _ _ h => h) (hK14 _ _ _ _ _ ?_))
      clear hK14
      refine wp_cond' rfl (fun hc51 => ?_) (fun hc51 => ?_)
      ·refine wp_seq' fun K15 hK15 => ?_
       refine wp_reg ?_
       refine ol_r (r_move rfl) rfl ?_
       refine ol_r (r_addg _ rfl rfl (wrap_u64 (by omega))) rfl ?_
       refine ol_r (r_assign rfl) rfl ?_
       refine ol_nil (to_k0 (fun _ _ h => h) (hK15 _ _ _ _ _ ?_))
       clear hK15
       refine wp_seq' fun K16 hK16 => ?_
       refine wp_reg ?_
       refine ol_r (r_move rfl) rfl ?_
       refine ol_r (r_eql rfl rfl) rfl ?_
       refine ol_nil (to_k0 (fun _ _ h => h) (hK16 _ _ _ _ _ ?_))
       clear hK16
       refine wp_condD rfl (fun hc55 => ?_) (fun hc55 => ?_)
       ·exfalso
        omega
       ·refine wp_skip' (to_k0 (fun _ _ h => h) (hK13 _ _ _ _ _ ?_))
        clear hK13
        refine wp_seq' fun K17 hK17 => ?_
        refine wp_seq' fun K18 hK18 => ?_
        refine wp_reg ?_
        refine ol_r (r_move rfl) rfl ?_
        refine ol_r (r_gtr rfl rfl) rfl ?_
        refine ol_nil (to_k0 (fun _ _ h => h) (hK18 _ _ _ _ _ ?_))
        clear hK18
        refine wp_condD rfl (fun hc57 => ?_) (fun hc57 => ?_)
        ·exfalso
         omega
        ·refine wp_skip' (to_k0 (fun _ _ h => h) (hK17 _ _ _ _ _ ?_))
         clear hK17
         refine wp_seq' fun K19 hK19 => ?_
         refine wp_seq' fun K20 hK20 => ?_
         refine wp_reg ?_
         refine ol_r (r_move rfl) rfl ?_
         refine ol_nil (to_k0 (fun _ _ h => h) (hK20 _ _ _ _ _ ?_))
         clear hK20
         refine wp_condD rfl (fun hc58 => ?_) (fun hc58 => ?_)
         ·exfalso
          omega
         ·refine wp_skip' (to_k0 (fun _ _ h => h) (hK19 _ _ _ _ _ ?_))
          clear hK19
          refine wp_seq' fun K21 hK21 => ?_
          refine wp_reg ?_
          refine ol_r (r_move rfl) rfl ?_
          refine ol_r (r_conv (k2 := .i64) rfl (by kernel_rfl) (by kernel_rfl) (IntWalk.i64_in _ (by omega))) rfl ?_
          refine ol_r (r_assign rfl) rfl ?_
          refine ol_r (r_assign rfl) rfl ?_
          refine ol_nil (to_k0 (fun _ _ h => h) (hK21 _ _ _ _ _ ?_))
          clear hK21
          refine hQ.ret (rvs2 (rv_t rfl) (rv_t rfl)) (fun _ _ h => h) fun w hb hs hB hkd => ?_
          first
            | (have h1 : 0 < a * num % den := by
                 simp only [Bool.and_eq_true, decide_eq_true_eq] at hc51
                 exact hc51.1
               exact ⟨by rw [← hup, if_pos h1], hb⟩)
      ·refine wp_skip' (to_k0 (fun _ _ h => h) (hK13 _ _ _ _ _ ?_))
       clear hK13
       refine wp_seq' fun K22 hK22 => ?_
       refine wp_seq' fun K23 hK23 => ?_
       refine wp_reg ?_
       refine ol_r (r_move rfl) rfl ?_
       refine ol_r (r_gtr rfl rfl) rfl ?_
       refine ol_nil (to_k0 (fun _ _ h => h) (hK23 _ _ _ _ _ ?_))
       clear hK23
       refine wp_condD rfl (fun hc57 => ?_) (fun hc57 => ?_)
       ·exfalso
        omega
       ·refine wp_skip' (to_k0 (fun _ _ h => h) (hK22 _ _ _ _ _ ?_))
        clear hK22
        refine wp_seq' fun K24 hK24 => ?_
        refine wp_seq' fun K25 hK25 => ?_
        refine wp_reg ?_
        refine ol_r (r_move rfl) rfl ?_
        refine ol_nil (to_k0 (fun _ _ h => h) (hK25 _ _ _ _ _ ?_))
        clear hK25
        refine wp_condD rfl (fun hc58 => ?_) (fun hc58 => ?_)
        ·exfalso
         omega
        ·refine wp_skip' (to_k0 (fun _ _ h => h) (hK24 _ _ _ _ _ ?_))
         clear hK24
         refine wp_seq' fun K26 hK26 => ?_
         refine wp_reg ?_
         refine ol_r (r_move rfl) rfl ?_
         refine ol_r (r_conv (k2 := .i64) rfl (by kernel_rfl) (by kernel_rfl) (IntWalk.i64_in _ (by omega))) rfl ?_
         refine ol_r (r_assign rfl) rfl ?_
         refine ol_r (r_assign rfl) rfl ?_
         refine ol_nil (to_k0 (fun _ _ h => h) (hK26 _ _ _ _ _ ?_))
         clear hK26
         refine hQ.ret (rvs2 (rv_t rfl) (rv_t rfl)) (fun _ _ h => h) fun w hb hs hB hkd => ?_
         first
           | (have h1 : ¬0 < a * num % den := by
                intro h2
                rw [decide_eq_true h2, decide_eq_false (show ¬a < 0 by omega)] at hc51
                cases hc51
              exact ⟨by rw [← hup, if_neg h1, Int.add_zero], hb⟩)
end Go.Proofs.Ytogcclagmobkiaa
