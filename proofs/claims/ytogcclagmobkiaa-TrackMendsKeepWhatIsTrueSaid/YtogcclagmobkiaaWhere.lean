/-
  Where somebody was at a second: program and reference.
-/
import Derived.Test.YtogcclagmobkiaaWhereM
import Derived.Test.YtogcclagmobkiaaScaleN
import Derived.Test.YtogcclagmobkiaaCheck
namespace Go.Proofs.Ytogcclagmobkiaa
open Go Go.RowKit Hx
set_option linter.unusedVariables false
set_option linter.unusedSimpArgs false
set_option maxRecDepth 8000
theorem cmp_isNaNi (x : Int) (w : World) : Calls Try.prog 119 #[.int .i64 x] w fun e w' => e = .returned (.bool false) ∧ Below w.heap.size w w' := by
  refine enterQ (N := 6) (C := fun _ => True) (H := []) (B := w.heap.size) (args := [_]) Try.func119 rfl rfl rfl (Nat.le_refl _) (Sat.nil _ _) fun Q hQ => ?_
  refine wp_seq' fun K1 hK1 => ?_
  refine wp_reg ?_
  refine ol_r (r_assign rfl) rfl ?_
  refine ol_nil (to_k0 (fun _ _ h => h) (hK1 _ _ _ _ _ ?_))
  clear hK1
  refine wp_seq' fun K2 hK2 => ?_
  refine wp_reg ?_
  refine ol_r (r_move rfl) rfl ?_
  refine ol_r (r_move rfl) rfl ?_
  refine ol_r (r_neq rfl rfl) rfl ?_
  refine ol_r (r_assign rfl) rfl ?_
  refine ol_nil (to_k0 (fun _ _ h => h) (hK2 _ _ _ _ _ ?_))
  clear hK2
  refine hQ.ret (rvs1 (rv_t rfl)) (fun _ _ h => h) fun w hb hs hB hkd => ?_
  exact ⟨by simp, hb⟩
theorem cmpI_lt {x y : Int} : cmpI x y < 0 ↔ x < y := by
  unfold cmpI
  by_cases h : x < y
  · rw [if_pos h]; omega
  · rw [if_neg h]; split <;> omega
theorem cmpI_eq {x y : Int} : cmpI x y = 0 ↔ x = y := by
  unfold cmpI
  by_cases h : x < y
  · rw [if_pos h]; omega
  · rw [if_neg h]; split <;> omega
theorem cmp_Comparei (x y : Int) (w : World) : Calls Try.prog 78 #[.int .i64 x, .int .i64 y] w fun e w' => e = .returned (.int .i64 (cmpI x y)) ∧ Below w.heap.size w w' := by
  refine enterQ (N := 20) (C := fun _ => True) (H := []) (B := w.heap.size) (args := [_, _]) Try.func78 rfl rfl rfl (Nat.le_refl _) (Sat.nil _ _) fun Q hQ => ?_
  refine wp_seq' fun K1 hK1 => ?_
  refine wp_reg ?_
  refine ol_r (r_assign rfl) rfl ?_
  refine ol_nil (to_k0 (fun _ _ h => h) (hK1 _ _ _ _ _ ?_))
  clear hK1
  refine wp_seq' fun K2 hK2 => ?_
  refine wp_reg ?_
  refine ol_r (r_move rfl) rfl ?_
  refine ol_call rfl rfl cb119 rfl (fun w1 hb1 hs1 hB1 => Calls.mono (cmp_isNaNi _ _) ?_)
  rintro e w2 ⟨rfl, hb2⟩
  refine After.below rfl hb1 hs1 hB1 hb2 ?_
  clear hb2 hB1 hs1 hb1 w2 w1
  refine ol_r (r_assign rfl) rfl ?_
  refine ol_nil (to_k0 (fun _ _ h => h) (hK2 _ _ _ _ _ ?_))
  clear hK2
  refine wp_seq' fun K3 hK3 => ?_
  refine wp_reg ?_
  refine ol_r (r_move rfl) rfl ?_
  refine ol_call rfl rfl cb119 rfl (fun w1 hb1 hs1 hB1 => Calls.mono (cmp_isNaNi _ _) ?_)
  rintro e w2 ⟨rfl, hb2⟩
  refine After.below rfl hb1 hs1 hB1 hb2 ?_
  clear hb2 hB1 hs1 hb1 w2 w1
  refine ol_r (r_assign rfl) rfl ?_
  refine ol_nil (to_k0 (fun _ _ h => h) (hK3 _ _ _ _ _ ?_))
  clear hK3
  refine wp_seq' fun K4 hK4 => ?_
  refine wp_seq' fun K5 hK5 => ?_
  refine wp_reg ?_
  refine ol_r (r_move rfl) rfl ?_
  refine ol_nil (to_k0 (fun _ _ h => h) (hK5 _ _ _ _ _ ?_))
  clear hK5
  refine wp_cond' rfl (fun hc11 => ?_) (fun hc11 => ?_)
  ·refine wp_seq' fun K6 hK6 => ?_
   refine wp_seq' fun K7 hK7 => ?_
   refine wp_reg ?_
   refine ol_r (r_move rfl) rfl ?_
   refine ol_nil (to_k0 (fun _ _ h => h) (hK7 _ _ _ _ _ ?_))
   clear hK7
   refine wp_cond' rfl (fun hc12 => ?_) (fun hc12 => ?_)
   ·refine wp_seq' fun K8 hK8 => ?_
    refine wp_reg ?_
    refine ol_r (r_assign rfl) rfl ?_
    refine ol_nil (to_k0 (fun _ _ h => h) (hK8 _ _ _ _ _ ?_))
    clear hK8
    refine hQ.ret (rvs1 (rv_t rfl)) (fun _ _ h => h) fun w hb hs hB hkd => ?_
    first
      | (exfalso; simp_all; done)
   ·refine wp_skip' (to_k0 (fun _ _ h => h) (hK6 _ _ _ _ _ ?_))
    clear hK6
    refine wp_seq' fun K9 hK9 => ?_
    refine wp_reg ?_
    refine ol_r (r_assign rfl) rfl ?_
    refine ol_nil (to_k0 (fun _ _ h => h) (hK9 _ _ _ _ _ ?_))
    clear hK9
    refine hQ.ret (rvs1 (rv_t rfl)) (fun _ _ h => h) fun w hb hs hB hkd => ?_
    first
      | (exfalso; simp_all; done)
  ·refine wp_skip' (to_k0 (fun _ _ h => h) (hK4 _ _ _ _ _ ?_))
   clear hK4
   refine wp_seq' fun K10 hK10 => ?_
   refine wp_seq' fun K11 hK11 => ?_
   refine wp_reg ?_
   refine ol_r (r_move rfl) rfl ?_
   refine ol_nil (to_k0 (fun _ _ h => h) (hK11 _ _ _ _ _ ?_))
   clear hK11
   refine wp_cond' rfl (fun hc13 => ?_) (fun hc13 => ?_)
   ·refine wp_seq' fun K12 hK12 => ?_
    refine wp_reg ?_
    refine ol_r (r_assign rfl) rfl ?_
    refine ol_nil (to_k0 (fun _ _ h => h) (hK12 _ _ _ _ _ ?_))
    clear hK12
    refine hQ.ret (rvs1 (rv_t rfl)) (fun _ _ h => h) fun w hb hs hB hkd => ?_
    first
      | (exfalso; simp_all; done)
   ·refine wp_skip' (to_k0 (fun _ _ h => h) (hK10 _ _ _ _ _ ?_))
    clear hK10
    refine wp_seq' fun K13 hK13 => ?_
    refine wp_seq' fun K14 hK14 => ?_
    refine wp_reg ?_
    refine ol_r (r_move rfl) rfl ?_
    refine ol_r (r_move rfl) rfl ?_
    refine ol_r (r_lss rfl rfl) rfl ?_
    refine ol_nil (to_k0 (fun _ _ h => h) (hK14 _ _ _ _ _ ?_))
    clear hK14
    refine wp_condD rfl (fun hc16 => ?_) (fun hc16 => ?_)
    ·refine wp_seq' fun K15 hK15 => ?_
     refine wp_reg ?_
     refine ol_r (r_assign rfl) rfl ?_
     refine ol_nil (to_k0 (fun _ _ h => h) (hK15 _ _ _ _ _ ?_))
     clear hK15
     refine hQ.ret (rvs1 (rv_t rfl)) (fun _ _ h => h) fun w hb hs hB hkd => ?_
     first
       | exact ⟨by unfold cmpI; rw [if_pos (by omega)], hb⟩
    ·refine wp_skip' (to_k0 (fun _ _ h => h) (hK13 _ _ _ _ _ ?_))
     clear hK13
     refine wp_seq' fun K16 hK16 => ?_
     refine wp_seq' fun K17 hK17 => ?_
     refine wp_reg ?_
     refine ol_r (r_move rfl) rfl ?_
     refine ol_r (r_move rfl) rfl ?_
     refine ol_r (r_gtr rfl rfl) rfl ?_
     refine ol_nil (to_k0 (fun _ _ h => h) (hK17 _ _ _ _ _ ?_))
     clear hK17
     refine wp_condD rfl (fun hc19 => ?_) (fun hc19 => ?_)
     ·refine wp_seq' fun K18 hK18 => ?_
      refine wp_reg ?_
      refine ol_r (r_assign rfl) rfl ?_
      refine ol_nil (to_k0 (fun _ _ h => h) (hK18 _ _ _ _ _ ?_))
      clear hK18
      refine hQ.ret (rvs1 (rv_t rfl)) (fun _ _ h => h) fun w hb hs hB hkd => ?_
      first
        | exact ⟨by unfold cmpI; rw [if_neg (by omega), if_pos (by omega)], hb⟩
     ·refine wp_skip' (to_k0 (fun _ _ h => h) (hK16 _ _ _ _ _ ?_))
      clear hK16
      refine wp_seq' fun K19 hK19 => ?_
      refine wp_reg ?_
      refine ol_r (r_assign rfl) rfl ?_
      refine ol_nil (to_k0 (fun _ _ h => h) (hK19 _ _ _ _ _ ?_))
      clear hK19
      refine hQ.ret (rvs1 (rv_t rfl)) (fun _ _ h => h) fun w hb hs hB hkd => ?_
      first
        | exact ⟨by unfold cmpI; rw [if_neg (by omega), if_neg (by omega)], hb⟩
theorem smp_cmp (x : SmpR) (t : Int) (w : World) : Calls Try.prog 95 #[encSmp.val x, .int .i64 t] w fun e w' => e = .returned (.int .i64 (cmpI x.at_ t)) ∧ Below w.heap.size w w' := by
  refine enterQ (N := 9) (C := fun _ => True) (H := []) (B := w.heap.size) (args := [_, _]) Try.func95 rfl rfl rfl (Nat.le_refl _) (Sat.nil _ _) fun Q hQ => ?_
  refine wp_seq' fun K1 hK1 => ?_
  refine wp_reg ?_
  refine ol_box 2 rfl rfl rfl fun b2 => ?_
  refine ol_r (r_assign rfl) rfl ?_
  refine ol_nil (to_k0 (fun _ _ h => h) (hK1 _ _ _ _ _ ?_))
  clear hK1
  refine wp_seq' fun K2 hK2 => ?_
  refine wp_reg ?_
  refine ol_r (r_fa (o' := 0) rfl fl28_0 rfl) rfl ?_
  refine ol_r (r_ld (id := 2) rfl rfl rfl sc3) rfl ?_
  refine ol_r (r_move rfl) rfl ?_
  refine ol_call rfl rfl cb78 rfl (fun w1 hb1 hs1 hB1 => Calls.mono (cmp_Comparei _ _ _) ?_)
  rintro e w2 ⟨rfl, hb2⟩
  refine After.below rfl hb1 hs1 hB1 hb2 ?_
  clear hb2 hB1 hs1 hb1 w2 w1
  refine ol_r (r_assign rfl) rfl ?_
  refine ol_nil (to_k0 (fun _ _ h => h) (hK2 _ _ _ _ _ ?_))
  clear hK2
  refine hQ.ret (rvs1 (rv_t rfl)) (fun _ _ h => h) fun w hb hs hB hkd => ?_
  exact ⟨rfl, hb⟩
structure WPlace (xs : List SmpR) (t : Int) (k : Nat) : Prop where
  le : k ≤ xs.length
  low : k = 0 ∨ ∃ y, xs[k - 1]? = some y ∧ y.at_ < t
  high : k = xs.length ∨ ∃ y, xs[k]? = some y ∧ t ≤ y.at_
theorem binarySearch_smp (a : Option Addr) (n cap : Nat) (xs : List SmpR) (t : Int) (w : World) (hl : Rd encSmp w.heap.size w a n cap xs) (hn1 : n ≤ 1000000000000) :
    Calls Try.prog 94 #[.slice a n cap, .int .i64 t, .func (.func 95) #[] #[]] w fun e w' => ∃ (k : Nat) (ok : Bool), WPlace xs t k ∧ (ok = true ↔ ∃ y, xs[k]? = some y ∧ y.at_ = t) ∧ e = .returned (.tuple #[.int .i64 k, .bool ok]) ∧ Below w.heap.size w w' := by
  have hn := hl.len
  have hfit := hl.fit
  subst hn
  refine enterQ (N := 49) (C := fun _ => True) (H := []) (B := w.heap.size) (args := [_, _, _]) Try.func94 rfl rfl rfl (Nat.le_refl _) (Sat.nil _ _) fun Q hQ => ?_
  refine wp_seq' fun K1 hK1 => ?_
  refine wp_reg ?_
  refine ol_r (r_assign rfl) rfl ?_
  refine ol_r (r_assign rfl) rfl ?_
  refine ol_nil (to_k0 (fun _ _ h => h) (hK1 _ _ _ _ _ ?_))
  clear hK1
  refine wp_seq' fun K2 hK2 => ?_
  refine wp_reg ?_
  refine ol_r (r_move rfl) rfl ?_
  refine ol_r (r_len rfl sl22) rfl ?_
  refine ol_r (r_assign rfl) rfl ?_
  refine ol_nil (to_k0 (fun _ _ h => h) (hK2 _ _ _ _ _ ?_))
  clear hK2
  refine wp_seq' fun K3 hK3 => ?_
  refine wp_reg ?_
  refine ol_r (r_move rfl) rfl ?_
  refine ol_r (r_assign rfl) rfl ?_
  refine ol_r (r_assign rfl) rfl ?_
  refine ol_nil (to_k0 (fun _ _ h => h) (hK3 _ _ _ _ _ ?_))
  clear hK3
  refine wp_seq' fun K4 hK4 => ?_
  refine wp_block' ?_
  apply wp_loopM (σ := Int × Int) (fun s => 0 ≤ s.1 ∧ s.1 ≤ s.2 ∧ s.2 ≤ xs.length ∧ (s.1 = 0 ∨ ∃ y, xs[(s.1 - 1).toNat]? = some y ∧ y.at_ < t) ∧ (s.2 = xs.length ∨ ∃ y, xs[s.2.toNat]? = some y ∧ t ≤ y.at_)) (fun s => [(9, .int .i64 s.1), (10, .int .i64 s.2)]) [(0, _), (1, _), (2, _), (6, _), (7, _), (8, _)] (fun s => []) [] (fun s => (s.2 - s.1).toNat) ((0, xs.length))
  ·try dsimp only
   exact ⟨by omega, by omega, by omega, .inl rfl, .inl rfl⟩
  ·exact (sub_cons rfl (sub_cons rfl sub_nil))
  ·exact (sub_cons rfl (sub_cons rfl (sub_cons rfl (sub_cons rfl (sub_cons rfl (sub_cons rfl sub_nil))))))
  ·exact subH_nil
  ·exact subH_nil
  ·rintro ⟨i, j⟩ ⟨h1, h2, h3, h4, h5⟩
   dsimp only at h1 h2 h3 h4 h5 ⊢
   intro K5 hK5
   refine wp_seq' fun K6 hK6 => ?_
   refine wp_seq' fun K7 hK7 => ?_
   refine wp_reg ?_
   refine ol_r (r_move rfl) rfl ?_
   refine ol_r (r_move rfl) rfl ?_
   refine ol_r (r_lss rfl rfl) rfl ?_
   refine ol_nil (to_k0 (fun _ _ h => h) (hK7 _ _ _ _ _ ?_))
   clear hK7
   refine wp_condD rfl (fun hc17 => ?_) (fun hc17 => ?_)
   ·refine wp_skip' (to_k0 (fun _ _ h => h) (hK6 _ _ _ _ _ ?_))
    clear hK6
    refine wp_block' ?_
    refine wp_seq' fun K8 hK8 => ?_
    refine wp_reg ?_
    refine ol_r (r_move rfl) rfl ?_
    refine ol_r (r_move rfl) rfl ?_
    refine ol_r (r_add rfl rfl (by omega)) rfl ?_
    refine ol_r (r_conv (k2 := .u64) rfl (by kernel_rfl) (by kernel_rfl) (wrap_u64 (by omega))) rfl ?_
    refine ol_r (r_shr1 rfl rfl) rfl ?_
    refine ol_r (r_conv (k2 := .i64) rfl (by kernel_rfl) (by kernel_rfl) (IntWalk.i64_in _ (by omega))) rfl ?_
    refine ol_r (r_assign rfl) rfl ?_
    refine ol_nil (to_k0 (fun _ _ h => h) (hK8 _ _ _ _ _ ?_))
    clear hK8
    refine wp_seq' fun K9 hK9 => ?_
    refine wp_reg ?_
    refine ol_r (r_move rfl) rfl ?_
    refine ol_r (r_move rfl) rfl ?_
    refine ol_r (r_move rfl) rfl ?_
    refine ol_ixr hl rfl rfl sl22 (by omega) rfl fun x27 hx27 => ?_
    try simp only [Int.toNat_natCast] at hx27
    refine ol_r (r_ldw rfl (fun w1 hb1 hs1 hB1 => Rd.loads hl ty28 hx27 hb1)) rfl ?_
    refine ol_r (r_move rfl) rfl ?_
    refine ol_call rfl rfl cb95 rfl (fun w1 hb1 hs1 hB1 => Calls.mono (smp_cmp _ _ _) ?_)
    rintro e w2 ⟨rfl, hb2⟩
    refine After.below rfl hb1 hs1 hB1 hb2 ?_
    clear hb2 hB1 hs1 hb1 w2 w1
    refine ol_r (r_lss rfl rfl) rfl ?_
    refine ol_nil (to_k0 (fun _ _ h => h) (hK9 _ _ _ _ _ ?_))
    clear hK9
    refine wp_condD rfl (fun hc31 => ?_) (fun hc31 => ?_)
    ·refine wp_reg ?_
     refine ol_r (r_move rfl) rfl ?_
     refine ol_r (r_add rfl rfl (by omega)) rfl ?_
     refine ol_r (r_assign rfl) rfl ?_
     refine ol_nil (to_k0 (fun _ _ h => h) (hK5 ((_, _)) _ _ ?_ ?_ (sub_cons rfl (sub_cons rfl sub_nil)) (sub_cons rfl (sub_cons rfl (sub_cons rfl (sub_cons rfl (sub_cons rfl (sub_cons rfl sub_nil)))))) (by exact subH_nil) subH_nil))
     ·try dsimp only
      first
        | exact ⟨by omega, by omega, by omega, .inr ⟨_, by rw [Int.add_sub_cancel]; exact hx27, cmpI_lt.1 hc31⟩, h5⟩
     ·try dsimp only
      omega
    ·refine wp_reg ?_
     refine ol_r (r_move rfl) rfl ?_
     refine ol_r (r_assign rfl) rfl ?_
     refine ol_nil (to_k0 (fun _ _ h => h) (hK5 ((_, _)) _ _ ?_ ?_ (sub_cons rfl (sub_cons rfl sub_nil)) (sub_cons rfl (sub_cons rfl (sub_cons rfl (sub_cons rfl (sub_cons rfl (sub_cons rfl sub_nil)))))) (by exact subH_nil) subH_nil))
     ·try dsimp only
      first
        | exact ⟨by omega, by omega, by omega, h4, .inr ⟨_, hx27, Int.not_lt.1 (fun h => hc31 (cmpI_lt.2 h))⟩⟩
     ·try dsimp only
      omega
   ·refine wp_exit' (to_k0 (fun _ _ h => h) (hK4 _ _ _ _ _ ?_))
    clear hK4
    refine wp_seq' fun K10 hK10 => ?_
    refine wp_reg ?_
    have hij : i = j := by omega
    subst hij
    obtain ⟨k, rfl⟩ := Int.eq_ofNat_of_zero_le h1
    have hPl : WPlace xs t k := ⟨by omega, by
        rcases h4 with h | ⟨y, hy, hyt⟩
        · exact .inl (by omega)
        · by_cases hk0 : k = 0
          · exact .inl hk0
          · exact .inr ⟨y, by rw [← hy]; congr 1; omega, hyt⟩, by
        rcases h5 with h | ⟨y, hy, hyt⟩
        · exact .inl (by omega)
        · exact .inr ⟨y, by simpa using hy, hyt⟩⟩
    refine ol_r (r_move rfl) rfl ?_
    refine ol_r (r_move rfl) rfl ?_
    refine ol_r (r_move rfl) rfl ?_
    refine ol_r (r_lss rfl rfl) rfl ?_
    refine ol_r (r_move rfl) rfl ?_
    refine ol_split (d := 39) rfl (fun hs39 => ?_) (fun hs39 => ?_)
    ·have phs39 := hs39; try simp only [decide_eq_true_eq, decide_eq_false_iff_not, Bool.not_eq_true', Bool.not_eq_false', Bool.not_true, Bool.not_false] at phs39
     refine ol_g rfl rfl hs39 ?_
     refine ol_r (r_move rfl) rfl ?_
     refine ol_g rfl rfl hs39 ?_
     refine ol_r (r_move rfl) rfl ?_
     refine ol_g rfl rfl hs39 ?_
     refine ol_r (r_move rfl) rfl ?_
     refine ol_g rfl rfl hs39 ?_
     refine ol_ixr hl rfl rfl sl22 (by omega) rfl fun x43 hx43 => ?_
     try simp only [Int.toNat_natCast] at hx43
     refine ol_g rfl rfl hs39 ?_
     refine ol_r (r_ldw rfl (fun w1 hb1 hs1 hB1 => Rd.loads hl ty28 hx43 hb1)) rfl ?_
     refine ol_g rfl rfl hs39 ?_
     refine ol_r (r_move rfl) rfl ?_
     refine ol_g rfl rfl hs39 ?_
     refine ol_call rfl rfl cb95 rfl (fun w1 hb1 hs1 hB1 => Calls.mono (smp_cmp _ _ _) ?_)
     rintro e w2 ⟨rfl, hb2⟩
     refine After.below rfl hb1 hs1 hB1 hb2 ?_
     clear hb2 hB1 hs1 hb1 w2 w1
     refine ol_g rfl rfl hs39 ?_
     refine ol_r (r_eql rfl rfl) rfl ?_
     refine ol_r (r_pickT rfl hs39 rfl) rfl ?_
     refine ol_r (r_assign rfl) rfl ?_
     refine ol_r (r_assign rfl) rfl ?_
     refine ol_nil (to_k0 (fun _ _ h => h) (hK10 _ _ _ _ _ ?_))
     clear hK10
     refine hQ.ret (rvs2 (rv_t rfl) (rv_t rfl)) (fun _ _ h => h) fun w hb hs hB hkd => ?_
     first
       | exact ⟨k, _, hPl, ⟨fun h => ⟨_, hx43, cmpI_eq.1 (of_decide_eq_true h)⟩, fun ⟨y, hy, hyt⟩ => (by rw [hx43] at hy; cases hy; exact decide_eq_true (cmpI_eq.2 hyt))⟩, rfl, hb⟩
    ·have phs39 := hs39; try simp only [decide_eq_true_eq, decide_eq_false_iff_not, Bool.not_eq_true', Bool.not_eq_false', Bool.not_true, Bool.not_false] at phs39
     refine ol_s rfl rfl hs39 rfl ?_
     refine ol_s rfl rfl hs39 rfl ?_
     refine ol_s rfl rfl hs39 rfl ?_
     refine ol_s rfl rfl hs39 rfl ?_
     refine ol_s rfl rfl hs39 rfl ?_
     refine ol_s rfl rfl hs39 rfl ?_
     refine ol_s rfl rfl hs39 rfl ?_
     refine ol_s rfl rfl hs39 rfl ?_
     refine ol_r (r_pickF rfl hs39 rfl) rfl ?_
     refine ol_r (r_assign rfl) rfl ?_
     refine ol_r (r_assign rfl) rfl ?_
     refine ol_nil (to_k0 (fun _ _ h => h) (hK10 _ _ _ _ _ ?_))
     clear hK10
     refine hQ.ret (rvs2 (rv_t rfl) (rv_t rfl)) (fun _ _ h => h) fun w hb hs hB hkd => ?_
     first
       | exact ⟨k, _, hPl, ⟨fun h => (by cases h), fun ⟨y, hy, _⟩ => (by have := (List.getElem?_eq_some_iff.1 hy).1; omega)⟩, rfl, hb⟩
theorem btw_args {p q n d : Int} (hn : 0 ≤ n) (hd : 1 ≤ d ∧ d ≤ 1000000) (h : n ≤ d) (hp : -100000000 ≤ p ∧ p ≤ 100000000) (hq : -100000000 ≤ q ∧ q ≤ 100000000) :
    (0 ≤ q - p → 0 ≤ (q - p) * n ∧ (q - p) * n ≤ 1000000000000000000) ∧ (q - p < 0 → 0 ≤ -(q - p) * n ∧ -(q - p) * n ≤ 1000000000000000000) ∧ -100000000 ≤ p + nearV (q - p) n d ∧ p + nearV (q - p) n d ≤ 100000000 := by
  have h1 := btw_bd (L := 100000000) hn hd.1 h hp hq
  unfold btw at h1
  refine ⟨fun h2 => ?_, fun h2 => ?_, h1.1, h1.2⟩
  · have := mul_bd (a := q - p) (b := n) h2 (show _ ≤ 200000000 by omega) hn (show _ ≤ 1000000 by omega)
    omega
  · have := mul_bd (a := -(q - p)) (b := n) (by omega) (show _ ≤ 200000000 by omega) hn (show _ ≤ 1000000 by omega)
    omega
theorem track_between (p q n d : Int) (w : World) (hn : 0 ≤ n) (hd : 1 ≤ d ∧ d ≤ 1000000) (h : n ≤ d) (hp : -100000000 ≤ p ∧ p ≤ 100000000) (hq : -100000000 ≤ q ∧ q ≤ 100000000) :
    Calls Try.prog 121 #[.int .i64 p, .int .i64 q, .int .i64 n, .int .i64 d] w fun e w' => e = .returned (.int .i64 (btw p q n d)) ∧ Below w.heap.size w w' := by
  obtain ⟨b1, b2, b3, b4⟩ := btw_args hn hd h hp hq
  refine enterQ (N := 23) (C := fun _ => True) (H := []) (B := w.heap.size) (args := [_, _, _, _]) Try.func121 rfl rfl rfl (Nat.le_refl _) (Sat.nil _ _) fun Q hQ => ?_
  refine wp_seq' fun K1 hK1 => ?_
  refine wp_reg ?_
  refine ol_r (r_assign rfl) rfl ?_
  refine ol_nil (to_k0 (fun _ _ h => h) (hK1 _ _ _ _ _ ?_))
  clear hK1
  refine wp_seq' fun K2 hK2 => ?_
  refine wp_reg ?_
  refine ol_r (r_move rfl) rfl ?_
  refine ol_r (r_move rfl) rfl ?_
  refine ol_r (r_sub rfl rfl (by omega)) rfl ?_
  refine ol_r (r_move rfl) rfl ?_
  refine ol_r (r_move rfl) rfl ?_
  refine ol_call rfl rfl cb159 rfl (fun w1 hb1 hs1 hB1 => Calls.mono (quant_ScaleNear (q - p) n d _ (by omega) (by omega) (by omega) b1 b2) ?_)
  rintro e w2 ⟨rfl, hb2⟩
  refine After.below rfl hb1 hs1 hB1 hb2 ?_
  clear hb2 hB1 hs1 hb1 w2 w1
  refine ol_r (r_move rfl) rfl ?_
  refine ol_r (r_extract rfl rfl) rfl ?_
  refine ol_r (r_extract rfl rfl) rfl ?_
  refine ol_r (r_assign rfl) rfl ?_
  refine ol_r (r_assign rfl) rfl ?_
  refine ol_nil (to_k0 (fun _ _ h => h) (hK2 _ _ _ _ _ ?_))
  clear hK2
  refine wp_seq' fun K3 hK3 => ?_
  refine wp_reg ?_
  refine ol_r (r_move rfl) rfl ?_
  refine ol_r (r_move rfl) rfl ?_
  refine ol_r (r_add rfl rfl (by omega)) rfl ?_
  refine ol_r (r_assign rfl) rfl ?_
  refine ol_nil (to_k0 (fun _ _ h => h) (hK3 _ _ _ _ _ ?_))
  clear hK3
  refine hQ.ret (rvs1 (rv_t rfl)) (fun _ _ h => h) fun w hb hs hB hkd => ?_
  exact ⟨rfl, hb⟩
theorem ref3_between (p q n d : Int) (w : World) (hn : 0 ≤ n) (hd : 1 ≤ d ∧ d ≤ 1000000) (h : n ≤ d) (hp : -100000000 ≤ p ∧ p ≤ 100000000) (hq : -100000000 ≤ q ∧ q ≤ 100000000) :
    Calls Try.prog 88 #[.int .i64 p, .int .i64 q, .int .i64 n, .int .i64 d] w fun e w' => e = .returned (.int .i64 (btw p q n d)) ∧ Below w.heap.size w w' := by
  obtain ⟨b1, b2, b3, b4⟩ := btw_args hn hd h hp hq
  refine enterQ (N := 23) (C := fun _ => True) (H := []) (B := w.heap.size) (args := [_, _, _, _]) Try.func88 rfl rfl rfl (Nat.le_refl _) (Sat.nil _ _) fun Q hQ => ?_
  refine wp_seq' fun K1 hK1 => ?_
  refine wp_reg ?_
  refine ol_r (r_assign rfl) rfl ?_
  refine ol_nil (to_k0 (fun _ _ h => h) (hK1 _ _ _ _ _ ?_))
  clear hK1
  refine wp_seq' fun K2 hK2 => ?_
  refine wp_reg ?_
  refine ol_r (r_move rfl) rfl ?_
  refine ol_r (r_move rfl) rfl ?_
  refine ol_r (r_sub rfl rfl (by omega)) rfl ?_
  refine ol_r (r_move rfl) rfl ?_
  refine ol_r (r_move rfl) rfl ?_
  refine ol_call rfl rfl cb122 rfl (fun w1 hb1 hs1 hB1 => Calls.mono (ref1_ScaleNear (q - p) n d _ (by omega) (by omega) (by omega) b1 b2) ?_)
  rintro e w2 ⟨rfl, hb2⟩
  refine After.below rfl hb1 hs1 hB1 hb2 ?_
  clear hb2 hB1 hs1 hb1 w2 w1
  refine ol_r (r_move rfl) rfl ?_
  refine ol_r (r_extract rfl rfl) rfl ?_
  refine ol_r (r_extract rfl rfl) rfl ?_
  refine ol_r (r_assign rfl) rfl ?_
  refine ol_r (r_assign rfl) rfl ?_
  refine ol_nil (to_k0 (fun _ _ h => h) (hK2 _ _ _ _ _ ?_))
  clear hK2
  refine wp_seq' fun K3 hK3 => ?_
  refine wp_reg ?_
  refine ol_r (r_move rfl) rfl ?_
  refine ol_r (r_move rfl) rfl ?_
  refine ol_r (r_add rfl rfl (by omega)) rfl ?_
  refine ol_r (r_assign rfl) rfl ?_
  refine ol_nil (to_k0 (fun _ _ h => h) (hK3 _ _ _ _ _ ?_))
  clear hK3
  refine hQ.ret (rvs1 (rv_t rfl)) (fun _ _ h => h) fun w hb hs hB hkd => ?_
  exact ⟨rfl, hb⟩
/-- Two samples of which one is before the other, in their ranges. -/
structure PairOk (p q : SmpR) (t : Int) : Prop where
  lo : 0 ≤ p.at_ ∧ p.at_ ≤ t ∧ t ≤ q.at_ ∧ p.at_ < q.at_ ∧ q.at_ ≤ 1000000
  px : -100000000 ≤ p.x ∧ p.x ≤ 100000000
  py : -100000000 ≤ p.y ∧ p.y ≤ 100000000
  pz : -100000000 ≤ p.z ∧ p.z ≤ 100000000
  qx : -100000000 ≤ q.x ∧ q.x ≤ 100000000
  qy : -100000000 ≤ q.y ∧ q.y ≤ 100000000
  qz : -100000000 ≤ q.z ∧ q.z ≤ 100000000
theorem pairOk {st : Int} {ss : List SmpR} (h : SmpOk st ss) {i j : Nat} {p q : SmpR} {t : Int} (hp : ss[i]? = some p) (hq : ss[j]? = some q) (hpt : p.at_ ≤ t) (htq : t ≤ q.at_) (hlt : p.at_ < q.at_) : PairOk p q t := by
  have h1 := h.bd p (List.mem_of_getElem? hp)
  have h2 := h.bd q (List.mem_of_getElem? hq)
  exact ⟨by omega, h1.2.2.2.1, h1.2.2.2.2.1, by omega, h2.2.2.2.1, h2.2.2.2.2.1, by omega⟩
theorem track_amid (p q : SmpR) (t : Int) (w : World) (h : PairOk p q t) : Calls Try.prog 96 #[.agg #[.int .i64 p.at_, .int .i64 p.x, .int .i64 p.y, .int .i64 p.z, .int .i64 p.pulse, .int .i64 p.power, .int .i64 p.steps], .agg #[.int .i64 q.at_, .int .i64 q.x, .int .i64 q.y, .int .i64 q.z, .int .i64 q.pulse, .int .i64 q.power, .int .i64 q.steps], .int .i64 t] w fun e w' => e = .returned (encSmp.val (amidV p q t)) ∧ Below w.heap.size w w' := by
  have h0 := h.lo
  refine enterQ (N := 47) (C := fun _ => True) (H := []) (B := w.heap.size) (args := [_, _, _]) Try.func96 rfl rfl rfl (Nat.le_refl _) (Sat.nil _ _) fun Q hQ => ?_
  refine wp_seq' fun K1 hK1 => ?_
  refine wp_reg ?_
  refine ol_box 3 rfl rfl rfl fun b3 => ?_
  refine ol_box 4 rfl rfl rfl fun b4 => ?_
  refine ol_alloc 6 z28 rfl fun b6 => ?_
  refine ol_nil (to_k0 (fun _ _ h => h) (hK1 _ _ _ _ _ ?_))
  clear hK1
  refine wp_seq' fun K2 hK2 => ?_
  refine wp_regq (by kernel_rfl) (by kernel_rfl) ?_
  refine ql_r (r_move rfl) rfl ?_
  refine ql_r (r_fa (o' := 0) rfl fl28_0 rfl) rfl ?_
  refine ql_r (r_ld (id := 3) rfl rfl rfl sc3) rfl ?_
  refine ql_r (r_sub rfl rfl (by omega)) rfl ?_
  refine ql_r (r_fa (o' := 0) rfl fl28_0 rfl) rfl ?_
  refine ql_r (r_ld (id := 4) rfl rfl rfl sc3) rfl ?_
  refine ql_r (r_fa (o' := 0) rfl fl28_0 rfl) rfl ?_
  refine ql_r (r_ld (id := 3) rfl rfl rfl sc3) rfl ?_
  refine ql_r (r_sub rfl rfl (by omega)) rfl ?_
  refine ql_r (r_assign rfl) rfl ?_
  refine ql_r (r_assign rfl) rfl ?_
  refine ql_nil (to_k0 (fun _ _ h => h) (hK2 _ _ _ _ _ ?_))
  clear hK2
  refine wp_seq' fun K3 hK3 => ?_
  refine wp_reg ?_
  refine ol_r (r_lda (id := 3) (n := 7) rfl rfl rfl ag28) rfl ?_
  refine ol_alloc 9 z28 rfl fun b9 => ?_
  refine ol_store (id := 9) rfl rfl rfl rfl sz28 rfl rfl (by first | decide | exact Nat.zero_lt_succ _ | simp) ?_
  refine ol_nil (to_k0 (fun _ _ h => h) (hK3 _ _ _ _ _ ?_))
  clear hK3
  refine wp_seq' fun K4 hK4 => ?_
  refine wp_rega [(999, [(3, _), (4, _), (6, _)]), (23, [(9, _)])] (by kernel_rfl) ⟨.inr (subH_same rfl (subH_same rfl (subH_same rfl subH_nil))), ⟨.inr (subH_same rfl subH_nil), trivial⟩⟩ ?_
  refine aq_r 0 999 rfl (by kernel_rfl) (by kernel_rfl) (by kernel_rfl) (.head _) (by kernel_rfl) (by kernel_rfl) rfl (r_move rfl) ?_
  refine aq_r 1 999 rfl (by kernel_rfl) (by kernel_rfl) (by kernel_rfl) (.head _) (by kernel_rfl) (by kernel_rfl) rfl (r_fa (o' := 1) rfl fl28_1 rfl) ?_
  refine aq_r 2 999 rfl (by kernel_rfl) (by kernel_rfl) (by kernel_rfl) (.head _) (by kernel_rfl) (by kernel_rfl) rfl (r_ld (id := 3) rfl rfl rfl sc3) ?_
  refine aq_r 3 999 rfl (by kernel_rfl) (by kernel_rfl) (by kernel_rfl) (.head _) (by kernel_rfl) (by kernel_rfl) rfl (r_fa (o' := 1) rfl fl28_1 rfl) ?_
  refine aq_r 4 999 rfl (by kernel_rfl) (by kernel_rfl) (by kernel_rfl) (.head _) (by kernel_rfl) (by kernel_rfl) rfl (r_ld (id := 4) rfl rfl rfl sc3) ?_
  refine aq_r 5 999 rfl (by kernel_rfl) (by kernel_rfl) (by kernel_rfl) (.head _) (by kernel_rfl) (by kernel_rfl) rfl (r_move rfl) ?_
  refine aq_r 6 999 rfl (by kernel_rfl) (by kernel_rfl) (by kernel_rfl) (.head _) (by kernel_rfl) (by kernel_rfl) rfl (r_move rfl) ?_
  refine aq_r 8 999 rfl (by kernel_rfl) (by kernel_rfl) (by kernel_rfl) (.head _) (by kernel_rfl) (by kernel_rfl) rfl (r_fa (o' := 2) rfl fl28_2 rfl) ?_
  refine aq_r 9 999 rfl (by kernel_rfl) (by kernel_rfl) (by kernel_rfl) (.head _) (by kernel_rfl) (by kernel_rfl) rfl (r_ld (id := 3) rfl rfl rfl sc3) ?_
  refine aq_r 10 999 rfl (by kernel_rfl) (by kernel_rfl) (by kernel_rfl) (.head _) (by kernel_rfl) (by kernel_rfl) rfl (r_fa (o' := 2) rfl fl28_2 rfl) ?_
  refine aq_r 11 999 rfl (by kernel_rfl) (by kernel_rfl) (by kernel_rfl) (.head _) (by kernel_rfl) (by kernel_rfl) rfl (r_ld (id := 4) rfl rfl rfl sc3) ?_
  refine aq_r 12 999 rfl (by kernel_rfl) (by kernel_rfl) (by kernel_rfl) (.head _) (by kernel_rfl) (by kernel_rfl) rfl (r_move rfl) ?_
  refine aq_r 13 999 rfl (by kernel_rfl) (by kernel_rfl) (by kernel_rfl) (.head _) (by kernel_rfl) (by kernel_rfl) rfl (r_move rfl) ?_
  refine aq_r 15 999 rfl (by kernel_rfl) (by kernel_rfl) (by kernel_rfl) (.head _) (by kernel_rfl) (by kernel_rfl) rfl (r_fa (o' := 3) rfl fl28_3 rfl) ?_
  refine aq_r 16 999 rfl (by kernel_rfl) (by kernel_rfl) (by kernel_rfl) (.head _) (by kernel_rfl) (by kernel_rfl) rfl (r_ld (id := 3) rfl rfl rfl sc3) ?_
  refine aq_r 17 999 rfl (by kernel_rfl) (by kernel_rfl) (by kernel_rfl) (.head _) (by kernel_rfl) (by kernel_rfl) rfl (r_fa (o' := 3) rfl fl28_3 rfl) ?_
  refine aq_r 18 999 rfl (by kernel_rfl) (by kernel_rfl) (by kernel_rfl) (.head _) (by kernel_rfl) (by kernel_rfl) rfl (r_ld (id := 4) rfl rfl rfl sc3) ?_
  refine aq_r 19 999 rfl (by kernel_rfl) (by kernel_rfl) (by kernel_rfl) (.head _) (by kernel_rfl) (by kernel_rfl) rfl (r_move rfl) ?_
  refine aq_r 20 999 rfl (by kernel_rfl) (by kernel_rfl) (by kernel_rfl) (.head _) (by kernel_rfl) (by kernel_rfl) rfl (r_move rfl) ?_
  refine aq_r 22 999 rfl (by kernel_rfl) (by kernel_rfl) (by kernel_rfl) (.head _) (by kernel_rfl) (by kernel_rfl) rfl (r_fa (o' := 0) rfl fl28_0 rfl) ?_
  refine aq_one (i := 7) (by kernel_rfl) rfl fun K5 hK5 => ?_
  refine ol_call rfl rfl cb121 rfl (fun w1 hb1 hs1 hB1 => Calls.mono (track_between p.x q.x _ _ _ (by omega) (by omega) (by omega) h.px h.qx) ?_)
  rintro e w2 ⟨rfl, hb2⟩
  refine After.below rfl hb1 hs1 hB1 hb2 ?_
  clear hb2 hB1 hs1 hb1 w2 w1
  refine ol_nil (to_k0 (fun _ _ h => h) (hK5 _ _ ⟨.inr (by repeat' first | exact subH_nil | refine subH_same rfl ?_ | (refine subH_blk rfl (by repeat' first | exact sub_nil | refine sub_cons rfl ?_) ?_)), ⟨.inr (by repeat' first | exact subH_nil | refine subH_same rfl ?_ | (refine subH_blk rfl (by repeat' first | exact sub_nil | refine sub_cons rfl ?_) ?_)), trivial⟩⟩ ?_))
  clear hK5
  refine aq_one (i := 14) (by kernel_rfl) rfl fun K6 hK6 => ?_
  refine ol_call rfl rfl cb121 rfl (fun w1 hb1 hs1 hB1 => Calls.mono (track_between p.y q.y _ _ _ (by omega) (by omega) (by omega) h.py h.qy) ?_)
  rintro e w2 ⟨rfl, hb2⟩
  refine After.below rfl hb1 hs1 hB1 hb2 ?_
  clear hb2 hB1 hs1 hb1 w2 w1
  refine ol_nil (to_k0 (fun _ _ h => h) (hK6 _ _ ⟨.inr (by repeat' first | exact subH_nil | refine subH_same rfl ?_ | (refine subH_blk rfl (by repeat' first | exact sub_nil | refine sub_cons rfl ?_) ?_)), ⟨.inr (by repeat' first | exact subH_nil | refine subH_same rfl ?_ | (refine subH_blk rfl (by repeat' first | exact sub_nil | refine sub_cons rfl ?_) ?_)), trivial⟩⟩ ?_))
  clear hK6
  refine aq_one (i := 21) (by kernel_rfl) rfl fun K7 hK7 => ?_
  refine ol_call rfl rfl cb121 rfl (fun w1 hb1 hs1 hB1 => Calls.mono (track_between p.z q.z _ _ _ (by omega) (by omega) (by omega) h.pz h.qz) ?_)
  rintro e w2 ⟨rfl, hb2⟩
  refine After.below rfl hb1 hs1 hB1 hb2 ?_
  clear hb2 hB1 hs1 hb1 w2 w1
  refine ol_nil (to_k0 (fun _ _ h => h) (hK7 _ _ ⟨.inr (by repeat' first | exact subH_nil | refine subH_same rfl ?_ | (refine subH_blk rfl (by repeat' first | exact sub_nil | refine sub_cons rfl ?_) ?_)), ⟨.inr (by repeat' first | exact subH_nil | refine subH_same rfl ?_ | (refine subH_blk rfl (by repeat' first | exact sub_nil | refine sub_cons rfl ?_) ?_)), trivial⟩⟩ ?_))
  clear hK7
  refine aq_one (i := 23) (by kernel_rfl) rfl fun K8 hK8 => ?_
  refine ol_store (id := 9) rfl rfl rfl rfl sz3 rfl rfl (by first | decide | exact Nat.zero_lt_succ _ | simp) ?_
  refine ol_nil (to_k0 (fun _ _ h => h) (hK8 _ _ ⟨.inr (by repeat' first | exact subH_nil | refine subH_same rfl ?_ | (refine subH_blk rfl (by repeat' first | exact sub_nil | refine sub_cons rfl ?_) ?_)), ⟨.inl (by kernel_rfl), trivial⟩⟩ ?_))
  clear hK8
  refine aq_r 24 999 rfl (by kernel_rfl) (by kernel_rfl) (by kernel_rfl) (.head _) (by kernel_rfl) (by kernel_rfl) rfl (r_fa (o' := 1) rfl fl28_1 rfl) ?_
  refine aq_one (i := 25) (by kernel_rfl) rfl fun K9 hK9 => ?_
  refine ol_store (id := 9) rfl rfl rfl rfl sz3 rfl rfl (by first | decide | exact Nat.zero_lt_succ _ | simp) ?_
  refine ol_nil (to_k0 (fun _ _ h => h) (hK9 _ _ ⟨.inr (by repeat' first | exact subH_nil | refine subH_same rfl ?_ | (refine subH_blk rfl (by repeat' first | exact sub_nil | refine sub_cons rfl ?_) ?_)), ⟨.inl (by kernel_rfl), trivial⟩⟩ ?_))
  clear hK9
  refine aq_r 26 999 rfl (by kernel_rfl) (by kernel_rfl) (by kernel_rfl) (.head _) (by kernel_rfl) (by kernel_rfl) rfl (r_fa (o' := 2) rfl fl28_2 rfl) ?_
  refine aq_one (i := 27) (by kernel_rfl) rfl fun K10 hK10 => ?_
  refine ol_store (id := 9) rfl rfl rfl rfl sz3 rfl rfl (by first | decide | exact Nat.zero_lt_succ _ | simp) ?_
  refine ol_nil (to_k0 (fun _ _ h => h) (hK10 _ _ ⟨.inr (by repeat' first | exact subH_nil | refine subH_same rfl ?_ | (refine subH_blk rfl (by repeat' first | exact sub_nil | refine sub_cons rfl ?_) ?_)), ⟨.inl (by kernel_rfl), trivial⟩⟩ ?_))
  clear hK10
  refine aq_r 28 999 rfl (by kernel_rfl) (by kernel_rfl) (by kernel_rfl) (.head _) (by kernel_rfl) (by kernel_rfl) rfl (r_fa (o' := 3) rfl fl28_3 rfl) ?_
  refine aq_one (i := 29) (by kernel_rfl) rfl fun K11 hK11 => ?_
  refine ol_store (id := 9) rfl rfl rfl rfl sz3 rfl rfl (by first | decide | exact Nat.zero_lt_succ _ | simp) ?_
  refine ol_nil (to_k0 (fun _ _ h => h) (hK11 _ _ ⟨.inr (by repeat' first | exact subH_nil | refine subH_same rfl ?_ | (refine subH_blk rfl (by repeat' first | exact sub_nil | refine sub_cons rfl ?_) ?_)), ⟨.inl (by kernel_rfl), trivial⟩⟩ ?_))
  clear hK11
  refine aq_done (by kernel_rfl) ?_
  refine (to_k0 (fun _ _ h => h) (hK4 _ _ _ _ _ ?_))
  clear hK4
  refine wp_seq' fun K12 hK12 => ?_
  refine wp_reg ?_
  refine ol_r (r_lda (id := 9) (n := 7) rfl rfl rfl ag28) rfl ?_
  refine ol_store (id := 6) rfl rfl rfl rfl sz28 rfl rfl (by first | decide | exact Nat.zero_lt_succ _ | simp) ?_
  refine ol_nil (to_k0 (fun _ _ h => h) (hK12 _ _ _ _ _ ?_))
  clear hK12
  refine hQ.ret (rvs1 (rv_c (id := 6) (n := 7) rfl rfl ag28 rfl)) (fun _ _ h => h) fun w hb hs hB hkd => ?_
  exact ⟨rfl, hb⟩
theorem ref3_at (p q : SmpR) (t : Int) (w : World) (h : PairOk p q t) : Calls Try.prog 101 #[.agg #[.int .i64 p.at_, .int .i64 p.x, .int .i64 p.y, .int .i64 p.z, .int .i64 p.pulse, .int .i64 p.power, .int .i64 p.steps], .agg #[.int .i64 q.at_, .int .i64 q.x, .int .i64 q.y, .int .i64 q.z, .int .i64 q.pulse, .int .i64 q.power, .int .i64 q.steps], .int .i64 t] w fun e w' => e = .returned (encSmp.val (amidV p q t)) ∧ Below w.heap.size w w' := by
  have h0 := h.lo
  refine enterQ (N := 47) (C := fun _ => True) (H := []) (B := w.heap.size) (args := [_, _, _]) Try.func101 rfl rfl rfl (Nat.le_refl _) (Sat.nil _ _) fun Q hQ => ?_
  refine wp_seq' fun K1 hK1 => ?_
  refine wp_reg ?_
  refine ol_box 3 rfl rfl rfl fun b3 => ?_
  refine ol_box 4 rfl rfl rfl fun b4 => ?_
  refine ol_alloc 6 z28 rfl fun b6 => ?_
  refine ol_nil (to_k0 (fun _ _ h => h) (hK1 _ _ _ _ _ ?_))
  clear hK1
  refine wp_seq' fun K2 hK2 => ?_
  refine wp_regq (by kernel_rfl) (by kernel_rfl) ?_
  refine ql_r (r_move rfl) rfl ?_
  refine ql_r (r_fa (o' := 0) rfl fl28_0 rfl) rfl ?_
  refine ql_r (r_ld (id := 3) rfl rfl rfl sc3) rfl ?_
  refine ql_r (r_sub rfl rfl (by omega)) rfl ?_
  refine ql_r (r_fa (o' := 0) rfl fl28_0 rfl) rfl ?_
  refine ql_r (r_ld (id := 4) rfl rfl rfl sc3) rfl ?_
  refine ql_r (r_fa (o' := 0) rfl fl28_0 rfl) rfl ?_
  refine ql_r (r_ld (id := 3) rfl rfl rfl sc3) rfl ?_
  refine ql_r (r_sub rfl rfl (by omega)) rfl ?_
  refine ql_r (r_assign rfl) rfl ?_
  refine ql_r (r_assign rfl) rfl ?_
  refine ql_nil (to_k0 (fun _ _ h => h) (hK2 _ _ _ _ _ ?_))
  clear hK2
  refine wp_seq' fun K3 hK3 => ?_
  refine wp_rega [(999, [(3, _), (4, _)]), (29, [(6, _)])] (by kernel_rfl) ⟨.inr (subH_same rfl (subH_same rfl subH_nil)), ⟨.inr (subH_same rfl subH_nil), trivial⟩⟩ ?_
  refine aq_r 0 999 rfl (by kernel_rfl) (by kernel_rfl) (by kernel_rfl) (.head _) (by kernel_rfl) (by kernel_rfl) rfl (r_move rfl) ?_
  refine aq_r 1 999 rfl (by kernel_rfl) (by kernel_rfl) (by kernel_rfl) (.head _) (by kernel_rfl) (by kernel_rfl) rfl (r_fa (o' := 1) rfl fl28_1 rfl) ?_
  refine aq_r 2 999 rfl (by kernel_rfl) (by kernel_rfl) (by kernel_rfl) (.head _) (by kernel_rfl) (by kernel_rfl) rfl (r_ld (id := 3) rfl rfl rfl sc3) ?_
  refine aq_r 3 999 rfl (by kernel_rfl) (by kernel_rfl) (by kernel_rfl) (.head _) (by kernel_rfl) (by kernel_rfl) rfl (r_fa (o' := 1) rfl fl28_1 rfl) ?_
  refine aq_r 4 999 rfl (by kernel_rfl) (by kernel_rfl) (by kernel_rfl) (.head _) (by kernel_rfl) (by kernel_rfl) rfl (r_ld (id := 4) rfl rfl rfl sc3) ?_
  refine aq_r 5 999 rfl (by kernel_rfl) (by kernel_rfl) (by kernel_rfl) (.head _) (by kernel_rfl) (by kernel_rfl) rfl (r_move rfl) ?_
  refine aq_r 6 999 rfl (by kernel_rfl) (by kernel_rfl) (by kernel_rfl) (.head _) (by kernel_rfl) (by kernel_rfl) rfl (r_move rfl) ?_
  refine aq_r 8 999 rfl (by kernel_rfl) (by kernel_rfl) (by kernel_rfl) (.head _) (by kernel_rfl) (by kernel_rfl) rfl (r_fa (o' := 2) rfl fl28_2 rfl) ?_
  refine aq_r 9 999 rfl (by kernel_rfl) (by kernel_rfl) (by kernel_rfl) (.head _) (by kernel_rfl) (by kernel_rfl) rfl (r_ld (id := 3) rfl rfl rfl sc3) ?_
  refine aq_r 10 999 rfl (by kernel_rfl) (by kernel_rfl) (by kernel_rfl) (.head _) (by kernel_rfl) (by kernel_rfl) rfl (r_fa (o' := 2) rfl fl28_2 rfl) ?_
  refine aq_r 11 999 rfl (by kernel_rfl) (by kernel_rfl) (by kernel_rfl) (.head _) (by kernel_rfl) (by kernel_rfl) rfl (r_ld (id := 4) rfl rfl rfl sc3) ?_
  refine aq_r 12 999 rfl (by kernel_rfl) (by kernel_rfl) (by kernel_rfl) (.head _) (by kernel_rfl) (by kernel_rfl) rfl (r_move rfl) ?_
  refine aq_r 13 999 rfl (by kernel_rfl) (by kernel_rfl) (by kernel_rfl) (.head _) (by kernel_rfl) (by kernel_rfl) rfl (r_move rfl) ?_
  refine aq_r 15 999 rfl (by kernel_rfl) (by kernel_rfl) (by kernel_rfl) (.head _) (by kernel_rfl) (by kernel_rfl) rfl (r_fa (o' := 3) rfl fl28_3 rfl) ?_
  refine aq_r 16 999 rfl (by kernel_rfl) (by kernel_rfl) (by kernel_rfl) (.head _) (by kernel_rfl) (by kernel_rfl) rfl (r_ld (id := 3) rfl rfl rfl sc3) ?_
  refine aq_r 17 999 rfl (by kernel_rfl) (by kernel_rfl) (by kernel_rfl) (.head _) (by kernel_rfl) (by kernel_rfl) rfl (r_fa (o' := 3) rfl fl28_3 rfl) ?_
  refine aq_r 18 999 rfl (by kernel_rfl) (by kernel_rfl) (by kernel_rfl) (.head _) (by kernel_rfl) (by kernel_rfl) rfl (r_ld (id := 4) rfl rfl rfl sc3) ?_
  refine aq_r 19 999 rfl (by kernel_rfl) (by kernel_rfl) (by kernel_rfl) (.head _) (by kernel_rfl) (by kernel_rfl) rfl (r_move rfl) ?_
  refine aq_r 20 999 rfl (by kernel_rfl) (by kernel_rfl) (by kernel_rfl) (.head _) (by kernel_rfl) (by kernel_rfl) rfl (r_move rfl) ?_
  refine aq_r 22 999 rfl (by kernel_rfl) (by kernel_rfl) (by kernel_rfl) (.head _) (by kernel_rfl) (by kernel_rfl) rfl (r_fa (o' := 4) rfl fl28_4 rfl) ?_
  refine aq_r 23 999 rfl (by kernel_rfl) (by kernel_rfl) (by kernel_rfl) (.head _) (by kernel_rfl) (by kernel_rfl) rfl (r_ld (id := 3) rfl rfl rfl sc3) ?_
  refine aq_r 24 999 rfl (by kernel_rfl) (by kernel_rfl) (by kernel_rfl) (.head _) (by kernel_rfl) (by kernel_rfl) rfl (r_fa (o' := 5) rfl fl28_5 rfl) ?_
  refine aq_r 25 999 rfl (by kernel_rfl) (by kernel_rfl) (by kernel_rfl) (.head _) (by kernel_rfl) (by kernel_rfl) rfl (r_ld (id := 3) rfl rfl rfl sc3) ?_
  refine aq_r 26 999 rfl (by kernel_rfl) (by kernel_rfl) (by kernel_rfl) (.head _) (by kernel_rfl) (by kernel_rfl) rfl (r_fa (o' := 6) rfl fl28_6 rfl) ?_
  refine aq_r 27 999 rfl (by kernel_rfl) (by kernel_rfl) (by kernel_rfl) (.head _) (by kernel_rfl) (by kernel_rfl) rfl (r_ld (id := 3) rfl rfl rfl sc3) ?_
  refine aq_one (i := 7) (by kernel_rfl) rfl fun K4 hK4 => ?_
  refine ol_call rfl rfl cb88 rfl (fun w1 hb1 hs1 hB1 => Calls.mono (ref3_between p.x q.x _ _ _ (by omega) (by omega) (by omega) h.px h.qx) ?_)
  rintro e w2 ⟨rfl, hb2⟩
  refine After.below rfl hb1 hs1 hB1 hb2 ?_
  clear hb2 hB1 hs1 hb1 w2 w1
  refine ol_nil (to_k0 (fun _ _ h => h) (hK4 _ _ ⟨.inr (by repeat' first | exact subH_nil | refine subH_same rfl ?_ | (refine subH_blk rfl (by repeat' first | exact sub_nil | refine sub_cons rfl ?_) ?_)), ⟨.inr (by repeat' first | exact subH_nil | refine subH_same rfl ?_ | (refine subH_blk rfl (by repeat' first | exact sub_nil | refine sub_cons rfl ?_) ?_)), trivial⟩⟩ ?_))
  clear hK4
  refine aq_one (i := 14) (by kernel_rfl) rfl fun K5 hK5 => ?_
  refine ol_call rfl rfl cb88 rfl (fun w1 hb1 hs1 hB1 => Calls.mono (ref3_between p.y q.y _ _ _ (by omega) (by omega) (by omega) h.py h.qy) ?_)
  rintro e w2 ⟨rfl, hb2⟩
  refine After.below rfl hb1 hs1 hB1 hb2 ?_
  clear hb2 hB1 hs1 hb1 w2 w1
  refine ol_nil (to_k0 (fun _ _ h => h) (hK5 _ _ ⟨.inr (by repeat' first | exact subH_nil | refine subH_same rfl ?_ | (refine subH_blk rfl (by repeat' first | exact sub_nil | refine sub_cons rfl ?_) ?_)), ⟨.inr (by repeat' first | exact subH_nil | refine subH_same rfl ?_ | (refine subH_blk rfl (by repeat' first | exact sub_nil | refine sub_cons rfl ?_) ?_)), trivial⟩⟩ ?_))
  clear hK5
  refine aq_one (i := 21) (by kernel_rfl) rfl fun K6 hK6 => ?_
  refine ol_call rfl rfl cb88 rfl (fun w1 hb1 hs1 hB1 => Calls.mono (ref3_between p.z q.z _ _ _ (by omega) (by omega) (by omega) h.pz h.qz) ?_)
  rintro e w2 ⟨rfl, hb2⟩
  refine After.below rfl hb1 hs1 hB1 hb2 ?_
  clear hb2 hB1 hs1 hb1 w2 w1
  refine ol_nil (to_k0 (fun _ _ h => h) (hK6 _ _ ⟨.inr (by repeat' first | exact subH_nil | refine subH_same rfl ?_ | (refine subH_blk rfl (by repeat' first | exact sub_nil | refine sub_cons rfl ?_) ?_)), ⟨.inr (by repeat' first | exact subH_nil | refine subH_same rfl ?_ | (refine subH_blk rfl (by repeat' first | exact sub_nil | refine sub_cons rfl ?_) ?_)), trivial⟩⟩ ?_))
  clear hK6
  refine aq_r 28 999 rfl (by kernel_rfl) (by kernel_rfl) (by kernel_rfl) (.head _) (by kernel_rfl) (by kernel_rfl) rfl (r_build rfl (fun _ => bd28_0_1_2_3_4_5_6 _ _ _ _ _ _ _ _)) ?_
  refine aq_one (i := 29) (by kernel_rfl) rfl fun K7 hK7 => ?_
  refine ol_store (id := 6) rfl rfl rfl rfl sz28 rfl rfl (by first | decide | exact Nat.zero_lt_succ _ | simp) ?_
  refine ol_nil (to_k0 (fun _ _ h => h) (hK7 _ _ ⟨.inr (by repeat' first | exact subH_nil | refine subH_same rfl ?_ | (refine subH_blk rfl (by repeat' first | exact sub_nil | refine sub_cons rfl ?_) ?_)), ⟨.inl (by kernel_rfl), trivial⟩⟩ ?_))
  clear hK7
  refine aq_done (by kernel_rfl) ?_
  refine (to_k0 (fun _ _ h => h) (hK3 _ _ _ _ _ ?_))
  clear hK3
  refine hQ.ret (rvs1 (rv_c (id := 6) (n := 7) rfl rfl ag28 rfl)) (fun _ _ h => h) fun w hb hs hB hkd => ?_
  exact ⟨rfl, hb⟩
theorem place_in {st : Int} {ss : List SmpR} (hok : SmpOk st ss) {t : Int} {k : Nat} (ht : 0 ≤ t ∧ t ≤ spanL ss) (hPl : WPlace ss t k) (hnf : ¬∃ y, ss[k]? = some y ∧ y.at_ = t) (hn : 0 < ss.length) :
    0 < k ∧ k < ss.length ∧ ∀ p q, ss[((k : Int) - 1).toNat]? = some p → ss[k]? = some q → ss[k - 1]? = some p ∧ p.at_ < t ∧ t < q.at_ := by
  have hkn : k < ss.length := by
    by_cases h : k < ss.length
    · exact h
    · have hk : k = ss.length := by have := hPl.le; omega
      rcases hPl.low with h1 | ⟨a, ha, hat⟩
      · omega
      · have := spanL_get ha (by omega)
        omega
  have hb : ss[k]? = some (ss[k]'hkn) := List.getElem?_eq_getElem _
  have hhi : t < (ss[k]'hkn).at_ := by
    rcases hPl.high with h | ⟨y, hy, hyt⟩
    · omega
    · rw [hb] at hy
      cases hy
      by_cases he : (ss[k]'hkn).at_ = t
      · exact absurd ⟨_, hb, he⟩ hnf
      · omega
  have hk0 : 0 < k := by
    by_cases h : k = 0
    · subst h
      have := hok.first _ hb
      omega
    · omega
  refine ⟨hk0, hkn, fun p q hp hq => ?_⟩
  have hp2 : ss[k - 1]? = some p := by rw [← hp]; congr 1; omega
  rw [hb] at hq
  cases hq
  refine ⟨hp2, ?_, hhi⟩
  rcases hPl.low with h | ⟨a, ha, hat⟩
  · omega
  · rw [hp2] at ha
    cases ha
    exact hat
theorem track_Where (A : ActV) (t : Int) (w : World) (hA : A.Ok w.heap.size w) (hok : SmpOk A.start A.ss) (ht : 0 ≤ t ∧ t ≤ spanL A.ss) (hn : 0 < A.ss.length) :
    Calls Try.prog 43 #[.agg #[.string A.name, .int .i64 A.sport, .int .i64 A.start, .slice A.sa A.sn A.sc, .slice A.la A.ln A.lc, .slice A.ta A.tn A.tc], .int .i64 t] w fun e w' => e = .returned (encSmp.val (whereV A.ss t)) ∧ Below w.heap.size w w' := by
  have hsn := hA.s.len
  have hl20 := hok.len
  refine enterQ (N := 33) (C := fun _ => True) (H := []) (B := w.heap.size) (args := [_, _]) Try.func43 rfl rfl rfl (Nat.le_refl _) (Sat.nil _ _) fun Q hQ => ?_
  refine wp_seq' fun K1 hK1 => ?_
  refine wp_reg ?_
  refine ol_box 2 rfl rfl rfl fun b2 => ?_
  refine ol_alloc 4 z28 rfl fun b4 => ?_
  refine ol_nil (to_k0 (fun _ _ h => h) (hK1 _ _ _ _ _ ?_))
  clear hK1
  refine wp_seq' fun K2 hK2 => ?_
  refine wp_reg ?_
  refine ol_r (r_fa (o' := 3) rfl fl26_3 rfl) rfl ?_
  refine ol_r (r_ld (id := 2) rfl rfl rfl sc22) rfl ?_
  refine ol_r (r_move rfl) rfl ?_
  refine ol_call rfl rfl cb94 rfl (fun w1 hb1 hs1 hB1 => ?_)
  refine Calls.mono (binarySearch_smp _ _ _ A.ss _ _ (hA.s.at hb1 hB1) (by omega)) ?_
  rintro e w2 ⟨k, ok, hPl, hok2, rfl, hb2⟩
  refine After.below rfl hb1 hs1 hB1 hb2 ?_
  clear hb2 hB1 hs1 hb1 w2 w1
  have hP := where_place hok (t := t) hPl.le hPl.low
  have hkle := hPl.le
  refine ol_r (r_move rfl) rfl ?_
  refine ol_r (r_extract rfl rfl) rfl ?_
  refine ol_r (r_extract rfl rfl) rfl ?_
  refine ol_r (r_assign rfl) rfl ?_
  refine ol_r (r_assign rfl) rfl ?_
  refine ol_nil (to_k0 (fun _ _ h => h) (hK2 _ _ _ _ _ ?_))
  clear hK2
  refine wp_seq' fun K3 hK3 => ?_
  refine wp_seq' fun K4 hK4 => ?_
  refine wp_reg ?_
  refine ol_r (r_move rfl) rfl ?_
  refine ol_nil (to_k0 (fun _ _ h => h) (hK4 _ _ _ _ _ ?_))
  clear hK4
  refine wp_cond' rfl (fun hc14 => ?_) (fun hc14 => ?_)
  ·refine wp_seq' fun K5 hK5 => ?_
   refine wp_reg ?_
   refine ol_r (r_fa (o' := 3) rfl fl26_3 rfl) rfl ?_
   refine ol_r (r_ld (id := 2) rfl rfl rfl sc22) rfl ?_
   obtain ⟨y, hy, hyt⟩ := hok2.1 hc14
   have hkl := (List.getElem?_eq_some_iff.1 hy).1
   refine ol_r (r_move rfl) rfl ?_
   refine ol_ixr hA.s rfl rfl sl22 (by omega) rfl fun x18 hx18 => ?_
   try simp only [Int.toNat_natCast] at hx18
   refine ol_r (r_ldw rfl (fun w1 hb1 hs1 hB1 => Rd.loads hA.s ty28 hx18 hb1)) rfl ?_
   refine ol_store (id := 4) rfl rfl rfl rfl sz28 rfl rfl (by first | decide | exact Nat.zero_lt_succ _ | simp) ?_
   refine ol_nil (to_k0 (fun _ _ h => h) (hK5 _ _ _ _ _ ?_))
   clear hK5
   refine hQ.ret (rvs1 (rv_c (id := 4) (n := 7) rfl rfl ag28 rfl)) (fun _ _ h => h) fun w hb hs hB hkd => ?_
   rw [hy] at hx18
   cases hx18
   exact ⟨by rw [where_hit hP hy hyt.symm]; rfl, hb⟩
  ·refine wp_skip' (to_k0 (fun _ _ h => h) (hK3 _ _ _ _ _ ?_))
   clear hK3
   refine wp_seq' fun K6 hK6 => ?_
   refine wp_regt 12 (by kernel_rfl) (by kernel_rfl) ?_
   simp only [List.take_succ_cons, List.take_zero, List.drop_succ_cons, List.drop_zero]
   have hnf : ¬∃ y, A.ss[k]? = some y ∧ y.at_ = t := fun h => by rw [hok2.2 h] at hc14; cases hc14
   obtain ⟨hk0, hkn, hpq⟩ := place_in hok ht hPl hnf hn
   refine sl_r (r_fa (o' := 3) rfl fl26_3 rfl) rfl ?_
   refine sl_r (r_ld (id := 2) rfl rfl rfl sc22) rfl ?_
   refine sl_r (r_move rfl) rfl ?_
   refine sl_r (r_sub rfl rfl (by omega)) rfl ?_
   refine sl_ixr hA.s rfl rfl sl22 (by omega) rfl fun x24 hx24 => ?_
   try simp only [Int.toNat_natCast] at hx24
   refine sl_r (r_ldw rfl (fun w1 hb1 hs1 hB1 => Rd.loads hA.s ty28 hx24 hb1)) rfl ?_
   refine sl_r (r_fa (o' := 3) rfl fl26_3 rfl) rfl ?_
   refine sl_r (r_ld (id := 2) rfl rfl rfl sc22) rfl ?_
   refine sl_r (r_move rfl) rfl ?_
   refine sl_ixr hA.s rfl rfl sl22 (by omega) rfl fun x29 hx29 => ?_
   try simp only [Int.toNat_natCast] at hx29
   refine sl_r (r_ldw rfl (fun w1 hb1 hs1 hB1 => Rd.loads hA.s ty28 hx29 hb1)) rfl ?_
   refine sl_r (r_move rfl) rfl ?_
   refine sl_nil ?_
   refine ol_call rfl rfl cb96 rfl (fun w1 hb1 hs1 hB1 => Calls.mono (track_amid x24 x29 t _ (pairOk hok (hpq _ _ hx24 hx29).1 hx29 (by have := (hpq _ _ hx24 hx29).2; omega) (by have := (hpq _ _ hx24 hx29).2; omega) (by have := (hpq _ _ hx24 hx29).2; omega))) ?_)
   rintro e w2 ⟨rfl, hb2⟩
   refine After.below rfl hb1 hs1 hB1 hb2 ?_
   clear hb2 hB1 hs1 hb1 w2 w1
   refine ol_store (id := 4) rfl rfl rfl rfl sz28 rfl rfl (by first | decide | exact Nat.zero_lt_succ _ | simp) ?_
   refine ol_nil (to_k0 (fun _ _ h => h) (hK6 _ _ _ _ _ ?_))
   clear hK6
   refine hQ.ret (rvs1 (rv_c (id := 4) (n := 7) rfl rfl ag28 rfl)) (fun _ _ h => h) fun w hb hs hB hkd => ?_
   exact ⟨by rw [where_seg hP hk0 (hpq _ _ hx24 hx29).1 hx29 (hpq _ _ hx24 hx29).2.2]; rfl, hb⟩
theorem ref3_Where (A : ActV) (t : Int) (w : World) (hA : A.Ok w.heap.size w) (hok : SmpOk A.start A.ss) (ht : 0 ≤ t ∧ t ≤ spanL A.ss) (hn : 0 < A.ss.length) :
    Calls Try.prog 47 #[.agg #[.string A.name, .int .i64 A.sport, .int .i64 A.start, .slice A.sa A.sn A.sc, .slice A.la A.ln A.lc, .slice A.ta A.tn A.tc], .int .i64 t] w fun e w' => e = .returned (encSmp.val (whereV A.ss t)) ∧ Below w.heap.size w w' := by
  have hsn := hA.s.len
  have hl20 := hok.len
  refine enterQ (N := 56) (C := fun _ => True) (H := []) (B := w.heap.size) (args := [_, _]) Try.func47 rfl rfl rfl (Nat.le_refl _) (Sat.nil _ _) fun Q hQ => ?_
  refine wp_seq' fun K1 hK1 => ?_
  refine wp_reg ?_
  refine ol_box 2 rfl rfl rfl fun b2 => ?_
  refine ol_alloc 4 z28 rfl fun b4 => ?_
  refine ol_nil (to_k0 (fun _ _ h => h) (hK1 _ _ _ _ _ ?_))
  clear hK1
  refine wp_seq' fun K2 hK2 => ?_
  refine wp_regq (by kernel_rfl) (by kernel_rfl) ?_
  refine ql_r (r_fa (o' := 3) rfl fl26_3 rfl) rfl ?_
  refine ql_r (r_ld (id := 2) rfl rfl rfl sc22) rfl ?_
  refine ql_r (r_len rfl sl22) rfl ?_
  refine ql_r (r_sub rfl rfl (by omega)) rfl ?_
  refine ql_r (r_assign rfl) rfl ?_
  refine ql_r (r_assign rfl) rfl ?_
  refine ql_nil (to_k0 (fun _ _ h => h) (hK2 _ _ _ _ _ ?_))
  clear hK2
  refine wp_seq' fun K3 hK3 => ?_
  refine wp_block' ?_
  apply wp_loopM (σ := Int × Int) (fun s => 0 ≤ s.1 ∧ s.1 ≤ s.2 ∧ s.2 ≤ (A.ss.length : Int) - 1 ∧ (s.1 = 0 ∨ ∃ y, A.ss[(s.1 - 1).toNat]? = some y ∧ y.at_ < t) ∧ (s.2 = (A.ss.length : Int) - 1 ∨ ∃ y, A.ss[s.2.toNat]? = some y ∧ t ≤ y.at_)) (fun s => [(5, .int .i64 s.1), (6, .int .i64 s.2)]) [(1, _), (2, _), (4, _)] (fun s => []) [(2, _), (4, _)] (fun s => (s.2 - s.1).toNat) ((0, (A.sn : Int) - 1))
  ·try dsimp only
   exact ⟨by omega, by omega, by omega, .inl rfl, .inl (by omega)⟩
  ·exact (sub_cons rfl (sub_cons rfl sub_nil))
  ·exact (sub_cons rfl (sub_cons rfl (sub_cons rfl sub_nil)))
  ·exact subH_nil
  ·exact (subH_same rfl (subH_same rfl subH_nil))
  ·rintro ⟨i, j⟩ ⟨h1, h2, h3, h4, h5⟩
   dsimp only at h1 h2 h3 h4 h5 ⊢
   intro K4 hK4
   refine wp_seq' fun K5 hK5 => ?_
   refine wp_seq' fun K6 hK6 => ?_
   refine wp_reg ?_
   refine ol_r (r_move rfl) rfl ?_
   refine ol_r (r_move rfl) rfl ?_
   refine ol_r (r_lss rfl rfl) rfl ?_
   refine ol_nil (to_k0 (fun _ _ h => h) (hK6 _ _ _ _ _ ?_))
   clear hK6
   refine wp_condD rfl (fun hc14 => ?_) (fun hc14 => ?_)
   ·refine wp_skip' (to_k0 (fun _ _ h => h) (hK5 _ _ _ _ _ ?_))
    clear hK5
    refine wp_block' ?_
    refine wp_seq' fun K7 hK7 => ?_
    refine wp_reg ?_
    refine ol_r (r_move rfl) rfl ?_
    refine ol_r (r_move rfl) rfl ?_
    refine ol_r (r_add rfl rfl (by omega)) rfl ?_
    first | refine ol_r (r_quo rfl rfl (by omega)) rfl ?_ | refine ol_r (r_tquo rfl rfl (by omega)) rfl ?_
    refine ol_r (r_assign rfl) rfl ?_
    refine ol_nil (to_k0 (fun _ _ h => h) (hK7 _ _ _ _ _ ?_))
    clear hK7
    refine wp_seq' fun K8 hK8 => ?_
    refine wp_reg ?_
    refine ol_r (r_fa (o' := 3) rfl fl26_3 rfl) rfl ?_
    refine ol_r (r_ld (id := 2) rfl rfl rfl sc22) rfl ?_
    refine ol_r (r_move rfl) rfl ?_
    refine ol_ixr hA.s rfl rfl sl22 (by omega) rfl fun x22 hx22 => ?_
    try simp only [Int.toNat_natCast] at hx22
    refine ol_r (r_faw rfl (ix_some hA.s (by omega)) fl28_0) rfl ?_
    refine ol_r (r_ldw rfl (fun w1 hb1 hs1 hB1 => Rd.loadsF (o := 0) hA.s sc3 hx22 hb1 rfl)) rfl ?_
    refine ol_r (r_move rfl) rfl ?_
    refine ol_r (r_lss rfl rfl) rfl ?_
    refine ol_nil (to_k0 (fun _ _ h => h) (hK8 _ _ _ _ _ ?_))
    clear hK8
    refine wp_condD rfl (fun hc26 => ?_) (fun hc26 => ?_)
    ·refine wp_reg ?_
     refine ol_r (r_move rfl) rfl ?_
     refine ol_r (r_add rfl rfl (by omega)) rfl ?_
     refine ol_r (r_assign rfl) rfl ?_
     refine ol_nil (to_k0 (fun _ _ h => h) (hK4 ((_, _)) _ _ ?_ ?_ (sub_cons rfl (sub_cons rfl sub_nil)) (sub_cons rfl (sub_cons rfl (sub_cons rfl sub_nil))) (by exact subH_nil) (subH_same rfl (subH_same rfl subH_nil))))
     ·try dsimp only
      first
        | exact ⟨by omega, by omega, by omega, .inr ⟨_, by rw [Int.add_sub_cancel]; exact hx22, hc26⟩, h5⟩
     ·try dsimp only
      omega
    ·refine wp_reg ?_
     refine ol_r (r_move rfl) rfl ?_
     refine ol_r (r_assign rfl) rfl ?_
     refine ol_nil (to_k0 (fun _ _ h => h) (hK4 ((_, _)) _ _ ?_ ?_ (sub_cons rfl (sub_cons rfl sub_nil)) (sub_cons rfl (sub_cons rfl (sub_cons rfl sub_nil))) (by exact subH_nil) (subH_same rfl (subH_same rfl subH_nil))))
     ·try dsimp only
      first
        | exact ⟨by omega, by omega, by omega, h4, .inr ⟨_, hx22, by omega⟩⟩
     ·try dsimp only
      omega
   ·refine wp_exit' (to_k0 (fun _ _ h => h) (hK3 _ _ _ _ _ ?_))
    clear hK3
    refine wp_seq' fun K9 hK9 => ?_
    refine wp_seq' fun K10 hK10 => ?_
    refine wp_reg ?_
    have hij : i = j := by omega
    subst hij
    obtain ⟨k, rfl⟩ := Int.eq_ofNat_of_zero_le h1
    have hPl : WPlace A.ss t k := ⟨by omega, by
        rcases h4 with h | ⟨y, hy, hyt⟩
        · exact .inl (by omega)
        · by_cases hk0 : k = 0
          · exact .inl hk0
          · exact .inr ⟨y, by rw [← hy]; congr 1; omega, hyt⟩, by
        rcases h5 with h | ⟨y, hy, hyt⟩
        · have hkl : k < A.ss.length := by omega
          have hb9 : A.ss[k]? = some (A.ss[k]'hkl) := List.getElem?_eq_getElem _
          have := spanL_get hb9 (by omega)
          exact .inr ⟨_, hb9, by omega⟩
        · exact .inr ⟨y, by simpa using hy, hyt⟩⟩
    have hP := where_place hok (t := t) hPl.le hPl.low
    refine ol_r (r_fa (o' := 3) rfl fl26_3 rfl) rfl ?_
    refine ol_r (r_ld (id := 2) rfl rfl rfl sc22) rfl ?_
    refine ol_r (r_move rfl) rfl ?_
    refine ol_ixr hA.s rfl rfl sl22 (by omega) rfl fun x33 hx33 => ?_
    try simp only [Int.toNat_natCast] at hx33
    refine ol_r (r_faw rfl (ix_some hA.s (by omega)) fl28_0) rfl ?_
    refine ol_r (r_ldw rfl (fun w1 hb1 hs1 hB1 => Rd.loadsF (o := 0) hA.s sc3 hx33 hb1 rfl)) rfl ?_
    refine ol_r (r_move rfl) rfl ?_
    refine ol_r (r_eql rfl rfl) rfl ?_
    refine ol_nil (to_k0 (fun _ _ h => h) (hK10 _ _ _ _ _ ?_))
    clear hK10
    refine wp_condD rfl (fun hc37 => ?_) (fun hc37 => ?_)
    ·refine wp_seq' fun K11 hK11 => ?_
     refine wp_reg ?_
     refine ol_r (r_fa (o' := 3) rfl fl26_3 rfl) rfl ?_
     refine ol_r (r_ld (id := 2) rfl rfl rfl sc22) rfl ?_
     refine ol_r (r_move rfl) rfl ?_
     refine ol_ixr hA.s rfl rfl sl22 (by omega) rfl fun x41 hx41 => ?_
     try simp only [Int.toNat_natCast] at hx41
     refine ol_r (r_ldw rfl (fun w1 hb1 hs1 hB1 => Rd.loads hA.s ty28 hx41 hb1)) rfl ?_
     refine ol_store (id := 4) rfl rfl rfl rfl sz28 rfl rfl (by first | decide | exact Nat.zero_lt_succ _ | simp) ?_
     refine ol_nil (to_k0 (fun _ _ h => h) (hK11 _ _ _ _ _ ?_))
     clear hK11
     refine hQ.ret (rvs1 (rv_c (id := 4) (n := 7) rfl rfl ag28 rfl)) (fun _ _ h => h) fun w hb hs hB hkd => ?_
     rw [hx33] at hx41
     cases hx41
     exact ⟨by rw [where_hit hP hx33 hc37.symm]; rfl, hb⟩
    ·refine wp_skip' (to_k0 (fun _ _ h => h) (hK9 _ _ _ _ _ ?_))
     clear hK9
     refine wp_seq' fun K12 hK12 => ?_
     refine wp_regt 12 (by kernel_rfl) (by kernel_rfl) ?_
     simp only [List.take_succ_cons, List.take_zero, List.drop_succ_cons, List.drop_zero]
     have hnf : ¬∃ y, A.ss[k]? = some y ∧ y.at_ = t := fun ⟨y, hy, hyt⟩ => by rw [hx33] at hy; cases hy; exact hc37 hyt
     obtain ⟨hk0, hkn, hpq⟩ := place_in hok ht hPl hnf hn
     refine sl_r (r_fa (o' := 3) rfl fl26_3 rfl) rfl ?_
     refine sl_r (r_ld (id := 2) rfl rfl rfl sc22) rfl ?_
     refine sl_r (r_move rfl) rfl ?_
     refine sl_r (r_sub rfl rfl (by omega)) rfl ?_
     refine sl_ixr hA.s rfl rfl sl22 (by omega) rfl fun x47 hx47 => ?_
     try simp only [Int.toNat_natCast] at hx47
     refine sl_r (r_ldw rfl (fun w1 hb1 hs1 hB1 => Rd.loads hA.s ty28 hx47 hb1)) rfl ?_
     refine sl_r (r_fa (o' := 3) rfl fl26_3 rfl) rfl ?_
     refine sl_r (r_ld (id := 2) rfl rfl rfl sc22) rfl ?_
     refine sl_r (r_move rfl) rfl ?_
     refine sl_ixr hA.s rfl rfl sl22 (by omega) rfl fun x52 hx52 => ?_
     try simp only [Int.toNat_natCast] at hx52
     refine sl_r (r_ldw rfl (fun w1 hb1 hs1 hB1 => Rd.loads hA.s ty28 hx52 hb1)) rfl ?_
     refine sl_r (r_move rfl) rfl ?_
     refine sl_nil ?_
     refine ol_call rfl rfl cb101 rfl (fun w1 hb1 hs1 hB1 => Calls.mono (ref3_at x47 x52 t _ (pairOk hok (hpq _ _ hx47 hx52).1 hx52 (by have := (hpq _ _ hx47 hx52).2; omega) (by have := (hpq _ _ hx47 hx52).2; omega) (by have := (hpq _ _ hx47 hx52).2; omega))) ?_)
     rintro e w2 ⟨rfl, hb2⟩
     refine After.below rfl hb1 hs1 hB1 hb2 ?_
     clear hb2 hB1 hs1 hb1 w2 w1
     refine ol_store (id := 4) rfl rfl rfl rfl sz28 rfl rfl (by first | decide | exact Nat.zero_lt_succ _ | simp) ?_
     refine ol_nil (to_k0 (fun _ _ h => h) (hK12 _ _ _ _ _ ?_))
     clear hK12
     refine hQ.ret (rvs1 (rv_c (id := 4) (n := 7) rfl rfl ag28 rfl)) (fun _ _ h => h) fun w hb hs hB hkd => ?_
     exact ⟨by rw [where_seg hP hk0 (hpq _ _ hx47 hx52).1 hx52 (hpq _ _ hx47 hx52).2.2]; rfl, hb⟩
end Go.Proofs.Ytogcclagmobkiaa
