/-
  Check and Span of activities: program and reference.
-/
import Derived.Laws.Bits64b
import Derived.Test.YtjflbnbofedlkaaXmA
import Derived.Test.YtjflbnbofedlkaaXmB

namespace Go.Proofs.Ytjflbnbofedlkaa
open Go Go.RowKit Hx
set_option linter.unusedVariables false
set_option linter.unusedSimpArgs false
set_option maxRecDepth 8000
theorem record_inRange (x : SmpR) (w : World) : Calls Try.prog 84 #[.agg #[.int .i64 x.at_, .int .i64 x.x, .int .i64 x.y, .int .i64 x.z, .int .i64 x.pulse, .int .i64 x.power, .int .i64 x.steps]] w fun e w' => e = .returned (.bool (smpIn x)) ∧ Below w.heap.size w w' := by
  refine enterQ (N := 33) (C := fun _ => True) (H := []) (B := w.heap.size) (args := [_]) Try.func84 rfl rfl rfl (Nat.le_refl _) (Sat.nil _ _) fun Q hQ => ?_
  refine wp_seq' fun K1 hK1 => ?_
  refine wp_reg ?_
  refine ol_box 1 rfl rfl rfl fun b1 => ?_
  refine ol_r (r_assign rfl) rfl ?_
  refine ol_nil (to_k0 (fun _ _ h => h) (hK1 _ _ _ _ _ ?_))
  clear hK1
  refine wp_seq' fun K2 hK2 => ?_
  refine wp_reg ?_
  refine ol_r (r_fa (o' := 1) rfl fl51_1 rfl) rfl ?_
  refine ol_r (r_ld (id := 1) rfl rfl rfl sc3) rfl ?_
  refine ol_call rfl rfl cb83 rfl (fun w1 hb1 hs1 hB1 => Calls.mono (record_in _ _ _ _) ?_)
  rintro e w2 ⟨rfl, hb2⟩
  refine After.below rfl hb1 hs1 hB1 hb2 ?_
  clear hb2 hB1 hs1 hb1 w2 w1
  refine ol_r (r_move rfl) rfl ?_
  refine ol_split (d := 7) rfl (fun hs7 => ?_) (fun hs7 => ?_)
  ·have phs7 := hs7; try simp only [decide_eq_true_eq, decide_eq_false_iff_not, Bool.not_eq_true', Bool.not_eq_false', Bool.not_true, Bool.not_false] at phs7
   refine ol_g rfl rfl hs7 ?_
   refine ol_r (r_fa (o' := 2) rfl fl51_2 rfl) rfl ?_
   refine ol_g rfl rfl hs7 ?_
   refine ol_r (r_ld (id := 1) rfl rfl rfl sc3) rfl ?_
   refine ol_g rfl rfl hs7 ?_
   refine ol_call rfl rfl cb83 rfl (fun w1 hb1 hs1 hB1 => Calls.mono (record_in _ _ _ _) ?_)
   rintro e w2 ⟨rfl, hb2⟩
   refine After.below rfl hb1 hs1 hB1 hb2 ?_
   clear hb2 hB1 hs1 hb1 w2 w1
   refine ol_r (r_pickT rfl hs7 rfl) rfl ?_
   refine ol_r (r_move rfl) rfl ?_
   refine ol_split (d := 12) rfl (fun hs12 => ?_) (fun hs12 => ?_)
   ·have phs12 := hs12; try simp only [decide_eq_true_eq, decide_eq_false_iff_not, Bool.not_eq_true', Bool.not_eq_false', Bool.not_true, Bool.not_false] at phs12
    refine ol_g rfl rfl hs12 ?_
    refine ol_r (r_fa (o' := 3) rfl fl51_3 rfl) rfl ?_
    refine ol_g rfl rfl hs12 ?_
    refine ol_r (r_ld (id := 1) rfl rfl rfl sc3) rfl ?_
    refine ol_g rfl rfl hs12 ?_
    refine ol_call rfl rfl cb83 rfl (fun w1 hb1 hs1 hB1 => Calls.mono (record_in _ _ _ _) ?_)
    rintro e w2 ⟨rfl, hb2⟩
    refine After.below rfl hb1 hs1 hB1 hb2 ?_
    clear hb2 hB1 hs1 hb1 w2 w1
    refine ol_r (r_pickT rfl hs12 rfl) rfl ?_
    refine ol_r (r_assign rfl) rfl ?_
    refine ol_nil (to_k0 (fun _ _ h => h) (hK2 _ _ _ _ _ ?_))
    clear hK2
    refine wp_seq' fun K3 hK3 => ?_
    refine wp_reg ?_
    refine ol_r (r_move rfl) rfl ?_
    refine ol_r (r_move rfl) rfl ?_
    refine ol_split (d := 18) rfl (fun hs18 => ?_) (fun hs18 => ?_)
    ·have phs18 := hs18; try simp only [decide_eq_true_eq, decide_eq_false_iff_not, Bool.not_eq_true', Bool.not_eq_false', Bool.not_true, Bool.not_false] at phs18
     refine ol_g rfl rfl hs18 ?_
     refine ol_r (r_fa (o' := 4) rfl fl51_4 rfl) rfl ?_
     refine ol_g rfl rfl hs18 ?_
     refine ol_r (r_ld (id := 1) rfl rfl rfl sc3) rfl ?_
     refine ol_g rfl rfl hs18 ?_
     refine ol_call rfl rfl cb83 rfl (fun w1 hb1 hs1 hB1 => Calls.mono (record_in _ _ _ _) ?_)
     rintro e w2 ⟨rfl, hb2⟩
     refine After.below rfl hb1 hs1 hB1 hb2 ?_
     clear hb2 hB1 hs1 hb1 w2 w1
     refine ol_r (r_pickT rfl hs18 rfl) rfl ?_
     refine ol_r (r_move rfl) rfl ?_
     refine ol_split (d := 23) rfl (fun hs23 => ?_) (fun hs23 => ?_)
     ·have phs23 := hs23; try simp only [decide_eq_true_eq, decide_eq_false_iff_not, Bool.not_eq_true', Bool.not_eq_false', Bool.not_true, Bool.not_false] at phs23
      refine ol_g rfl rfl hs23 ?_
      refine ol_r (r_fa (o' := 5) rfl fl51_5 rfl) rfl ?_
      refine ol_g rfl rfl hs23 ?_
      refine ol_r (r_ld (id := 1) rfl rfl rfl sc3) rfl ?_
      refine ol_g rfl rfl hs23 ?_
      refine ol_call rfl rfl cb83 rfl (fun w1 hb1 hs1 hB1 => Calls.mono (record_in _ _ _ _) ?_)
      rintro e w2 ⟨rfl, hb2⟩
      refine After.below rfl hb1 hs1 hB1 hb2 ?_
      clear hb2 hB1 hs1 hb1 w2 w1
      refine ol_r (r_pickT rfl hs23 rfl) rfl ?_
      refine ol_r (r_move rfl) rfl ?_
      refine ol_split (d := 28) rfl (fun hs28 => ?_) (fun hs28 => ?_)
      ·have phs28 := hs28; try simp only [decide_eq_true_eq, decide_eq_false_iff_not, Bool.not_eq_true', Bool.not_eq_false', Bool.not_true, Bool.not_false] at phs28
       refine ol_g rfl rfl hs28 ?_
       refine ol_r (r_fa (o' := 6) rfl fl51_6 rfl) rfl ?_
       refine ol_g rfl rfl hs28 ?_
       refine ol_r (r_ld (id := 1) rfl rfl rfl sc3) rfl ?_
       refine ol_g rfl rfl hs28 ?_
       refine ol_call rfl rfl cb83 rfl (fun w1 hb1 hs1 hB1 => Calls.mono (record_in _ _ _ _) ?_)
       rintro e w2 ⟨rfl, hb2⟩
       refine After.below rfl hb1 hs1 hB1 hb2 ?_
       clear hb2 hB1 hs1 hb1 w2 w1
       refine ol_r (r_pickT rfl hs28 rfl) rfl ?_
       refine ol_r (r_assign rfl) rfl ?_
       refine ol_nil (to_k0 (fun _ _ h => h) (hK3 _ _ _ _ _ ?_))
       clear hK3
       refine hQ.ret (rvs1 (rv_t rfl)) (fun _ _ h => h) fun w hb hs hB hkd => ?_
       refine ⟨?_, hb⟩
       unfold smpIn
       first
         | (simp_all; done)
         | (congr 2; simp_all; done)
      ·have phs28 := hs28; try simp only [decide_eq_true_eq, decide_eq_false_iff_not, Bool.not_eq_true', Bool.not_eq_false', Bool.not_true, Bool.not_false] at phs28
       refine ol_s rfl rfl hs28 rfl ?_
       refine ol_s rfl rfl hs28 rfl ?_
       refine ol_s rfl rfl hs28 rfl ?_
       refine ol_r (r_pickF rfl hs28 rfl) rfl ?_
       refine ol_r (r_assign rfl) rfl ?_
       refine ol_nil (to_k0 (fun _ _ h => h) (hK3 _ _ _ _ _ ?_))
       clear hK3
       refine hQ.ret (rvs1 (rv_t rfl)) (fun _ _ h => h) fun w hb hs hB hkd => ?_
       refine ⟨?_, hb⟩
       unfold smpIn
       first
         | (simp_all; done)
         | (congr 2; simp_all; done)
     ·have phs23 := hs23; try simp only [decide_eq_true_eq, decide_eq_false_iff_not, Bool.not_eq_true', Bool.not_eq_false', Bool.not_true, Bool.not_false] at phs23
      refine ol_s rfl rfl hs23 rfl ?_
      refine ol_s rfl rfl hs23 rfl ?_
      refine ol_s rfl rfl hs23 rfl ?_
      refine ol_r (r_pickF rfl hs23 rfl) rfl ?_
      refine ol_r (r_move rfl) rfl ?_
      refine ol_s rfl rfl rfl rfl ?_
      refine ol_s rfl rfl rfl rfl ?_
      refine ol_s rfl rfl rfl rfl ?_
      refine ol_r (r_pickF rfl rfl rfl) rfl ?_
      refine ol_r (r_assign rfl) rfl ?_
      refine ol_nil (to_k0 (fun _ _ h => h) (hK3 _ _ _ _ _ ?_))
      clear hK3
      refine hQ.ret (rvs1 (rv_t rfl)) (fun _ _ h => h) fun w hb hs hB hkd => ?_
      refine ⟨?_, hb⟩
      unfold smpIn
      first
        | (simp_all; done)
        | (congr 2; simp_all; done)
    ·have phs18 := hs18; try simp only [decide_eq_true_eq, decide_eq_false_iff_not, Bool.not_eq_true', Bool.not_eq_false', Bool.not_true, Bool.not_false] at phs18
     refine ol_s rfl rfl hs18 rfl ?_
     refine ol_s rfl rfl hs18 rfl ?_
     refine ol_s rfl rfl hs18 rfl ?_
     refine ol_r (r_pickF rfl hs18 rfl) rfl ?_
     refine ol_r (r_move rfl) rfl ?_
     refine ol_s rfl rfl rfl rfl ?_
     refine ol_s rfl rfl rfl rfl ?_
     refine ol_s rfl rfl rfl rfl ?_
     refine ol_r (r_pickF rfl rfl rfl) rfl ?_
     refine ol_r (r_move rfl) rfl ?_
     refine ol_s rfl rfl rfl rfl ?_
     refine ol_s rfl rfl rfl rfl ?_
     refine ol_s rfl rfl rfl rfl ?_
     refine ol_r (r_pickF rfl rfl rfl) rfl ?_
     refine ol_r (r_assign rfl) rfl ?_
     refine ol_nil (to_k0 (fun _ _ h => h) (hK3 _ _ _ _ _ ?_))
     clear hK3
     refine hQ.ret (rvs1 (rv_t rfl)) (fun _ _ h => h) fun w hb hs hB hkd => ?_
     refine ⟨?_, hb⟩
     unfold smpIn
     first
       | (simp_all; done)
       | (congr 2; simp_all; done)
   ·have phs12 := hs12; try simp only [decide_eq_true_eq, decide_eq_false_iff_not, Bool.not_eq_true', Bool.not_eq_false', Bool.not_true, Bool.not_false] at phs12
    refine ol_s rfl rfl hs12 rfl ?_
    refine ol_s rfl rfl hs12 rfl ?_
    refine ol_s rfl rfl hs12 rfl ?_
    refine ol_r (r_pickF rfl hs12 rfl) rfl ?_
    refine ol_r (r_assign rfl) rfl ?_
    refine ol_nil (to_k0 (fun _ _ h => h) (hK2 _ _ _ _ _ ?_))
    clear hK2
    refine wp_seq' fun K4 hK4 => ?_
    refine wp_reg ?_
    refine ol_r (r_move rfl) rfl ?_
    refine ol_r (r_move rfl) rfl ?_
    refine ol_s rfl rfl rfl rfl ?_
    refine ol_s rfl rfl rfl rfl ?_
    refine ol_s rfl rfl rfl rfl ?_
    refine ol_r (r_pickF rfl rfl rfl) rfl ?_
    refine ol_r (r_move rfl) rfl ?_
    refine ol_s rfl rfl rfl rfl ?_
    refine ol_s rfl rfl rfl rfl ?_
    refine ol_s rfl rfl rfl rfl ?_
    refine ol_r (r_pickF rfl rfl rfl) rfl ?_
    refine ol_r (r_move rfl) rfl ?_
    refine ol_s rfl rfl rfl rfl ?_
    refine ol_s rfl rfl rfl rfl ?_
    refine ol_s rfl rfl rfl rfl ?_
    refine ol_r (r_pickF rfl rfl rfl) rfl ?_
    refine ol_r (r_assign rfl) rfl ?_
    refine ol_nil (to_k0 (fun _ _ h => h) (hK4 _ _ _ _ _ ?_))
    clear hK4
    refine hQ.ret (rvs1 (rv_t rfl)) (fun _ _ h => h) fun w hb hs hB hkd => ?_
    refine ⟨?_, hb⟩
    unfold smpIn
    first
      | (simp_all; done)
      | (congr 2; simp_all; done)
  ·have phs7 := hs7; try simp only [decide_eq_true_eq, decide_eq_false_iff_not, Bool.not_eq_true', Bool.not_eq_false', Bool.not_true, Bool.not_false] at phs7
   refine ol_s rfl rfl hs7 rfl ?_
   refine ol_s rfl rfl hs7 rfl ?_
   refine ol_s rfl rfl hs7 rfl ?_
   refine ol_r (r_pickF rfl hs7 rfl) rfl ?_
   refine ol_r (r_move rfl) rfl ?_
   refine ol_s rfl rfl rfl rfl ?_
   refine ol_s rfl rfl rfl rfl ?_
   refine ol_s rfl rfl rfl rfl ?_
   refine ol_r (r_pickF rfl rfl rfl) rfl ?_
   refine ol_r (r_assign rfl) rfl ?_
   refine ol_nil (to_k0 (fun _ _ h => h) (hK2 _ _ _ _ _ ?_))
   clear hK2
   refine wp_seq' fun K5 hK5 => ?_
   refine wp_reg ?_
   refine ol_r (r_move rfl) rfl ?_
   refine ol_r (r_move rfl) rfl ?_
   refine ol_s rfl rfl rfl rfl ?_
   refine ol_s rfl rfl rfl rfl ?_
   refine ol_s rfl rfl rfl rfl ?_
   refine ol_r (r_pickF rfl rfl rfl) rfl ?_
   refine ol_r (r_move rfl) rfl ?_
   refine ol_s rfl rfl rfl rfl ?_
   refine ol_s rfl rfl rfl rfl ?_
   refine ol_s rfl rfl rfl rfl ?_
   refine ol_r (r_pickF rfl rfl rfl) rfl ?_
   refine ol_r (r_move rfl) rfl ?_
   refine ol_s rfl rfl rfl rfl ?_
   refine ol_s rfl rfl rfl rfl ?_
   refine ol_s rfl rfl rfl rfl ?_
   refine ol_r (r_pickF rfl rfl rfl) rfl ?_
   refine ol_r (r_assign rfl) rfl ?_
   refine ol_nil (to_k0 (fun _ _ h => h) (hK5 _ _ _ _ _ ?_))
   clear hK5
   refine hQ.ret (rvs1 (rv_t rfl)) (fun _ _ h => h) fun w hb hs hB hkd => ?_
   refine ⟨?_, hb⟩
   unfold smpIn
   first
     | (simp_all; done)
     | (congr 2; simp_all; done)
theorem record_Span (A : ActV) (w : World) (hA : A.Ok w.heap.size w) : Calls Try.prog 85 #[.agg #[.string A.name, .int .i64 A.sport, .int .i64 A.start, .slice A.sa A.sn A.sc, .slice A.la A.ln A.lc, .slice A.ta A.tn A.tc]] w fun e w' => e = .returned (.int .i64 (spanL A.ss)) ∧ Below w.heap.size w w' := by
  have hn := hA.s.len
  have hfit := hA.s.fit
  refine enterQ (N := 16) (C := fun _ => True) (H := []) (B := w.heap.size) (args := [_]) Try.func85 rfl rfl rfl (Nat.le_refl _) (Sat.nil _ _) fun Q hQ => ?_
  refine wp_seq' fun K1 hK1 => ?_
  refine wp_reg ?_
  refine ol_box 1 rfl rfl rfl fun b1 => ?_
  refine ol_r (r_assign rfl) rfl ?_
  refine ol_nil (to_k0 (fun _ _ h => h) (hK1 _ _ _ _ _ ?_))
  clear hK1
  refine wp_seq' fun K2 hK2 => ?_
  refine wp_seq' fun K3 hK3 => ?_
  refine wp_reg ?_
  refine ol_r (r_fa (o' := 3) rfl fl39_3 rfl) rfl ?_
  refine ol_r (r_ld (id := 1) rfl rfl rfl sc35) rfl ?_
  refine ol_r (r_len rfl sl35) rfl ?_
  refine ol_r (r_assign rfl) rfl ?_
  refine ol_nil (to_k0 (fun _ _ h => h) (hK3 _ _ _ _ _ ?_))
  clear hK3
  refine wp_seq' fun K4 hK4 => ?_
  refine wp_reg ?_
  refine ol_r (r_move rfl) rfl ?_
  refine ol_r (r_gtr rfl rfl) rfl ?_
  refine ol_nil (to_k0 (fun _ _ h => h) (hK4 _ _ _ _ _ ?_))
  clear hK4
  refine wp_condD rfl (fun hc8 => ?_) (fun hc8 => ?_)
  ·refine wp_seq' fun K5 hK5 => ?_
   refine wp_reg ?_
   refine ol_r (r_fa (o' := 3) rfl fl39_3 rfl) rfl ?_
   refine ol_r (r_ld (id := 1) rfl rfl rfl sc35) rfl ?_
   refine ol_r (r_move rfl) rfl ?_
   refine ol_r (r_sub rfl rfl (by omega)) rfl ?_
   refine ol_ixr hA.s rfl rfl sl35 (by omega) rfl fun x13 hx13 => ?_
   try simp only [Int.toNat_natCast] at hx13
   refine ol_r (r_faw rfl (ix_some hA.s (by omega)) fl51_0) rfl ?_
   refine ol_r (r_ldw rfl (fun w1 hb1 hs1 hB1 => Rd.loadsF (o := 0) hA.s sc3 hx13 hb1 rfl)) rfl ?_
   refine ol_r (r_assign rfl) rfl ?_
   refine ol_nil (to_k0 (fun _ _ h => h) (hK5 _ _ _ _ _ ?_))
   clear hK5
   refine hQ.ret (rvs1 (rv_t rfl)) (fun _ _ h => h) fun w hb hs hB hkd => ?_
   exact ⟨by rw [spanL_get hx13 (by omega)], hb⟩
  ·refine wp_skip' (to_k0 (fun _ _ h => h) (hK2 _ _ _ _ _ ?_))
   clear hK2
   refine wp_seq' fun K6 hK6 => ?_
   refine wp_reg ?_
   refine ol_r (r_assign rfl) rfl ?_
   refine ol_nil (to_k0 (fun _ _ h => h) (hK6 _ _ _ _ _ ?_))
   clear hK6
   refine hQ.ret (rvs1 (rv_t rfl)) (fun _ _ h => h) fun w hb hs hB hkd => ?_
   exact ⟨by rw [spanL_nil (by omega)], hb⟩
theorem pos_next {ss : List SmpR} {k : Nat} (h : ∀ j y, j < k → ss[j]? = some y → 0 ≤ y.at_) {x : SmpR} (hx : ss[k]? = some x) (h0 : 0 ≤ x.at_) : ∀ j y, j < k + 1 → ss[j]? = some y → 0 ≤ y.at_ := fun j y hj hy => by
  by_cases hjk : j < k
  · exact h j y hjk hy
  · have : j = k := by omega
    subst this
    rw [hx] at hy; cases hy; exact h0
theorem fS_is {st : Int} {p : Option SmpR} {x : SmpR} (h : ordS p x = false) (h1 : x.at_ ≤ 1000000) (h2 : st + x.at_ ≤ 86399999999) (h3 : smpIn x = true) : fS st p x = 0 := by
  unfold fS
  rw [if_neg (by rw [h]; simp), if_neg]
  rintro (h | h | h)
  · omega
  · omega
  · rw [h3] at h; cases h
theorem fS_10 {st : Int} {p : Option SmpR} {x : SmpR} (h : ordS p x = true) : fS st p x = 10 := by unfold fS; rw [if_pos h]
theorem fS_9 {st : Int} {p : Option SmpR} {x : SmpR} (h : ordS p x = false) (h1 : 1000000 < x.at_ ∨ 86399999999 < st + x.at_ ∨ smpIn x = false) : fS st p x = 9 := by
  unfold fS; rw [if_neg (by rw [h]; simp), if_pos h1]
theorem ordS_0 {ss : List SmpR} {k : Nat} {x : SmpR} (hk : (k : Int) = 0) : ordS (ahead ss k) x = decide (x.at_ ≠ 0) := by rw [ahead_none hk]; rfl
theorem ordS_1 {ss : List SmpR} {k : Nat} {x y : SmpR} (hk : (0 : Int) < k) (hy : ss[((k : Int) - 1).toNat]? = some y) : ordS (ahead ss k) x = decide (x.at_ ≤ y.at_) := by rw [ahead_pred hk hy]; rfl
theorem ordL_0 {ls : List LapR} {k : Nat} {x : LapR} (hk : (k : Int) = 0) : ordL (ahead ls k) x = false := by rw [ahead_none hk]; rfl
theorem ordL_1 {ls : List LapR} {k : Nat} {x y : LapR} (hk : (0 : Int) < k) (hy : ls[((k : Int) - 1).toNat]? = some y) : ordL (ahead ls k) x = decide (x.from_ < y.to) := by rw [ahead_pred hk hy]; rfl
theorem ordT_0 {ts : List ByteArray} {k : Nat} {x : ByteArray} (hk : (k : Int) = 0) : ordT (ahead ts k) x = false := by rw [ahead_none hk]; rfl
theorem ordT_1 {ts : List ByteArray} {k : Nat} {x y : ByteArray} (hk : (0 : Int) < k) (hy : ts[((k : Int) - 1).toNat]? = some y) : ordT (ahead ts k) x = sLe x y := by rw [ahead_pred hk hy]; rfl
theorem fL_9 {sp : Int} {p : Option LapR} {x : LapR} (h : x.from_ < 0 ∨ x.to ≤ x.from_ ∨ sp < x.to) : fL sp p x = 9 := by unfold fL; rw [if_pos h]
theorem fL_10 {sp : Int} {p : Option LapR} {x : LapR} (h : ¬(x.from_ < 0 ∨ x.to ≤ x.from_ ∨ sp < x.to)) (h2 : ordL p x = true) : fL sp p x = 10 := by unfold fL; rw [if_neg h, if_pos h2]
theorem fL_8 {sp : Int} {p : Option LapR} {x : LapR} (h : ¬(x.from_ < 0 ∨ x.to ≤ x.from_ ∨ sp < x.to)) (h2 : ordL p x = false) (h3 : titleB x.name = false) : fL sp p x = 8 := by unfold fL; rw [if_neg h, if_neg (by rw [h2]; simp), if_pos h3]
theorem fL_0 {sp : Int} {p : Option LapR} {x : LapR} (h : ¬(x.from_ < 0 ∨ x.to ≤ x.from_ ∨ sp < x.to)) (h2 : ordL p x = false) (h3 : titleB x.name = true) : fL sp p x = 0 := by unfold fL; rw [if_neg h, if_neg (by rw [h2]; simp), if_neg (by rw [h3]; simp)]
theorem fT_8 {p : Option ByteArray} {x : ByteArray} (h : nameB x = false) : fT p x = 8 := by unfold fT; rw [if_pos h]
theorem fT_10 {p : Option ByteArray} {x : ByteArray} (h : nameB x = true) (h2 : ordT p x = true) : fT p x = 10 := by unfold fT; rw [if_neg (by rw [h]; simp), if_pos h2]
theorem fT_0 {p : Option ByteArray} {x : ByteArray} (h : nameB x = true) (h2 : ordT p x = false) : fT p x = 0 := by unfold fT; rw [if_neg (by rw [h]; simp), if_neg (by rw [h2]; simp)]
theorem record_Check (A : ActV) (w : World) (hA : A.Ok w.heap.size w) : Calls Try.prog 54 #[.agg #[.string A.name, .int .i64 A.sport, .int .i64 A.start, .slice A.sa A.sn A.sc, .slice A.la A.ln A.lc, .slice A.ta A.tn A.tc]] w fun e w' => e = .returned (.int .i64 (chkA A.d)) ∧ Below w.heap.size w w' := by
  have hsn := hA.s.len
  have hln := hA.l.len
  have htn := hA.t.len
  have hsf := hA.s.fit
  have hlf := hA.l.fit
  have htf := hA.t.fit
  refine enterQ (N := 164) (C := fun _ => True) (H := []) (B := w.heap.size) (args := [_]) Try.func54 rfl rfl rfl (Nat.le_refl _) (Sat.nil _ _) fun Q hQ => ?_
  refine wp_seq' fun K1 hK1 => ?_
  refine wp_reg ?_
  refine ol_box 1 rfl rfl rfl fun b1 => ?_
  refine ol_r (r_assign rfl) rfl ?_
  refine ol_nil (to_k0 (fun _ _ h => h) (hK1 _ _ _ _ _ ?_))
  clear hK1
  refine wp_seq' fun K2 hK2 => ?_
  refine wp_block' ?_
  refine wp_seq' fun K3 hK3 => ?_
  refine wp_reg ?_
  refine ol_r (r_fa (o' := 0) rfl fl39_0 rfl) rfl ?_
  refine ol_r (r_ld (id := 1) rfl rfl rfl sc9) rfl ?_
  refine ol_call rfl rfl cb44 rfl (fun w1 hb1 hs1 hB1 => Calls.mono (quant_IsName A.name _ hA.nm) ?_)
  rintro e w2 ⟨rfl, hb2⟩
  refine After.below rfl hb1 hs1 hB1 hb2 ?_
  clear hb2 hB1 hs1 hb1 w2 w1
  refine ol_r (r_not rfl) rfl ?_
  refine ol_r (r_assign rfl) rfl ?_
  refine ol_nil (to_k0 (fun _ _ h => h) (hK3 _ _ _ _ _ ?_))
  clear hK3
  refine wp_condNB rfl (fun hc10 => ?_) (fun hc10 => ?_)
  ·refine wp_seq' fun K4 hK4 => ?_
   refine wp_reg ?_
   refine ol_r (r_assign rfl) rfl ?_
   refine ol_nil (to_k0 (fun _ _ h => h) (hK4 _ _ _ _ _ ?_))
   clear hK4
   refine hQ.ret (rvs1 (rv_t rfl)) (fun _ _ h => h) fun w hb hs hB hkd => ?_
   first
     | (exact ⟨by rw [chkA_8 (a := A.d) (show nameB A.name = false by simpa using hc10)], hb⟩; done)
  ·refine wp_seq' fun K5 hK5 => ?_
   refine wp_reg ?_
   refine ol_r (r_fa (o' := 1) rfl fl39_1 rfl) rfl ?_
   refine ol_r (r_ld (id := 1) rfl rfl rfl sc3) rfl ?_
   refine ol_call rfl rfl cb83 rfl (fun w1 hb1 hs1 hB1 => Calls.mono (record_in _ _ _ _) ?_)
   rintro e w2 ⟨rfl, hb2⟩
   refine After.below rfl hb1 hs1 hB1 hb2 ?_
   clear hb2 hB1 hs1 hb1 w2 w1
   refine ol_r (r_not rfl) rfl ?_
   refine ol_r (r_assign rfl) rfl ?_
   refine ol_nil (to_k0 (fun _ _ h => h) (hK5 _ _ _ _ _ ?_))
   clear hK5
   refine wp_condNB rfl (fun hc15 => ?_) (fun hc15 => ?_)
   ·refine wp_seq' fun K6 hK6 => ?_
    refine wp_reg ?_
    refine ol_r (r_assign rfl) rfl ?_
    refine ol_nil (to_k0 (fun _ _ h => h) (hK6 _ _ _ _ _ ?_))
    clear hK6
    refine hQ.ret (rvs1 (rv_t rfl)) (fun _ _ h => h) fun w hb hs hB hkd => ?_
    first
      | (exact ⟨by rw [chkA_7 (a := A.d) (show nameB A.name = true by simpa using hc10) (show inB A.sport 1 5 = false by simpa using hc15)], hb⟩; done)
   ·refine wp_seq' fun K7 hK7 => ?_
    refine wp_reg ?_
    refine ol_r (r_fa (o' := 2) rfl fl39_2 rfl) rfl ?_
    refine ol_r (r_ld (id := 1) rfl rfl rfl sc3) rfl ?_
    refine ol_call rfl rfl cb83 rfl (fun w1 hb1 hs1 hB1 => Calls.mono (record_in _ _ _ _) ?_)
    rintro e w2 ⟨rfl, hb2⟩
    refine After.below rfl hb1 hs1 hB1 hb2 ?_
    clear hb2 hB1 hs1 hb1 w2 w1
    refine ol_r (r_not rfl) rfl ?_
    refine ol_r (r_assign rfl) rfl ?_
    refine ol_nil (to_k0 (fun _ _ h => h) (hK7 _ _ _ _ _ ?_))
    clear hK7
    refine wp_condNB rfl (fun hc20 => ?_) (fun hc20 => ?_)
    ·refine wp_seq' fun K8 hK8 => ?_
     refine wp_reg ?_
     refine ol_r (r_assign rfl) rfl ?_
     refine ol_nil (to_k0 (fun _ _ h => h) (hK8 _ _ _ _ _ ?_))
     clear hK8
     refine hQ.ret (rvs1 (rv_t rfl)) (fun _ _ h => h) fun w hb hs hB hkd => ?_
     first
       | (exact ⟨by rw [chkA_9 (a := A.d) (show nameB A.name = true by simpa using hc10) (show inB A.sport 1 5 = true by simpa using hc15) (show inB A.start 0 86399999999 = false by simpa using hc20)], hb⟩; done)
    ·refine wp_seq' fun K9 hK9 => ?_
     refine wp_reg ?_
     refine ol_r (r_fa (o' := 3) rfl fl39_3 rfl) rfl ?_
     refine ol_r (r_ld (id := 1) rfl rfl rfl sc35) rfl ?_
     refine ol_r (r_len rfl sl35) rfl ?_
     refine ol_r (r_gtr rfl rfl) rfl ?_
     refine ol_r (r_move rfl) rfl ?_
     refine ol_split (d := 30) rfl (fun hs30 => ?_) (fun hs30 => ?_)
     ·have phs30 := hs30; try simp only [decide_eq_true_eq, decide_eq_false_iff_not, Bool.not_eq_true', Bool.not_eq_false', Bool.not_true, Bool.not_false] at phs30
      refine ol_s rfl rfl hs30 rfl ?_
      refine ol_s rfl rfl hs30 rfl ?_
      refine ol_s rfl rfl hs30 rfl ?_
      refine ol_s rfl rfl hs30 rfl ?_
      refine ol_r (r_pickT rfl hs30 rfl) rfl ?_
      refine ol_r (r_move rfl) rfl ?_
      refine ol_s rfl rfl rfl rfl ?_
      refine ol_s rfl rfl rfl rfl ?_
      refine ol_s rfl rfl rfl rfl ?_
      refine ol_s rfl rfl rfl rfl ?_
      refine ol_r (r_pickT rfl rfl rfl) rfl ?_
      refine ol_r (r_assign rfl) rfl ?_
      refine ol_nil (to_k0 (fun _ _ h => h) (hK9 _ _ _ _ _ ?_))
      clear hK9
      refine wp_condT rfl ?_
      refine wp_seq' fun K10 hK10 => ?_
      refine wp_reg ?_
      refine ol_r (r_assign rfl) rfl ?_
      refine ol_nil (to_k0 (fun _ _ h => h) (hK10 _ _ _ _ _ ?_))
      clear hK10
      refine hQ.ret (rvs1 (rv_t rfl)) (fun _ _ h => h) fun w hb hs hB hkd => ?_
      first
        | (exact ⟨by rw [chkA_3 (a := A.d) (show nameB A.name = true by simpa using hc10) (show inB A.sport 1 5 = true by simpa using hc15) (show inB A.start 0 86399999999 = true by simpa using hc20) (show 20000 < A.ss.length ∨ 200 < A.ls.length ∨ 20 < A.ts.length by omega)], hb⟩; done)
     ·have phs30 := hs30; try simp only [decide_eq_true_eq, decide_eq_false_iff_not, Bool.not_eq_true', Bool.not_eq_false', Bool.not_true, Bool.not_false] at phs30
      refine ol_g rfl rfl hs30 ?_
      refine ol_r (r_fa (o' := 4) rfl fl39_4 rfl) rfl ?_
      refine ol_g rfl rfl hs30 ?_
      refine ol_r (r_ld (id := 1) rfl rfl rfl sc36) rfl ?_
      refine ol_g rfl rfl hs30 ?_
      refine ol_r (r_len rfl sl36) rfl ?_
      refine ol_g rfl rfl hs30 ?_
      refine ol_r (r_gtr rfl rfl) rfl ?_
      refine ol_r (r_pickF rfl hs30 rfl) rfl ?_
      refine ol_r (r_move rfl) rfl ?_
      refine ol_split (d := 36) rfl (fun hs36 => ?_) (fun hs36 => ?_)
      ·have phs36 := hs36; try simp only [decide_eq_true_eq, decide_eq_false_iff_not, Bool.not_eq_true', Bool.not_eq_false', Bool.not_true, Bool.not_false] at phs36
       refine ol_s rfl rfl hs36 rfl ?_
       refine ol_s rfl rfl hs36 rfl ?_
       refine ol_s rfl rfl hs36 rfl ?_
       refine ol_s rfl rfl hs36 rfl ?_
       refine ol_r (r_pickT rfl hs36 rfl) rfl ?_
       refine ol_r (r_assign rfl) rfl ?_
       refine ol_nil (to_k0 (fun _ _ h => h) (hK9 _ _ _ _ _ ?_))
       clear hK9
       refine wp_condT rfl ?_
       refine wp_seq' fun K11 hK11 => ?_
       refine wp_reg ?_
       refine ol_r (r_assign rfl) rfl ?_
       refine ol_nil (to_k0 (fun _ _ h => h) (hK11 _ _ _ _ _ ?_))
       clear hK11
       refine hQ.ret (rvs1 (rv_t rfl)) (fun _ _ h => h) fun w hb hs hB hkd => ?_
       first
         | (exact ⟨by rw [chkA_3 (a := A.d) (show nameB A.name = true by simpa using hc10) (show inB A.sport 1 5 = true by simpa using hc15) (show inB A.start 0 86399999999 = true by simpa using hc20) (show 20000 < A.ss.length ∨ 200 < A.ls.length ∨ 20 < A.ts.length by omega)], hb⟩; done)
      ·have phs36 := hs36; try simp only [decide_eq_true_eq, decide_eq_false_iff_not, Bool.not_eq_true', Bool.not_eq_false', Bool.not_true, Bool.not_false] at phs36
       refine ol_g rfl rfl hs36 ?_
       refine ol_r (r_fa (o' := 5) rfl fl39_5 rfl) rfl ?_
       refine ol_g rfl rfl hs36 ?_
       refine ol_r (r_ld (id := 1) rfl rfl rfl sc37) rfl ?_
       refine ol_g rfl rfl hs36 ?_
       refine ol_r (r_len rfl sl37) rfl ?_
       refine ol_g rfl rfl hs36 ?_
       refine ol_r (r_gtr rfl rfl) rfl ?_
       refine ol_r (r_pickF rfl hs36 rfl) rfl ?_
       refine ol_r (r_assign rfl) rfl ?_
       refine ol_nil (to_k0 (fun _ _ h => h) (hK9 _ _ _ _ _ ?_))
       clear hK9
       refine wp_condD rfl (fun hc25 => ?_) (fun hc25 => ?_)
       ·refine wp_seq' fun K12 hK12 => ?_
        refine wp_reg ?_
        refine ol_r (r_assign rfl) rfl ?_
        refine ol_nil (to_k0 (fun _ _ h => h) (hK12 _ _ _ _ _ ?_))
        clear hK12
        refine hQ.ret (rvs1 (rv_t rfl)) (fun _ _ h => h) fun w hb hs hB hkd => ?_
        first
          | (exact ⟨by rw [chkA_3 (a := A.d) (show nameB A.name = true by simpa using hc10) (show inB A.sport 1 5 = true by simpa using hc15) (show inB A.start 0 86399999999 = true by simpa using hc20) (show 20000 < A.ss.length ∨ 200 < A.ls.length ∨ 20 < A.ts.length by omega)], hb⟩; done)
       ·refine wp_skip' (to_k0 (fun _ _ h => h) (hK2 _ _ _ _ _ ?_))
        clear hK2
        refine wp_seq' fun K13 hK13 => ?_
        refine wp_seq' fun K14 hK14 => ?_
        refine wp_reg ?_
        have hH : headA A.d := ⟨show nameB A.name = true by simpa using hc10, show inB A.sport 1 5 = true by simpa using hc15, show inB A.start 0 86399999999 = true by simpa using hc20, by show A.ss.length ≤ 20000; simp_all; omega, by show A.ls.length ≤ 200; simp_all; omega, by show A.ts.length ≤ 20; simp_all; omega⟩
        have hst := inB_iff.1 hH.2.2.1
        simp only [ActV.d] at hst
        refine ol_r (r_fa (o' := 3) rfl fl39_3 rfl) rfl ?_
        refine ol_r (r_ld (id := 1) rfl rfl rfl sc35) rfl ?_
        refine ol_r (r_len rfl sl35) rfl ?_
        refine ol_r (r_move rfl) rfl ?_
        refine ol_nil (to_k0 (fun _ _ h => h) (hK14 _ _ _ _ _ ?_))
        clear hK14
        refine wp_block' ?_
        apply wp_loopM (σ := Nat) (fun s => s ≤ A.sn ∧ chkE (fS A.start) none A.ss = chkE (fS A.start) (ahead A.ss s) (A.ss.drop s) ∧ (∀ j y, j < s → A.ss[j]? = some y → 0 ≤ y.at_)) (fun s => [(45, .int .i64 s)]) [(1, _), (43, _), (44, _)] (fun s => []) [(1, _)] (fun s => A.sn - s) (0)
        ·try dsimp only
         exact ⟨Nat.zero_le _, chkE_start _ _, fun j y h => by omega⟩
        ·exact (sub_cons rfl sub_nil)
        ·exact (sub_cons rfl (sub_cons rfl (sub_cons rfl sub_nil)))
        ·exact subH_nil
        ·exact (subH_same rfl subH_nil)
        ·rintro k ⟨hk, hP, hpos⟩
         intro K15 hK15
         refine wp_seq' fun K16 hK16 => ?_
         refine wp_reg ?_
         refine ol_r (r_lss rfl rfl) rfl ?_
         refine ol_nil (to_k0 (fun _ _ h => h) (hK16 _ _ _ _ _ ?_))
         clear hK16
         refine wp_seq' fun K17 hK17 => ?_
         refine wp_condD rfl (fun hc46 => ?_) (fun hc46 => ?_)
         ·refine wp_skip' (to_k0 (fun _ _ h => h) (hK17 _ _ _ _ _ ?_))
          clear hK17
          refine wp_seq' fun K18 hK18 => ?_
          refine wp_block' ?_
          refine wp_seq' fun K19 hK19 => ?_
          refine wp_reg ?_
          refine ol_r (r_move rfl) rfl ?_
          refine ol_ixr hA.s rfl rfl sl35 (by omega) rfl fun x48 hx48 => ?_
          try simp only [Int.toNat_natCast] at hx48
          refine ol_r (r_ldw rfl (fun w1 hb1 hs1 hB1 => Rd.loads hA.s ty51 hx48 hb1)) rfl ?_
          refine ol_alloc 4 z51 rfl fun b4 => ?_
          refine ol_r (r_assign rfl) rfl ?_
          refine ol_store (id := 4) rfl rfl rfl rfl sz51 rfl rfl (by first | decide | exact Nat.zero_lt_succ _ | simp) ?_
          refine ol_nil (to_k0 (fun _ _ h => h) (hK19 _ _ _ _ _ ?_))
          clear hK19
          refine wp_block' ?_
          refine wp_seq' fun K20 hK20 => ?_
          refine wp_seq' fun K21 hK21 => ?_
          refine wp_reg ?_
          refine ol_r (r_move rfl) rfl ?_
          refine ol_r (r_eql rfl rfl) rfl ?_
          refine ol_r (r_move rfl) rfl ?_
          refine ol_split (d := 53) rfl (fun hs53 => ?_) (fun hs53 => ?_)
          ·have phs53 := hs53; try simp only [decide_eq_true_eq, decide_eq_false_iff_not, Bool.not_eq_true', Bool.not_eq_false', Bool.not_true, Bool.not_false] at phs53
           refine ol_g rfl rfl hs53 ?_
           refine ol_r (r_fa (o' := 0) rfl fl51_0 rfl) rfl ?_
           refine ol_g rfl rfl hs53 ?_
           refine ol_r (r_ld (id := 4) rfl rfl rfl sc3) rfl ?_
           refine ol_g rfl rfl hs53 ?_
           refine ol_r (r_neq rfl rfl) rfl ?_
           refine ol_r (r_pickT rfl hs53 rfl) rfl ?_
           refine ol_r (r_assign rfl) rfl ?_
           refine ol_nil (to_k0 (fun _ _ h => h) (hK21 _ _ _ _ _ ?_))
           clear hK21
           refine wp_condD rfl (fun hc50 => ?_) (fun hc50 => ?_)
           ·refine wp_skip' (to_k0 (fun _ _ h => h) (hK20 _ _ _ _ _ ?_))
            clear hK20
            refine wp_condD rfl (fun hc50 => ?_) (fun hc50 => ?_)
            ·refine wp_seq' fun K22 hK22 => ?_
             refine wp_reg ?_
             refine ol_r (r_assign rfl) rfl ?_
             refine ol_nil (to_k0 (fun _ _ h => h) (hK22 _ _ _ _ _ ?_))
             clear hK22
             refine hQ.ret (rvs1 (rv_t rfl)) (fun _ _ h => h) fun w hb hs hB hkd => ?_
             first
               | (have ho : ordS (ahead A.ss k) x48 = true := by
                    first
                      | (rw [ordS_0 (by omega), decide_eq_true (by omega)]; done)
                      | (rw [ordS_1 (by omega) hx67, decide_eq_true (by omega)]; done)
                  have h := chkE_bad hP hx48 (fS_10 ho) (by simp)
                  exact ⟨by rw [(chkA_s hH (by show chkE (fS A.start) none A.ss ≠ 0; rw [h]; simp)).trans h], hb⟩)
            ·refine wp_seq' fun K23 hK23 => ?_
             refine wp_reg ?_
             refine ol_r (r_fa (o' := 0) rfl fl51_0 rfl) rfl ?_
             refine ol_r (r_ld (id := 4) rfl rfl rfl sc3) rfl ?_
             refine ol_r (r_gtr rfl rfl) rfl ?_
             refine ol_r (r_move rfl) rfl ?_
             refine ol_split (d := 76) rfl (fun hs76 => ?_) (fun hs76 => ?_)
             ·have phs76 := hs76; try simp only [decide_eq_true_eq, decide_eq_false_iff_not, Bool.not_eq_true', Bool.not_eq_false', Bool.not_true, Bool.not_false] at phs76
              refine ol_s rfl rfl hs76 rfl ?_
              refine ol_s rfl rfl hs76 rfl ?_
              refine ol_s rfl rfl hs76 rfl ?_
              refine ol_s rfl rfl hs76 rfl ?_
              refine ol_s rfl rfl hs76 rfl ?_
              refine ol_s rfl rfl hs76 rfl ?_
              refine ol_r (r_pickT rfl hs76 rfl) rfl ?_
              refine ol_r (r_move rfl) rfl ?_
              refine ol_s rfl rfl rfl rfl ?_
              refine ol_s rfl rfl rfl rfl ?_
              refine ol_s rfl rfl rfl rfl ?_
              refine ol_r (r_pickT rfl rfl rfl) rfl ?_
              refine ol_r (r_assign rfl) rfl ?_
              refine ol_nil (to_k0 (fun _ _ h => h) (hK23 _ _ _ _ _ ?_))
              clear hK23
              refine wp_condT rfl ?_
              refine wp_seq' fun K24 hK24 => ?_
              refine wp_reg ?_
              refine ol_r (r_assign rfl) rfl ?_
              refine ol_nil (to_k0 (fun _ _ h => h) (hK24 _ _ _ _ _ ?_))
              clear hK24
              refine hQ.ret (rvs1 (rv_t rfl)) (fun _ _ h => h) fun w hb hs hB hkd => ?_
              first
                | (exfalso; omega)
             ·have phs76 := hs76; try simp only [decide_eq_true_eq, decide_eq_false_iff_not, Bool.not_eq_true', Bool.not_eq_false', Bool.not_true, Bool.not_false] at phs76
              refine ol_g rfl rfl hs76 ?_
              refine ol_r (r_fa (o' := 2) rfl fl39_2 rfl) rfl ?_
              refine ol_g rfl rfl hs76 ?_
              refine ol_r (r_ld (id := 1) rfl rfl rfl sc3) rfl ?_
              refine ol_g rfl rfl hs76 ?_
              refine ol_r (r_fa (o' := 0) rfl fl51_0 rfl) rfl ?_
              refine ol_g rfl rfl hs76 ?_
              refine ol_r (r_ld (id := 4) rfl rfl rfl sc3) rfl ?_
              refine ol_g rfl rfl hs76 ?_
              have hlo := hA.lo _ (List.mem_of_getElem? hx48)
              have hat : 0 ≤ x48.at_ := by
                first
                  | (have h1 := hpos _ _ (by omega) hx67
                     omega)
                  | omega
              refine ol_r (r_add rfl rfl (by omega)) rfl ?_
              refine ol_g rfl rfl hs76 ?_
              refine ol_r (r_gtr rfl rfl) rfl ?_
              refine ol_r (r_pickF rfl hs76 rfl) rfl ?_
              refine ol_r (r_move rfl) rfl ?_
              refine ol_split (d := 84) rfl (fun hs84 => ?_) (fun hs84 => ?_)
              ·have phs84 := hs84; try simp only [decide_eq_true_eq, decide_eq_false_iff_not, Bool.not_eq_true', Bool.not_eq_false', Bool.not_true, Bool.not_false] at phs84
               refine ol_s rfl rfl hs84 rfl ?_
               refine ol_s rfl rfl hs84 rfl ?_
               refine ol_s rfl rfl hs84 rfl ?_
               refine ol_r (r_pickT rfl hs84 rfl) rfl ?_
               refine ol_r (r_assign rfl) rfl ?_
               refine ol_nil (to_k0 (fun _ _ h => h) (hK23 _ _ _ _ _ ?_))
               clear hK23
               refine wp_condT rfl ?_
               refine wp_seq' fun K25 hK25 => ?_
               refine wp_reg ?_
               refine ol_r (r_assign rfl) rfl ?_
               refine ol_nil (to_k0 (fun _ _ h => h) (hK25 _ _ _ _ _ ?_))
               clear hK25
               refine hQ.ret (rvs1 (rv_t rfl)) (fun _ _ h => h) fun w hb hs hB hkd => ?_
               first
                 | (exfalso; omega)
              ·have phs84 := hs84; try simp only [decide_eq_true_eq, decide_eq_false_iff_not, Bool.not_eq_true', Bool.not_eq_false', Bool.not_true, Bool.not_false] at phs84
               refine ol_g rfl rfl hs84 ?_
               refine ol_r (r_lda (id := 4) (n := 7) rfl rfl rfl ag51) rfl ?_
               refine ol_g rfl rfl hs84 ?_
               refine ol_call rfl rfl cb84 rfl (fun w1 hb1 hs1 hB1 => Calls.mono (record_inRange x48 _) ?_)
               rintro e w2 ⟨rfl, hb2⟩
               refine After.below rfl hb1 hs1 hB1 hb2 ?_
               clear hb2 hB1 hs1 hb1 w2 w1
               refine ol_g rfl rfl hs84 ?_
               refine ol_r (r_not rfl) rfl ?_
               refine ol_r (r_pickF rfl hs84 rfl) rfl ?_
               refine ol_r (r_assign rfl) rfl ?_
               refine ol_nil (to_k0 (fun _ _ h => h) (hK23 _ _ _ _ _ ?_))
               clear hK23
               refine wp_condNB rfl (fun hc72 => ?_) (fun hc72 => ?_)
               ·refine wp_seq' fun K26 hK26 => ?_
                refine wp_reg ?_
                refine ol_r (r_assign rfl) rfl ?_
                refine ol_nil (to_k0 (fun _ _ h => h) (hK26 _ _ _ _ _ ?_))
                clear hK26
                refine hQ.ret (rvs1 (rv_t rfl)) (fun _ _ h => h) fun w hb hs hB hkd => ?_
                first
                  | (exfalso; omega)
               ·refine wp_skip' (to_k0 (fun _ _ h => h) (hK18 _ _ _ _ _ ?_))
                clear hK18
                refine wp_reg ?_
                refine ol_r (r_add rfl rfl (by omega)) rfl ?_
                refine ol_r (r_move rfl) rfl ?_
                refine ol_nil (to_k0 (fun _ _ h => h) (hK15 (k + 1) _ _ ?_ ?_ (sub_cons rfl sub_nil) (sub_cons rfl (sub_cons rfl (sub_cons rfl sub_nil))) (by exact subH_nil) (subH_same rfl subH_nil)))
                ·try dsimp only
                 first
                   | (exfalso; omega)
                ·try dsimp only
                 omega
           ·refine wp_regq (by kernel_rfl) (by kernel_rfl) ?_
            refine ql_r (r_move rfl) rfl ?_
            refine ql_r (r_gtr rfl rfl) rfl ?_
            refine ql_r (r_move rfl) rfl ?_
            refine ql_split (d := 60) rfl (fun hs60 => ?_) (fun hs60 => ?_)
            ·have phs60 := hs60; try simp only [decide_eq_true_eq, decide_eq_false_iff_not, Bool.not_eq_true', Bool.not_eq_false', Bool.not_true, Bool.not_false] at phs60
             refine ql_g rfl rfl hs60 ?_
             refine ql_r (r_fa (o' := 0) rfl fl51_0 rfl) rfl ?_
             refine ql_g rfl rfl hs60 ?_
             refine ql_r (r_ld (id := 4) rfl rfl rfl sc3) rfl ?_
             refine ql_g rfl rfl hs60 ?_
             refine ql_r (r_fa (o' := 3) rfl fl39_3 rfl) rfl ?_
             refine ql_g rfl rfl hs60 ?_
             refine ql_r (r_ld (id := 1) rfl rfl rfl sc35) rfl ?_
             refine ql_g rfl rfl hs60 ?_
             refine ql_r (r_move rfl) rfl ?_
             refine ql_g rfl rfl hs60 ?_
             refine ql_r (r_sub rfl rfl (by omega)) rfl ?_
             refine ql_g rfl rfl hs60 ?_
             refine ql_ixr hA.s rfl rfl sl35 (by omega) rfl fun x67 hx67 => ?_
             try simp only [Int.toNat_natCast] at hx67
             refine ql_g rfl rfl hs60 ?_
             refine ql_r (r_faw rfl (ix_some hA.s (by omega)) fl51_0) rfl ?_
             refine ql_g rfl rfl hs60 ?_
             refine ql_r (r_ldw rfl (fun w1 hb1 hs1 hB1 => Rd.loadsF (o := 0) hA.s sc3 hx67 hb1 rfl)) rfl ?_
             refine ql_g rfl rfl hs60 ?_
             refine ql_r (r_leq rfl rfl) rfl ?_
             refine ql_r (r_pickT rfl hs60 rfl) rfl ?_
             refine ql_r (r_assign rfl) rfl ?_
             refine ql_nil (to_k0 (fun _ _ h => h) (hK20 _ _ _ _ _ ?_))
             clear hK20
             refine wp_condD rfl (fun hc50 => ?_) (fun hc50 => ?_)
             ·refine wp_seq' fun K27 hK27 => ?_
              refine wp_reg ?_
              refine ol_r (r_assign rfl) rfl ?_
              refine ol_nil (to_k0 (fun _ _ h => h) (hK27 _ _ _ _ _ ?_))
              clear hK27
              refine hQ.ret (rvs1 (rv_t rfl)) (fun _ _ h => h) fun w hb hs hB hkd => ?_
              first
                | (exfalso; omega)
             ·refine wp_seq' fun K28 hK28 => ?_
              refine wp_reg ?_
              refine ol_r (r_fa (o' := 0) rfl fl51_0 rfl) rfl ?_
              refine ol_r (r_ld (id := 4) rfl rfl rfl sc3) rfl ?_
              refine ol_r (r_gtr rfl rfl) rfl ?_
              refine ol_r (r_move rfl) rfl ?_
              refine ol_split (d := 76) rfl (fun hs76 => ?_) (fun hs76 => ?_)
              ·have phs76 := hs76; try simp only [decide_eq_true_eq, decide_eq_false_iff_not, Bool.not_eq_true', Bool.not_eq_false', Bool.not_true, Bool.not_false] at phs76
               refine ol_s rfl rfl hs76 rfl ?_
               refine ol_s rfl rfl hs76 rfl ?_
               refine ol_s rfl rfl hs76 rfl ?_
               refine ol_s rfl rfl hs76 rfl ?_
               refine ol_s rfl rfl hs76 rfl ?_
               refine ol_s rfl rfl hs76 rfl ?_
               refine ol_r (r_pickT rfl hs76 rfl) rfl ?_
               refine ol_r (r_move rfl) rfl ?_
               refine ol_s rfl rfl rfl rfl ?_
               refine ol_s rfl rfl rfl rfl ?_
               refine ol_s rfl rfl rfl rfl ?_
               refine ol_r (r_pickT rfl rfl rfl) rfl ?_
               refine ol_r (r_assign rfl) rfl ?_
               refine ol_nil (to_k0 (fun _ _ h => h) (hK28 _ _ _ _ _ ?_))
               clear hK28
               refine wp_condT rfl ?_
               refine wp_seq' fun K29 hK29 => ?_
               refine wp_reg ?_
               refine ol_r (r_assign rfl) rfl ?_
               refine ol_nil (to_k0 (fun _ _ h => h) (hK29 _ _ _ _ _ ?_))
               clear hK29
               refine hQ.ret (rvs1 (rv_t rfl)) (fun _ _ h => h) fun w hb hs hB hkd => ?_
               first
                 | (exfalso; omega)
              ·have phs76 := hs76; try simp only [decide_eq_true_eq, decide_eq_false_iff_not, Bool.not_eq_true', Bool.not_eq_false', Bool.not_true, Bool.not_false] at phs76
               refine ol_g rfl rfl hs76 ?_
               refine ol_r (r_fa (o' := 2) rfl fl39_2 rfl) rfl ?_
               refine ol_g rfl rfl hs76 ?_
               refine ol_r (r_ld (id := 1) rfl rfl rfl sc3) rfl ?_
               refine ol_g rfl rfl hs76 ?_
               refine ol_r (r_fa (o' := 0) rfl fl51_0 rfl) rfl ?_
               refine ol_g rfl rfl hs76 ?_
               refine ol_r (r_ld (id := 4) rfl rfl rfl sc3) rfl ?_
               refine ol_g rfl rfl hs76 ?_
               have hlo := hA.lo _ (List.mem_of_getElem? hx48)
               have hat : 0 ≤ x48.at_ := by
                 first
                   | (have h1 := hpos _ _ (by omega) hx67
                      omega)
                   | omega
               refine ol_r (r_add rfl rfl (by omega)) rfl ?_
               refine ol_g rfl rfl hs76 ?_
               refine ol_r (r_gtr rfl rfl) rfl ?_
               refine ol_r (r_pickF rfl hs76 rfl) rfl ?_
               refine ol_r (r_move rfl) rfl ?_
               refine ol_split (d := 84) rfl (fun hs84 => ?_) (fun hs84 => ?_)
               ·have phs84 := hs84; try simp only [decide_eq_true_eq, decide_eq_false_iff_not, Bool.not_eq_true', Bool.not_eq_false', Bool.not_true, Bool.not_false] at phs84
                refine ol_s rfl rfl hs84 rfl ?_
                refine ol_s rfl rfl hs84 rfl ?_
                refine ol_s rfl rfl hs84 rfl ?_
                refine ol_r (r_pickT rfl hs84 rfl) rfl ?_
                refine ol_r (r_assign rfl) rfl ?_
                refine ol_nil (to_k0 (fun _ _ h => h) (hK28 _ _ _ _ _ ?_))
                clear hK28
                refine wp_condT rfl ?_
                refine wp_seq' fun K30 hK30 => ?_
                refine wp_reg ?_
                refine ol_r (r_assign rfl) rfl ?_
                refine ol_nil (to_k0 (fun _ _ h => h) (hK30 _ _ _ _ _ ?_))
                clear hK30
                refine hQ.ret (rvs1 (rv_t rfl)) (fun _ _ h => h) fun w hb hs hB hkd => ?_
                first
                  | (exfalso; omega)
               ·have phs84 := hs84; try simp only [decide_eq_true_eq, decide_eq_false_iff_not, Bool.not_eq_true', Bool.not_eq_false', Bool.not_true, Bool.not_false] at phs84
                refine ol_g rfl rfl hs84 ?_
                refine ol_r (r_lda (id := 4) (n := 7) rfl rfl rfl ag51) rfl ?_
                refine ol_g rfl rfl hs84 ?_
                refine ol_call rfl rfl cb84 rfl (fun w1 hb1 hs1 hB1 => Calls.mono (record_inRange x48 _) ?_)
                rintro e w2 ⟨rfl, hb2⟩
                refine After.below rfl hb1 hs1 hB1 hb2 ?_
                clear hb2 hB1 hs1 hb1 w2 w1
                refine ol_g rfl rfl hs84 ?_
                refine ol_r (r_not rfl) rfl ?_
                refine ol_r (r_pickF rfl hs84 rfl) rfl ?_
                refine ol_r (r_assign rfl) rfl ?_
                refine ol_nil (to_k0 (fun _ _ h => h) (hK28 _ _ _ _ _ ?_))
                clear hK28
                refine wp_condNB rfl (fun hc72 => ?_) (fun hc72 => ?_)
                ·refine wp_seq' fun K31 hK31 => ?_
                 refine wp_reg ?_
                 refine ol_r (r_assign rfl) rfl ?_
                 refine ol_nil (to_k0 (fun _ _ h => h) (hK31 _ _ _ _ _ ?_))
                 clear hK31
                 refine hQ.ret (rvs1 (rv_t rfl)) (fun _ _ h => h) fun w hb hs hB hkd => ?_
                 first
                   | (exfalso; omega)
                ·refine wp_skip' (to_k0 (fun _ _ h => h) (hK18 _ _ _ _ _ ?_))
                 clear hK18
                 refine wp_reg ?_
                 refine ol_r (r_add rfl rfl (by omega)) rfl ?_
                 refine ol_r (r_move rfl) rfl ?_
                 refine ol_nil (to_k0 (fun _ _ h => h) (hK15 (k + 1) _ _ ?_ ?_ (sub_cons rfl sub_nil) (sub_cons rfl (sub_cons rfl (sub_cons rfl sub_nil))) (by exact subH_nil) (subH_same rfl subH_nil)))
                 ·try dsimp only
                  first
                    | (exfalso; omega)
                 ·try dsimp only
                  omega
            ·have phs60 := hs60; try simp only [decide_eq_true_eq, decide_eq_false_iff_not, Bool.not_eq_true', Bool.not_eq_false', Bool.not_true, Bool.not_false] at phs60
             refine ql_s rfl rfl hs60 rfl ?_
             refine ql_s rfl rfl hs60 rfl ?_
             refine ql_s rfl rfl hs60 rfl ?_
             refine ql_s rfl rfl hs60 rfl ?_
             refine ql_s rfl rfl hs60 rfl ?_
             refine ql_s rfl rfl hs60 rfl ?_
             refine ql_s rfl rfl hs60 rfl ?_
             refine ql_s rfl rfl hs60 rfl ?_
             refine ql_s rfl rfl hs60 rfl ?_
             refine ql_s rfl rfl hs60 rfl ?_
             refine ql_r (r_pickF rfl hs60 rfl) rfl ?_
             refine ql_r (r_assign rfl) rfl ?_
             refine ql_nil (to_k0 (fun _ _ h => h) (hK20 _ _ _ _ _ ?_))
             clear hK20
             refine wp_condF rfl ?_
             refine wp_seq' fun K32 hK32 => ?_
             refine wp_reg ?_
             refine ol_r (r_fa (o' := 0) rfl fl51_0 rfl) rfl ?_
             refine ol_r (r_ld (id := 4) rfl rfl rfl sc3) rfl ?_
             refine ol_r (r_gtr rfl rfl) rfl ?_
             refine ol_r (r_move rfl) rfl ?_
             refine ol_split (d := 76) rfl (fun hs76 => ?_) (fun hs76 => ?_)
             ·have phs76 := hs76; try simp only [decide_eq_true_eq, decide_eq_false_iff_not, Bool.not_eq_true', Bool.not_eq_false', Bool.not_true, Bool.not_false] at phs76
              refine ol_s rfl rfl hs76 rfl ?_
              refine ol_s rfl rfl hs76 rfl ?_
              refine ol_s rfl rfl hs76 rfl ?_
              refine ol_s rfl rfl hs76 rfl ?_
              refine ol_s rfl rfl hs76 rfl ?_
              refine ol_s rfl rfl hs76 rfl ?_
              refine ol_r (r_pickT rfl hs76 rfl) rfl ?_
              refine ol_r (r_move rfl) rfl ?_
              refine ol_s rfl rfl rfl rfl ?_
              refine ol_s rfl rfl rfl rfl ?_
              refine ol_s rfl rfl rfl rfl ?_
              refine ol_r (r_pickT rfl rfl rfl) rfl ?_
              refine ol_r (r_assign rfl) rfl ?_
              refine ol_nil (to_k0 (fun _ _ h => h) (hK32 _ _ _ _ _ ?_))
              clear hK32
              refine wp_condT rfl ?_
              refine wp_seq' fun K33 hK33 => ?_
              refine wp_reg ?_
              refine ol_r (r_assign rfl) rfl ?_
              refine ol_nil (to_k0 (fun _ _ h => h) (hK33 _ _ _ _ _ ?_))
              clear hK33
              refine hQ.ret (rvs1 (rv_t rfl)) (fun _ _ h => h) fun w hb hs hB hkd => ?_
              first
                | (exfalso; omega)
             ·have phs76 := hs76; try simp only [decide_eq_true_eq, decide_eq_false_iff_not, Bool.not_eq_true', Bool.not_eq_false', Bool.not_true, Bool.not_false] at phs76
              refine ol_g rfl rfl hs76 ?_
              refine ol_r (r_fa (o' := 2) rfl fl39_2 rfl) rfl ?_
              refine ol_g rfl rfl hs76 ?_
              refine ol_r (r_ld (id := 1) rfl rfl rfl sc3) rfl ?_
              refine ol_g rfl rfl hs76 ?_
              refine ol_r (r_fa (o' := 0) rfl fl51_0 rfl) rfl ?_
              refine ol_g rfl rfl hs76 ?_
              refine ol_r (r_ld (id := 4) rfl rfl rfl sc3) rfl ?_
              refine ol_g rfl rfl hs76 ?_
              have hlo := hA.lo _ (List.mem_of_getElem? hx48)
              have hat : 0 ≤ x48.at_ := by
                first
                  | (have h1 := hpos _ _ (by omega) hx67
                     omega)
                  | omega
              refine ol_r (r_add rfl rfl (by omega)) rfl ?_
              refine ol_g rfl rfl hs76 ?_
              refine ol_r (r_gtr rfl rfl) rfl ?_
              refine ol_r (r_pickF rfl hs76 rfl) rfl ?_
              refine ol_r (r_move rfl) rfl ?_
              refine ol_split (d := 84) rfl (fun hs84 => ?_) (fun hs84 => ?_)
              ·have phs84 := hs84; try simp only [decide_eq_true_eq, decide_eq_false_iff_not, Bool.not_eq_true', Bool.not_eq_false', Bool.not_true, Bool.not_false] at phs84
               refine ol_s rfl rfl hs84 rfl ?_
               refine ol_s rfl rfl hs84 rfl ?_
               refine ol_s rfl rfl hs84 rfl ?_
               refine ol_r (r_pickT rfl hs84 rfl) rfl ?_
               refine ol_r (r_assign rfl) rfl ?_
               refine ol_nil (to_k0 (fun _ _ h => h) (hK32 _ _ _ _ _ ?_))
               clear hK32
               refine wp_condT rfl ?_
               refine wp_seq' fun K34 hK34 => ?_
               refine wp_reg ?_
               refine ol_r (r_assign rfl) rfl ?_
               refine ol_nil (to_k0 (fun _ _ h => h) (hK34 _ _ _ _ _ ?_))
               clear hK34
               refine hQ.ret (rvs1 (rv_t rfl)) (fun _ _ h => h) fun w hb hs hB hkd => ?_
               first
                 | (exfalso; omega)
              ·have phs84 := hs84; try simp only [decide_eq_true_eq, decide_eq_false_iff_not, Bool.not_eq_true', Bool.not_eq_false', Bool.not_true, Bool.not_false] at phs84
               refine ol_g rfl rfl hs84 ?_
               refine ol_r (r_lda (id := 4) (n := 7) rfl rfl rfl ag51) rfl ?_
               refine ol_g rfl rfl hs84 ?_
               refine ol_call rfl rfl cb84 rfl (fun w1 hb1 hs1 hB1 => Calls.mono (record_inRange x48 _) ?_)
               rintro e w2 ⟨rfl, hb2⟩
               refine After.below rfl hb1 hs1 hB1 hb2 ?_
               clear hb2 hB1 hs1 hb1 w2 w1
               refine ol_g rfl rfl hs84 ?_
               refine ol_r (r_not rfl) rfl ?_
               refine ol_r (r_pickF rfl hs84 rfl) rfl ?_
               refine ol_r (r_assign rfl) rfl ?_
               refine ol_nil (to_k0 (fun _ _ h => h) (hK32 _ _ _ _ _ ?_))
               clear hK32
               refine wp_condNB rfl (fun hc72 => ?_) (fun hc72 => ?_)
               ·refine wp_seq' fun K35 hK35 => ?_
                refine wp_reg ?_
                refine ol_r (r_assign rfl) rfl ?_
                refine ol_nil (to_k0 (fun _ _ h => h) (hK35 _ _ _ _ _ ?_))
                clear hK35
                refine hQ.ret (rvs1 (rv_t rfl)) (fun _ _ h => h) fun w hb hs hB hkd => ?_
                first
                  | (have ho : ordS (ahead A.ss k) x48 = false := by
                       first
                         | (rw [ordS_0 (by omega), decide_eq_false (by omega)]; done)
                         | (rw [ordS_1 (by omega) hx67, decide_eq_false (by omega)]; done)
                     have h := chkE_bad hP hx48 (fS_9 (st := A.start) ho (by first | (left; omega) | (right; left; omega) | (right; right; simpa using hc72))) (by simp)
                     exact ⟨by rw [(chkA_s hH (by show chkE (fS A.start) none A.ss ≠ 0; rw [h]; simp)).trans h], hb⟩)
               ·refine wp_skip' (to_k0 (fun _ _ h => h) (hK18 _ _ _ _ _ ?_))
                clear hK18
                refine wp_reg ?_
                refine ol_r (r_add rfl rfl (by omega)) rfl ?_
                refine ol_r (r_move rfl) rfl ?_
                refine ol_nil (to_k0 (fun _ _ h => h) (hK15 (k + 1) _ _ ?_ ?_ (sub_cons rfl sub_nil) (sub_cons rfl (sub_cons rfl (sub_cons rfl sub_nil))) (by exact subH_nil) (subH_same rfl subH_nil)))
                ·try dsimp only
                 first
                   | (have ho := ordS_0 (ss := A.ss) (k := k) (x := x48) (by omega)
                      rw [decide_eq_false (by omega)] at ho
                      exact ⟨by omega, chkE_next hP hx48 (fS_is ho (by omega) (by omega) (by simpa using hc72)), pos_next hpos hx48 (by omega)⟩)
                ·try dsimp only
                 omega
          ·have phs53 := hs53; try simp only [decide_eq_true_eq, decide_eq_false_iff_not, Bool.not_eq_true', Bool.not_eq_false', Bool.not_true, Bool.not_false] at phs53
           refine ol_s rfl rfl hs53 rfl ?_
           refine ol_s rfl rfl hs53 rfl ?_
           refine ol_s rfl rfl hs53 rfl ?_
           refine ol_r (r_pickF rfl hs53 rfl) rfl ?_
           refine ol_r (r_assign rfl) rfl ?_
           refine ol_nil (to_k0 (fun _ _ h => h) (hK21 _ _ _ _ _ ?_))
           clear hK21
           refine wp_condF rfl ?_
           refine wp_regq (by kernel_rfl) (by kernel_rfl) ?_
           refine ql_r (r_move rfl) rfl ?_
           refine ql_r (r_gtr rfl rfl) rfl ?_
           refine ql_r (r_move rfl) rfl ?_
           refine ql_split (d := 60) rfl (fun hs60 => ?_) (fun hs60 => ?_)
           ·have phs60 := hs60; try simp only [decide_eq_true_eq, decide_eq_false_iff_not, Bool.not_eq_true', Bool.not_eq_false', Bool.not_true, Bool.not_false] at phs60
            refine ql_g rfl rfl hs60 ?_
            refine ql_r (r_fa (o' := 0) rfl fl51_0 rfl) rfl ?_
            refine ql_g rfl rfl hs60 ?_
            refine ql_r (r_ld (id := 4) rfl rfl rfl sc3) rfl ?_
            refine ql_g rfl rfl hs60 ?_
            refine ql_r (r_fa (o' := 3) rfl fl39_3 rfl) rfl ?_
            refine ql_g rfl rfl hs60 ?_
            refine ql_r (r_ld (id := 1) rfl rfl rfl sc35) rfl ?_
            refine ql_g rfl rfl hs60 ?_
            refine ql_r (r_move rfl) rfl ?_
            refine ql_g rfl rfl hs60 ?_
            refine ql_r (r_sub rfl rfl (by omega)) rfl ?_
            refine ql_g rfl rfl hs60 ?_
            refine ql_ixr hA.s rfl rfl sl35 (by omega) rfl fun x67 hx67 => ?_
            try simp only [Int.toNat_natCast] at hx67
            refine ql_g rfl rfl hs60 ?_
            refine ql_r (r_faw rfl (ix_some hA.s (by omega)) fl51_0) rfl ?_
            refine ql_g rfl rfl hs60 ?_
            refine ql_r (r_ldw rfl (fun w1 hb1 hs1 hB1 => Rd.loadsF (o := 0) hA.s sc3 hx67 hb1 rfl)) rfl ?_
            refine ql_g rfl rfl hs60 ?_
            refine ql_r (r_leq rfl rfl) rfl ?_
            refine ql_r (r_pickT rfl hs60 rfl) rfl ?_
            refine ql_r (r_assign rfl) rfl ?_
            refine ql_nil (to_k0 (fun _ _ h => h) (hK20 _ _ _ _ _ ?_))
            clear hK20
            refine wp_condD rfl (fun hc50 => ?_) (fun hc50 => ?_)
            ·refine wp_seq' fun K36 hK36 => ?_
             refine wp_reg ?_
             refine ol_r (r_assign rfl) rfl ?_
             refine ol_nil (to_k0 (fun _ _ h => h) (hK36 _ _ _ _ _ ?_))
             clear hK36
             refine hQ.ret (rvs1 (rv_t rfl)) (fun _ _ h => h) fun w hb hs hB hkd => ?_
             first
               | (have ho : ordS (ahead A.ss k) x48 = true := by
                    first
                      | (rw [ordS_0 (by omega), decide_eq_true (by omega)]; done)
                      | (rw [ordS_1 (by omega) hx67, decide_eq_true (by omega)]; done)
                  have h := chkE_bad hP hx48 (fS_10 ho) (by simp)
                  exact ⟨by rw [(chkA_s hH (by show chkE (fS A.start) none A.ss ≠ 0; rw [h]; simp)).trans h], hb⟩)
            ·refine wp_seq' fun K37 hK37 => ?_
             refine wp_reg ?_
             refine ol_r (r_fa (o' := 0) rfl fl51_0 rfl) rfl ?_
             refine ol_r (r_ld (id := 4) rfl rfl rfl sc3) rfl ?_
             refine ol_r (r_gtr rfl rfl) rfl ?_
             refine ol_r (r_move rfl) rfl ?_
             refine ol_split (d := 76) rfl (fun hs76 => ?_) (fun hs76 => ?_)
             ·have phs76 := hs76; try simp only [decide_eq_true_eq, decide_eq_false_iff_not, Bool.not_eq_true', Bool.not_eq_false', Bool.not_true, Bool.not_false] at phs76
              refine ol_s rfl rfl hs76 rfl ?_
              refine ol_s rfl rfl hs76 rfl ?_
              refine ol_s rfl rfl hs76 rfl ?_
              refine ol_s rfl rfl hs76 rfl ?_
              refine ol_s rfl rfl hs76 rfl ?_
              refine ol_s rfl rfl hs76 rfl ?_
              refine ol_r (r_pickT rfl hs76 rfl) rfl ?_
              refine ol_r (r_move rfl) rfl ?_
              refine ol_s rfl rfl rfl rfl ?_
              refine ol_s rfl rfl rfl rfl ?_
              refine ol_s rfl rfl rfl rfl ?_
              refine ol_r (r_pickT rfl rfl rfl) rfl ?_
              refine ol_r (r_assign rfl) rfl ?_
              refine ol_nil (to_k0 (fun _ _ h => h) (hK37 _ _ _ _ _ ?_))
              clear hK37
              refine wp_condT rfl ?_
              refine wp_seq' fun K38 hK38 => ?_
              refine wp_reg ?_
              refine ol_r (r_assign rfl) rfl ?_
              refine ol_nil (to_k0 (fun _ _ h => h) (hK38 _ _ _ _ _ ?_))
              clear hK38
              refine hQ.ret (rvs1 (rv_t rfl)) (fun _ _ h => h) fun w hb hs hB hkd => ?_
              first
                | (have ho : ordS (ahead A.ss k) x48 = false := by
                     first
                       | (rw [ordS_0 (by omega), decide_eq_false (by omega)]; done)
                       | (rw [ordS_1 (by omega) hx67, decide_eq_false (by omega)]; done)
                   have h := chkE_bad hP hx48 (fS_9 (st := A.start) ho (by first | (left; omega) | (right; left; omega) | (right; right; simpa using hc72))) (by simp)
                   exact ⟨by rw [(chkA_s hH (by show chkE (fS A.start) none A.ss ≠ 0; rw [h]; simp)).trans h], hb⟩)
             ·have phs76 := hs76; try simp only [decide_eq_true_eq, decide_eq_false_iff_not, Bool.not_eq_true', Bool.not_eq_false', Bool.not_true, Bool.not_false] at phs76
              refine ol_g rfl rfl hs76 ?_
              refine ol_r (r_fa (o' := 2) rfl fl39_2 rfl) rfl ?_
              refine ol_g rfl rfl hs76 ?_
              refine ol_r (r_ld (id := 1) rfl rfl rfl sc3) rfl ?_
              refine ol_g rfl rfl hs76 ?_
              refine ol_r (r_fa (o' := 0) rfl fl51_0 rfl) rfl ?_
              refine ol_g rfl rfl hs76 ?_
              refine ol_r (r_ld (id := 4) rfl rfl rfl sc3) rfl ?_
              refine ol_g rfl rfl hs76 ?_
              have hlo := hA.lo _ (List.mem_of_getElem? hx48)
              have hat : 0 ≤ x48.at_ := by
                first
                  | (have h1 := hpos _ _ (by omega) hx67
                     omega)
                  | omega
              refine ol_r (r_add rfl rfl (by omega)) rfl ?_
              refine ol_g rfl rfl hs76 ?_
              refine ol_r (r_gtr rfl rfl) rfl ?_
              refine ol_r (r_pickF rfl hs76 rfl) rfl ?_
              refine ol_r (r_move rfl) rfl ?_
              refine ol_split (d := 84) rfl (fun hs84 => ?_) (fun hs84 => ?_)
              ·have phs84 := hs84; try simp only [decide_eq_true_eq, decide_eq_false_iff_not, Bool.not_eq_true', Bool.not_eq_false', Bool.not_true, Bool.not_false] at phs84
               refine ol_s rfl rfl hs84 rfl ?_
               refine ol_s rfl rfl hs84 rfl ?_
               refine ol_s rfl rfl hs84 rfl ?_
               refine ol_r (r_pickT rfl hs84 rfl) rfl ?_
               refine ol_r (r_assign rfl) rfl ?_
               refine ol_nil (to_k0 (fun _ _ h => h) (hK37 _ _ _ _ _ ?_))
               clear hK37
               refine wp_condT rfl ?_
               refine wp_seq' fun K39 hK39 => ?_
               refine wp_reg ?_
               refine ol_r (r_assign rfl) rfl ?_
               refine ol_nil (to_k0 (fun _ _ h => h) (hK39 _ _ _ _ _ ?_))
               clear hK39
               refine hQ.ret (rvs1 (rv_t rfl)) (fun _ _ h => h) fun w hb hs hB hkd => ?_
               first
                 | (have ho : ordS (ahead A.ss k) x48 = false := by
                      first
                        | (rw [ordS_0 (by omega), decide_eq_false (by omega)]; done)
                        | (rw [ordS_1 (by omega) hx67, decide_eq_false (by omega)]; done)
                    have h := chkE_bad hP hx48 (fS_9 (st := A.start) ho (by first | (left; omega) | (right; left; omega) | (right; right; simpa using hc72))) (by simp)
                    exact ⟨by rw [(chkA_s hH (by show chkE (fS A.start) none A.ss ≠ 0; rw [h]; simp)).trans h], hb⟩)
              ·have phs84 := hs84; try simp only [decide_eq_true_eq, decide_eq_false_iff_not, Bool.not_eq_true', Bool.not_eq_false', Bool.not_true, Bool.not_false] at phs84
               refine ol_g rfl rfl hs84 ?_
               refine ol_r (r_lda (id := 4) (n := 7) rfl rfl rfl ag51) rfl ?_
               refine ol_g rfl rfl hs84 ?_
               refine ol_call rfl rfl cb84 rfl (fun w1 hb1 hs1 hB1 => Calls.mono (record_inRange x48 _) ?_)
               rintro e w2 ⟨rfl, hb2⟩
               refine After.below rfl hb1 hs1 hB1 hb2 ?_
               clear hb2 hB1 hs1 hb1 w2 w1
               refine ol_g rfl rfl hs84 ?_
               refine ol_r (r_not rfl) rfl ?_
               refine ol_r (r_pickF rfl hs84 rfl) rfl ?_
               refine ol_r (r_assign rfl) rfl ?_
               refine ol_nil (to_k0 (fun _ _ h => h) (hK37 _ _ _ _ _ ?_))
               clear hK37
               refine wp_condNB rfl (fun hc72 => ?_) (fun hc72 => ?_)
               ·refine wp_seq' fun K40 hK40 => ?_
                refine wp_reg ?_
                refine ol_r (r_assign rfl) rfl ?_
                refine ol_nil (to_k0 (fun _ _ h => h) (hK40 _ _ _ _ _ ?_))
                clear hK40
                refine hQ.ret (rvs1 (rv_t rfl)) (fun _ _ h => h) fun w hb hs hB hkd => ?_
                first
                  | (have ho : ordS (ahead A.ss k) x48 = false := by
                       first
                         | (rw [ordS_0 (by omega), decide_eq_false (by omega)]; done)
                         | (rw [ordS_1 (by omega) hx67, decide_eq_false (by omega)]; done)
                     have h := chkE_bad hP hx48 (fS_9 (st := A.start) ho (by first | (left; omega) | (right; left; omega) | (right; right; simpa using hc72))) (by simp)
                     exact ⟨by rw [(chkA_s hH (by show chkE (fS A.start) none A.ss ≠ 0; rw [h]; simp)).trans h], hb⟩)
               ·refine wp_skip' (to_k0 (fun _ _ h => h) (hK18 _ _ _ _ _ ?_))
                clear hK18
                refine wp_reg ?_
                refine ol_r (r_add rfl rfl (by omega)) rfl ?_
                refine ol_r (r_move rfl) rfl ?_
                refine ol_nil (to_k0 (fun _ _ h => h) (hK15 (k + 1) _ _ ?_ ?_ (sub_cons rfl sub_nil) (sub_cons rfl (sub_cons rfl (sub_cons rfl sub_nil))) (by exact subH_nil) (subH_same rfl subH_nil)))
                ·try dsimp only
                 first
                   | (have ho := ordS_1 (ss := A.ss) (k := k) (x := x48) (by omega) hx67
                      have hy := hpos _ _ (by omega) hx67
                      rw [decide_eq_false (by omega)] at ho
                      exact ⟨by omega, chkE_next hP hx48 (fS_is ho (by omega) (by omega) (by simpa using hc72)), pos_next hpos hx48 (by omega)⟩)
                ·try dsimp only
                 omega
           ·have phs60 := hs60; try simp only [decide_eq_true_eq, decide_eq_false_iff_not, Bool.not_eq_true', Bool.not_eq_false', Bool.not_true, Bool.not_false] at phs60
            refine ql_s rfl rfl hs60 rfl ?_
            refine ql_s rfl rfl hs60 rfl ?_
            refine ql_s rfl rfl hs60 rfl ?_
            refine ql_s rfl rfl hs60 rfl ?_
            refine ql_s rfl rfl hs60 rfl ?_
            refine ql_s rfl rfl hs60 rfl ?_
            refine ql_s rfl rfl hs60 rfl ?_
            refine ql_s rfl rfl hs60 rfl ?_
            refine ql_s rfl rfl hs60 rfl ?_
            refine ql_s rfl rfl hs60 rfl ?_
            refine ql_r (r_pickF rfl hs60 rfl) rfl ?_
            refine ql_r (r_assign rfl) rfl ?_
            refine ql_nil (to_k0 (fun _ _ h => h) (hK20 _ _ _ _ _ ?_))
            clear hK20
            refine wp_condF rfl ?_
            refine wp_seq' fun K41 hK41 => ?_
            refine wp_reg ?_
            refine ol_r (r_fa (o' := 0) rfl fl51_0 rfl) rfl ?_
            refine ol_r (r_ld (id := 4) rfl rfl rfl sc3) rfl ?_
            refine ol_r (r_gtr rfl rfl) rfl ?_
            refine ol_r (r_move rfl) rfl ?_
            refine ol_split (d := 76) rfl (fun hs76 => ?_) (fun hs76 => ?_)
            ·have phs76 := hs76; try simp only [decide_eq_true_eq, decide_eq_false_iff_not, Bool.not_eq_true', Bool.not_eq_false', Bool.not_true, Bool.not_false] at phs76
             refine ol_s rfl rfl hs76 rfl ?_
             refine ol_s rfl rfl hs76 rfl ?_
             refine ol_s rfl rfl hs76 rfl ?_
             refine ol_s rfl rfl hs76 rfl ?_
             refine ol_s rfl rfl hs76 rfl ?_
             refine ol_s rfl rfl hs76 rfl ?_
             refine ol_r (r_pickT rfl hs76 rfl) rfl ?_
             refine ol_r (r_move rfl) rfl ?_
             refine ol_s rfl rfl rfl rfl ?_
             refine ol_s rfl rfl rfl rfl ?_
             refine ol_s rfl rfl rfl rfl ?_
             refine ol_r (r_pickT rfl rfl rfl) rfl ?_
             refine ol_r (r_assign rfl) rfl ?_
             refine ol_nil (to_k0 (fun _ _ h => h) (hK41 _ _ _ _ _ ?_))
             clear hK41
             refine wp_condT rfl ?_
             refine wp_seq' fun K42 hK42 => ?_
             refine wp_reg ?_
             refine ol_r (r_assign rfl) rfl ?_
             refine ol_nil (to_k0 (fun _ _ h => h) (hK42 _ _ _ _ _ ?_))
             clear hK42
             refine hQ.ret (rvs1 (rv_t rfl)) (fun _ _ h => h) fun w hb hs hB hkd => ?_
             first
               | (exfalso; omega)
            ·have phs76 := hs76; try simp only [decide_eq_true_eq, decide_eq_false_iff_not, Bool.not_eq_true', Bool.not_eq_false', Bool.not_true, Bool.not_false] at phs76
             refine ol_g rfl rfl hs76 ?_
             refine ol_r (r_fa (o' := 2) rfl fl39_2 rfl) rfl ?_
             refine ol_g rfl rfl hs76 ?_
             refine ol_r (r_ld (id := 1) rfl rfl rfl sc3) rfl ?_
             refine ol_g rfl rfl hs76 ?_
             refine ol_r (r_fa (o' := 0) rfl fl51_0 rfl) rfl ?_
             refine ol_g rfl rfl hs76 ?_
             refine ol_r (r_ld (id := 4) rfl rfl rfl sc3) rfl ?_
             refine ol_g rfl rfl hs76 ?_
             have hlo := hA.lo _ (List.mem_of_getElem? hx48)
             have hat : 0 ≤ x48.at_ := by
               first
                 | (have h1 := hpos _ _ (by omega) hx67
                    omega)
                 | omega
             refine ol_r (r_add rfl rfl (by omega)) rfl ?_
             refine ol_g rfl rfl hs76 ?_
             refine ol_r (r_gtr rfl rfl) rfl ?_
             refine ol_r (r_pickF rfl hs76 rfl) rfl ?_
             refine ol_r (r_move rfl) rfl ?_
             refine ol_split (d := 84) rfl (fun hs84 => ?_) (fun hs84 => ?_)
             ·have phs84 := hs84; try simp only [decide_eq_true_eq, decide_eq_false_iff_not, Bool.not_eq_true', Bool.not_eq_false', Bool.not_true, Bool.not_false] at phs84
              refine ol_s rfl rfl hs84 rfl ?_
              refine ol_s rfl rfl hs84 rfl ?_
              refine ol_s rfl rfl hs84 rfl ?_
              refine ol_r (r_pickT rfl hs84 rfl) rfl ?_
              refine ol_r (r_assign rfl) rfl ?_
              refine ol_nil (to_k0 (fun _ _ h => h) (hK41 _ _ _ _ _ ?_))
              clear hK41
              refine wp_condT rfl ?_
              refine wp_seq' fun K43 hK43 => ?_
              refine wp_reg ?_
              refine ol_r (r_assign rfl) rfl ?_
              refine ol_nil (to_k0 (fun _ _ h => h) (hK43 _ _ _ _ _ ?_))
              clear hK43
              refine hQ.ret (rvs1 (rv_t rfl)) (fun _ _ h => h) fun w hb hs hB hkd => ?_
              first
                | (exfalso; omega)
             ·have phs84 := hs84; try simp only [decide_eq_true_eq, decide_eq_false_iff_not, Bool.not_eq_true', Bool.not_eq_false', Bool.not_true, Bool.not_false] at phs84
              refine ol_g rfl rfl hs84 ?_
              refine ol_r (r_lda (id := 4) (n := 7) rfl rfl rfl ag51) rfl ?_
              refine ol_g rfl rfl hs84 ?_
              refine ol_call rfl rfl cb84 rfl (fun w1 hb1 hs1 hB1 => Calls.mono (record_inRange x48 _) ?_)
              rintro e w2 ⟨rfl, hb2⟩
              refine After.below rfl hb1 hs1 hB1 hb2 ?_
              clear hb2 hB1 hs1 hb1 w2 w1
              refine ol_g rfl rfl hs84 ?_
              refine ol_r (r_not rfl) rfl ?_
              refine ol_r (r_pickF rfl hs84 rfl) rfl ?_
              refine ol_r (r_assign rfl) rfl ?_
              refine ol_nil (to_k0 (fun _ _ h => h) (hK41 _ _ _ _ _ ?_))
              clear hK41
              refine wp_condNB rfl (fun hc72 => ?_) (fun hc72 => ?_)
              ·refine wp_seq' fun K44 hK44 => ?_
               refine wp_reg ?_
               refine ol_r (r_assign rfl) rfl ?_
               refine ol_nil (to_k0 (fun _ _ h => h) (hK44 _ _ _ _ _ ?_))
               clear hK44
               refine hQ.ret (rvs1 (rv_t rfl)) (fun _ _ h => h) fun w hb hs hB hkd => ?_
               first
                 | (exfalso; omega)
              ·refine wp_skip' (to_k0 (fun _ _ h => h) (hK18 _ _ _ _ _ ?_))
               clear hK18
               refine wp_reg ?_
               refine ol_r (r_add rfl rfl (by omega)) rfl ?_
               refine ol_r (r_move rfl) rfl ?_
               refine ol_nil (to_k0 (fun _ _ h => h) (hK15 (k + 1) _ _ ?_ ?_ (sub_cons rfl sub_nil) (sub_cons rfl (sub_cons rfl (sub_cons rfl sub_nil))) (by exact subH_nil) (subH_same rfl subH_nil)))
               ·try dsimp only
                first
                  | (exfalso; omega)
               ·try dsimp only
                omega
         ·refine wp_exit' (to_k0 (fun _ _ h => h) (hK13 _ _ _ _ _ ?_))
          clear hK13
          refine wp_seq' fun K45 hK45 => ?_
          refine wp_reg ?_
          refine ol_r (r_lda (id := 1) (n := 6) rfl rfl rfl ag39) rfl ?_
          have hS0 := chkE_end hP (by omega)
          refine ol_call rfl rfl cb85 rfl (fun w1 hb1 hs1 hB1 => Calls.mono (record_Span A _ (hA.at hb1 hB1)) ?_)
          rintro e w2 ⟨rfl, hb2⟩
          refine After.below rfl hb1 hs1 hB1 hb2 ?_
          clear hb2 hB1 hs1 hb1 w2 w1
          refine ol_r (r_assign rfl) rfl ?_
          refine ol_nil (to_k0 (fun _ _ h => h) (hK45 _ _ _ _ _ ?_))
          clear hK45
          refine wp_seq' fun K46 hK46 => ?_
          refine wp_seq' fun K47 hK47 => ?_
          refine wp_reg ?_
          refine ol_r (r_fa (o' := 4) rfl fl39_4 rfl) rfl ?_
          refine ol_r (r_ld (id := 1) rfl rfl rfl sc36) rfl ?_
          refine ol_r (r_len rfl sl36) rfl ?_
          refine ol_r (r_move rfl) rfl ?_
          refine ol_nil (to_k0 (fun _ _ h => h) (hK47 _ _ _ _ _ ?_))
          clear hK47
          refine wp_block' ?_
          apply wp_loopM (σ := Nat) (fun s => s ≤ A.ln ∧ chkE (fL (spanL A.ss)) none A.ls = chkE (fL (spanL A.ss)) (ahead A.ls s) (A.ls.drop s)) (fun s => [(95, .int .i64 s)]) [(1, _), (5, _), (93, _), (94, _)] (fun s => []) [(1, _)] (fun s => A.ln - s) (0)
          ·try dsimp only
           exact ⟨Nat.zero_le _, chkE_start _ _⟩
          ·exact (sub_cons rfl sub_nil)
          ·exact (sub_cons rfl (sub_cons rfl (sub_cons rfl (sub_cons rfl sub_nil))))
          ·exact subH_nil
          ·exact (subH_same rfl subH_nil)
          ·rintro k ⟨hk, hPl⟩
           intro K48 hK48
           refine wp_seq' fun K49 hK49 => ?_
           refine wp_reg ?_
           refine ol_r (r_lss rfl rfl) rfl ?_
           refine ol_nil (to_k0 (fun _ _ h => h) (hK49 _ _ _ _ _ ?_))
           clear hK49
           refine wp_seq' fun K50 hK50 => ?_
           refine wp_condD rfl (fun hc96 => ?_) (fun hc96 => ?_)
           ·refine wp_skip' (to_k0 (fun _ _ h => h) (hK50 _ _ _ _ _ ?_))
            clear hK50
            refine wp_seq' fun K51 hK51 => ?_
            refine wp_block' ?_
            refine wp_seq' fun K52 hK52 => ?_
            refine wp_reg ?_
            refine ol_r (r_move rfl) rfl ?_
            refine ol_ixr hA.l rfl rfl sl36 (by omega) rfl fun x98 hx98 => ?_
            try simp only [Int.toNat_natCast] at hx98
            refine ol_r (r_ldw rfl (fun w1 hb1 hs1 hB1 => Rd.loads hA.l ty135 hx98 hb1)) rfl ?_
            refine ol_alloc 7 z135 rfl fun b7 => ?_
            refine ol_r (r_assign rfl) rfl ?_
            refine ol_store (id := 7) rfl rfl rfl rfl sz135 rfl rfl (by first | decide | exact Nat.zero_lt_succ _ | simp) ?_
            refine ol_nil (to_k0 (fun _ _ h => h) (hK52 _ _ _ _ _ ?_))
            clear hK52
            refine wp_block' ?_
            refine wp_seq' fun K53 hK53 => ?_
            refine wp_reg ?_
            refine ol_r (r_fa (o' := 0) rfl fl135_0 rfl) rfl ?_
            refine ol_r (r_ld (id := 7) rfl rfl rfl sc3) rfl ?_
            refine ol_r (r_lss rfl rfl) rfl ?_
            refine ol_r (r_move rfl) rfl ?_
            refine ol_split (d := 104) rfl (fun hs104 => ?_) (fun hs104 => ?_)
            ·have phs104 := hs104; try simp only [decide_eq_true_eq, decide_eq_false_iff_not, Bool.not_eq_true', Bool.not_eq_false', Bool.not_true, Bool.not_false] at phs104
             refine ol_s rfl rfl hs104 rfl ?_
             refine ol_s rfl rfl hs104 rfl ?_
             refine ol_s rfl rfl hs104 rfl ?_
             refine ol_s rfl rfl hs104 rfl ?_
             refine ol_s rfl rfl hs104 rfl ?_
             refine ol_r (r_pickT rfl hs104 rfl) rfl ?_
             refine ol_r (r_move rfl) rfl ?_
             refine ol_s rfl rfl rfl rfl ?_
             refine ol_s rfl rfl rfl rfl ?_
             refine ol_s rfl rfl rfl rfl ?_
             refine ol_s rfl rfl rfl rfl ?_
             refine ol_r (r_pickT rfl rfl rfl) rfl ?_
             refine ol_r (r_assign rfl) rfl ?_
             refine ol_nil (to_k0 (fun _ _ h => h) (hK53 _ _ _ _ _ ?_))
             clear hK53
             refine wp_condT rfl ?_
             refine wp_seq' fun K54 hK54 => ?_
             refine wp_reg ?_
             refine ol_r (r_assign rfl) rfl ?_
             refine ol_nil (to_k0 (fun _ _ h => h) (hK54 _ _ _ _ _ ?_))
             clear hK54
             refine hQ.ret (rvs1 (rv_t rfl)) (fun _ _ h => h) fun w hb hs hB hkd => ?_
             first
               | (have h := chkE_bad hPl hx98 (fL_9 (by omega)) (by simp)
                  exact ⟨by rw [(chkA_l hH hS0 (by show chkE (fL (spanL A.ss)) none A.ls ≠ 0; rw [h]; simp)).trans h], hb⟩)
            ·have phs104 := hs104; try simp only [decide_eq_true_eq, decide_eq_false_iff_not, Bool.not_eq_true', Bool.not_eq_false', Bool.not_true, Bool.not_false] at phs104
             refine ol_g rfl rfl hs104 ?_
             refine ol_r (r_fa (o' := 0) rfl fl135_0 rfl) rfl ?_
             refine ol_g rfl rfl hs104 ?_
             refine ol_r (r_ld (id := 7) rfl rfl rfl sc3) rfl ?_
             refine ol_g rfl rfl hs104 ?_
             refine ol_r (r_fa (o' := 1) rfl fl135_1 rfl) rfl ?_
             refine ol_g rfl rfl hs104 ?_
             refine ol_r (r_ld (id := 7) rfl rfl rfl sc3) rfl ?_
             refine ol_g rfl rfl hs104 ?_
             refine ol_r (r_geq rfl rfl) rfl ?_
             refine ol_r (r_pickF rfl hs104 rfl) rfl ?_
             refine ol_r (r_move rfl) rfl ?_
             refine ol_split (d := 111) rfl (fun hs111 => ?_) (fun hs111 => ?_)
             ·have phs111 := hs111; try simp only [decide_eq_true_eq, decide_eq_false_iff_not, Bool.not_eq_true', Bool.not_eq_false', Bool.not_true, Bool.not_false] at phs111
              refine ol_s rfl rfl hs111 rfl ?_
              refine ol_s rfl rfl hs111 rfl ?_
              refine ol_s rfl rfl hs111 rfl ?_
              refine ol_s rfl rfl hs111 rfl ?_
              refine ol_r (r_pickT rfl hs111 rfl) rfl ?_
              refine ol_r (r_assign rfl) rfl ?_
              refine ol_nil (to_k0 (fun _ _ h => h) (hK53 _ _ _ _ _ ?_))
              clear hK53
              refine wp_condT rfl ?_
              refine wp_seq' fun K55 hK55 => ?_
              refine wp_reg ?_
              refine ol_r (r_assign rfl) rfl ?_
              refine ol_nil (to_k0 (fun _ _ h => h) (hK55 _ _ _ _ _ ?_))
              clear hK55
              refine hQ.ret (rvs1 (rv_t rfl)) (fun _ _ h => h) fun w hb hs hB hkd => ?_
              first
                | (have h := chkE_bad hPl hx98 (fL_9 (by omega)) (by simp)
                   exact ⟨by rw [(chkA_l hH hS0 (by show chkE (fL (spanL A.ss)) none A.ls ≠ 0; rw [h]; simp)).trans h], hb⟩)
             ·have phs111 := hs111; try simp only [decide_eq_true_eq, decide_eq_false_iff_not, Bool.not_eq_true', Bool.not_eq_false', Bool.not_true, Bool.not_false] at phs111
              refine ol_g rfl rfl hs111 ?_
              refine ol_r (r_fa (o' := 1) rfl fl135_1 rfl) rfl ?_
              refine ol_g rfl rfl hs111 ?_
              refine ol_r (r_ld (id := 7) rfl rfl rfl sc3) rfl ?_
              refine ol_g rfl rfl hs111 ?_
              refine ol_r (r_move rfl) rfl ?_
              refine ol_g rfl rfl hs111 ?_
              refine ol_r (r_gtr rfl rfl) rfl ?_
              refine ol_r (r_pickF rfl hs111 rfl) rfl ?_
              refine ol_r (r_assign rfl) rfl ?_
              refine ol_nil (to_k0 (fun _ _ h => h) (hK53 _ _ _ _ _ ?_))
              clear hK53
              refine wp_condD rfl (fun hc100 => ?_) (fun hc100 => ?_)
              ·refine wp_seq' fun K56 hK56 => ?_
               refine wp_reg ?_
               refine ol_r (r_assign rfl) rfl ?_
               refine ol_nil (to_k0 (fun _ _ h => h) (hK56 _ _ _ _ _ ?_))
               clear hK56
               refine hQ.ret (rvs1 (rv_t rfl)) (fun _ _ h => h) fun w hb hs hB hkd => ?_
               first
                 | (have h := chkE_bad hPl hx98 (fL_9 (by omega)) (by simp)
                    exact ⟨by rw [(chkA_l hH hS0 (by show chkE (fL (spanL A.ss)) none A.ls ≠ 0; rw [h]; simp)).trans h], hb⟩)
              ·refine wp_seq' fun K57 hK57 => ?_
               refine wp_regq (by kernel_rfl) (by kernel_rfl) ?_
               refine ql_r (r_move rfl) rfl ?_
               refine ql_r (r_gtr rfl rfl) rfl ?_
               refine ql_r (r_move rfl) rfl ?_
               refine ql_split (d := 120) rfl (fun hs120 => ?_) (fun hs120 => ?_)
               ·have phs120 := hs120; try simp only [decide_eq_true_eq, decide_eq_false_iff_not, Bool.not_eq_true', Bool.not_eq_false', Bool.not_true, Bool.not_false] at phs120
                refine ql_g rfl rfl hs120 ?_
                refine ql_r (r_fa (o' := 0) rfl fl135_0 rfl) rfl ?_
                refine ql_g rfl rfl hs120 ?_
                refine ql_r (r_ld (id := 7) rfl rfl rfl sc3) rfl ?_
                refine ql_g rfl rfl hs120 ?_
                refine ql_r (r_fa (o' := 4) rfl fl39_4 rfl) rfl ?_
                refine ql_g rfl rfl hs120 ?_
                refine ql_r (r_ld (id := 1) rfl rfl rfl sc36) rfl ?_
                refine ql_g rfl rfl hs120 ?_
                refine ql_r (r_move rfl) rfl ?_
                refine ql_g rfl rfl hs120 ?_
                refine ql_r (r_sub rfl rfl (by omega)) rfl ?_
                refine ql_g rfl rfl hs120 ?_
                refine ql_ixr hA.l rfl rfl sl36 (by omega) rfl fun x127 hx127 => ?_
                try simp only [Int.toNat_natCast] at hx127
                refine ql_g rfl rfl hs120 ?_
                refine ql_r (r_faw rfl (ix_some hA.l (by omega)) fl135_1) rfl ?_
                refine ql_g rfl rfl hs120 ?_
                refine ql_r (r_ldw rfl (fun w1 hb1 hs1 hB1 => Rd.loadsF (o := 1) hA.l sc3 hx127 hb1 rfl)) rfl ?_
                refine ql_g rfl rfl hs120 ?_
                refine ql_r (r_lss rfl rfl) rfl ?_
                refine ql_r (r_pickT rfl hs120 rfl) rfl ?_
                refine ql_r (r_assign rfl) rfl ?_
                refine ql_nil (to_k0 (fun _ _ h => h) (hK57 _ _ _ _ _ ?_))
                clear hK57
                refine wp_condD rfl (fun hc117 => ?_) (fun hc117 => ?_)
                ·refine wp_seq' fun K58 hK58 => ?_
                 refine wp_reg ?_
                 refine ol_r (r_assign rfl) rfl ?_
                 refine ol_nil (to_k0 (fun _ _ h => h) (hK58 _ _ _ _ _ ?_))
                 clear hK58
                 refine hQ.ret (rvs1 (rv_t rfl)) (fun _ _ h => h) fun w hb hs hB hkd => ?_
                 first
                   | (have h := chkE_bad hPl hx98 (fL_10 (by omega) (by rw [ordL_1 (by omega) hx127, decide_eq_true (by omega)])) (by simp)
                      exact ⟨by rw [(chkA_l hH hS0 (by show chkE (fL (spanL A.ss)) none A.ls ≠ 0; rw [h]; simp)).trans h], hb⟩)
                ·refine wp_seq' fun K59 hK59 => ?_
                 refine wp_reg ?_
                 refine ol_r (r_fa (o' := 2) rfl fl135_2 rfl) rfl ?_
                 refine ol_r (r_ld (id := 7) rfl rfl rfl sc9) rfl ?_
                 refine ol_call rfl rfl cb86 rfl (fun w1 hb1 hs1 hB1 => Calls.mono (record_IsTitle _ _ (hA.lm _ (List.mem_of_getElem? hx98))) ?_)
                 rintro e w2 ⟨rfl, hb2⟩
                 refine After.below rfl hb1 hs1 hB1 hb2 ?_
                 clear hb2 hB1 hs1 hb1 w2 w1
                 refine ol_r (r_not rfl) rfl ?_
                 refine ol_r (r_assign rfl) rfl ?_
                 refine ol_nil (to_k0 (fun _ _ h => h) (hK59 _ _ _ _ _ ?_))
                 clear hK59
                 refine wp_condNB rfl (fun hc132 => ?_) (fun hc132 => ?_)
                 ·refine wp_seq' fun K60 hK60 => ?_
                  refine wp_reg ?_
                  refine ol_r (r_assign rfl) rfl ?_
                  refine ol_nil (to_k0 (fun _ _ h => h) (hK60 _ _ _ _ _ ?_))
                  clear hK60
                  refine hQ.ret (rvs1 (rv_t rfl)) (fun _ _ h => h) fun w hb hs hB hkd => ?_
                  first
                    | (have ho : ordL (ahead A.ls k) x98 = false := by
                         first
                           | (rw [ordL_0 (by omega)]; done)
                           | (rw [ordL_1 (by omega) hx127, decide_eq_false (by omega)]; done)
                       have h := chkE_bad hPl hx98 (fL_8 (by omega) ho (by simpa using hc132)) (by simp)
                       exact ⟨by rw [(chkA_l hH hS0 (by show chkE (fL (spanL A.ss)) none A.ls ≠ 0; rw [h]; simp)).trans h], hb⟩)
                 ·refine wp_skip' (to_k0 (fun _ _ h => h) (hK51 _ _ _ _ _ ?_))
                  clear hK51
                  refine wp_reg ?_
                  refine ol_r (r_add rfl rfl (by omega)) rfl ?_
                  refine ol_r (r_move rfl) rfl ?_
                  refine ol_nil (to_k0 (fun _ _ h => h) (hK48 (k + 1) _ _ ?_ ?_ (sub_cons rfl sub_nil) (sub_cons rfl (sub_cons rfl (sub_cons rfl (sub_cons rfl sub_nil)))) (by exact subH_nil) (subH_same rfl subH_nil)))
                  ·try dsimp only
                   first
                     | (have ho := ordL_1 (ls := A.ls) (k := k) (x := x98) (by omega) hx127
                        rw [decide_eq_false (by omega)] at ho
                        exact ⟨by omega, chkE_next hPl hx98 (fL_0 (by omega) ho (by simpa using hc132))⟩)
                  ·try dsimp only
                   omega
               ·have phs120 := hs120; try simp only [decide_eq_true_eq, decide_eq_false_iff_not, Bool.not_eq_true', Bool.not_eq_false', Bool.not_true, Bool.not_false] at phs120
                refine ql_s rfl rfl hs120 rfl ?_
                refine ql_s rfl rfl hs120 rfl ?_
                refine ql_s rfl rfl hs120 rfl ?_
                refine ql_s rfl rfl hs120 rfl ?_
                refine ql_s rfl rfl hs120 rfl ?_
                refine ql_s rfl rfl hs120 rfl ?_
                refine ql_s rfl rfl hs120 rfl ?_
                refine ql_s rfl rfl hs120 rfl ?_
                refine ql_s rfl rfl hs120 rfl ?_
                refine ql_s rfl rfl hs120 rfl ?_
                refine ql_r (r_pickF rfl hs120 rfl) rfl ?_
                refine ql_r (r_assign rfl) rfl ?_
                refine ql_nil (to_k0 (fun _ _ h => h) (hK57 _ _ _ _ _ ?_))
                clear hK57
                refine wp_condF rfl ?_
                refine wp_seq' fun K61 hK61 => ?_
                refine wp_reg ?_
                refine ol_r (r_fa (o' := 2) rfl fl135_2 rfl) rfl ?_
                refine ol_r (r_ld (id := 7) rfl rfl rfl sc9) rfl ?_
                refine ol_call rfl rfl cb86 rfl (fun w1 hb1 hs1 hB1 => Calls.mono (record_IsTitle _ _ (hA.lm _ (List.mem_of_getElem? hx98))) ?_)
                rintro e w2 ⟨rfl, hb2⟩
                refine After.below rfl hb1 hs1 hB1 hb2 ?_
                clear hb2 hB1 hs1 hb1 w2 w1
                refine ol_r (r_not rfl) rfl ?_
                refine ol_r (r_assign rfl) rfl ?_
                refine ol_nil (to_k0 (fun _ _ h => h) (hK61 _ _ _ _ _ ?_))
                clear hK61
                refine wp_condNB rfl (fun hc132 => ?_) (fun hc132 => ?_)
                ·refine wp_seq' fun K62 hK62 => ?_
                 refine wp_reg ?_
                 refine ol_r (r_assign rfl) rfl ?_
                 refine ol_nil (to_k0 (fun _ _ h => h) (hK62 _ _ _ _ _ ?_))
                 clear hK62
                 refine hQ.ret (rvs1 (rv_t rfl)) (fun _ _ h => h) fun w hb hs hB hkd => ?_
                 first
                   | (have ho : ordL (ahead A.ls k) x98 = false := by
                        first
                          | (rw [ordL_0 (by omega)]; done)
                          | (rw [ordL_1 (by omega) hx127, decide_eq_false (by omega)]; done)
                      have h := chkE_bad hPl hx98 (fL_8 (by omega) ho (by simpa using hc132)) (by simp)
                      exact ⟨by rw [(chkA_l hH hS0 (by show chkE (fL (spanL A.ss)) none A.ls ≠ 0; rw [h]; simp)).trans h], hb⟩)
                ·refine wp_skip' (to_k0 (fun _ _ h => h) (hK51 _ _ _ _ _ ?_))
                 clear hK51
                 refine wp_reg ?_
                 refine ol_r (r_add rfl rfl (by omega)) rfl ?_
                 refine ol_r (r_move rfl) rfl ?_
                 refine ol_nil (to_k0 (fun _ _ h => h) (hK48 (k + 1) _ _ ?_ ?_ (sub_cons rfl sub_nil) (sub_cons rfl (sub_cons rfl (sub_cons rfl (sub_cons rfl sub_nil)))) (by exact subH_nil) (subH_same rfl subH_nil)))
                 ·try dsimp only
                  first
                    | (have ho := ordL_0 (ls := A.ls) (k := k) (x := x98) (by omega)
                       exact ⟨by omega, chkE_next hPl hx98 (fL_0 (by omega) ho (by simpa using hc132))⟩)
                 ·try dsimp only
                  omega
           ·refine wp_exit' (to_k0 (fun _ _ h => h) (hK46 _ _ _ _ _ ?_))
            clear hK46
            refine wp_seq' fun K63 hK63 => ?_
            refine wp_seq' fun K64 hK64 => ?_
            refine wp_reg ?_
            have hL0 := chkE_end hPl (by omega)
            refine ol_r (r_fa (o' := 5) rfl fl39_5 rfl) rfl ?_
            refine ol_r (r_ld (id := 1) rfl rfl rfl sc37) rfl ?_
            refine ol_r (r_len rfl sl37) rfl ?_
            refine ol_r (r_move rfl) rfl ?_
            refine ol_nil (to_k0 (fun _ _ h => h) (hK64 _ _ _ _ _ ?_))
            clear hK64
            refine wp_block' ?_
            apply wp_loopM (σ := Nat) (fun s => s ≤ A.tn ∧ chkE fT none A.ts = chkE fT (ahead A.ts s) (A.ts.drop s)) (fun s => [(141, .int .i64 s)]) [(1, _), (139, _), (140, _)] (fun s => []) [(1, _)] (fun s => A.tn - s) (0)
            ·try dsimp only
             exact ⟨Nat.zero_le _, chkE_start _ _⟩
            ·exact (sub_cons rfl sub_nil)
            ·exact (sub_cons rfl (sub_cons rfl (sub_cons rfl sub_nil)))
            ·exact subH_nil
            ·exact (subH_same rfl subH_nil)
            ·rintro k ⟨hk, hPt⟩
             intro K65 hK65
             refine wp_seq' fun K66 hK66 => ?_
             refine wp_reg ?_
             refine ol_r (r_lss rfl rfl) rfl ?_
             refine ol_nil (to_k0 (fun _ _ h => h) (hK66 _ _ _ _ _ ?_))
             clear hK66
             refine wp_seq' fun K67 hK67 => ?_
             refine wp_condD rfl (fun hc142 => ?_) (fun hc142 => ?_)
             ·refine wp_skip' (to_k0 (fun _ _ h => h) (hK67 _ _ _ _ _ ?_))
              clear hK67
              refine wp_seq' fun K68 hK68 => ?_
              refine wp_block' ?_
              refine wp_seq' fun K69 hK69 => ?_
              refine wp_reg ?_
              refine ol_r (r_move rfl) rfl ?_
              refine ol_ixr hA.t rfl rfl sl37 (by omega) rfl fun x144 hx144 => ?_
              try simp only [Int.toNat_natCast] at hx144
              refine ol_r (r_ldw rfl (fun w1 hb1 hs1 hB1 => Rd.loads hA.t ty9 hx144 hb1)) rfl ?_
              refine ol_r (r_assign rfl) rfl ?_
              refine ol_r (r_assign rfl) rfl ?_
              refine ol_nil (to_k0 (fun _ _ h => h) (hK69 _ _ _ _ _ ?_))
              clear hK69
              refine wp_block' ?_
              refine wp_seq' fun K70 hK70 => ?_
              refine wp_reg ?_
              refine ol_r (r_move rfl) rfl ?_
              refine ol_call rfl rfl cb44 rfl (fun w1 hb1 hs1 hB1 => Calls.mono (quant_IsName x144 _ (hA.tm _ (List.mem_of_getElem? hx144))) ?_)
              rintro e w2 ⟨rfl, hb2⟩
              refine After.below rfl hb1 hs1 hB1 hb2 ?_
              clear hb2 hB1 hs1 hb1 w2 w1
              refine ol_r (r_not rfl) rfl ?_
              refine ol_r (r_assign rfl) rfl ?_
              refine ol_nil (to_k0 (fun _ _ h => h) (hK70 _ _ _ _ _ ?_))
              clear hK70
              refine wp_condNB rfl (fun hc146 => ?_) (fun hc146 => ?_)
              ·refine wp_seq' fun K71 hK71 => ?_
               refine wp_reg ?_
               refine ol_r (r_assign rfl) rfl ?_
               refine ol_nil (to_k0 (fun _ _ h => h) (hK71 _ _ _ _ _ ?_))
               clear hK71
               refine hQ.ret (rvs1 (rv_t rfl)) (fun _ _ h => h) fun w hb hs hB hkd => ?_
               first
                 | (have h := chkE_bad hPt hx144 (fT_8 (by simpa using hc146)) (by simp)
                    exact ⟨by rw [(chkA_t hH hS0 hL0).trans h], hb⟩)
              ·refine wp_seq' fun K72 hK72 => ?_
               refine wp_reg ?_
               refine ol_r (r_move rfl) rfl ?_
               refine ol_r (r_gtr rfl rfl) rfl ?_
               refine ol_r (r_move rfl) rfl ?_
               refine ol_split (d := 153) rfl (fun hs153 => ?_) (fun hs153 => ?_)
               ·have phs153 := hs153; try simp only [decide_eq_true_eq, decide_eq_false_iff_not, Bool.not_eq_true', Bool.not_eq_false', Bool.not_true, Bool.not_false] at phs153
                refine ol_g rfl rfl hs153 ?_
                refine ol_r (r_move rfl) rfl ?_
                refine ol_g rfl rfl hs153 ?_
                refine ol_r (r_fa (o' := 5) rfl fl39_5 rfl) rfl ?_
                refine ol_g rfl rfl hs153 ?_
                refine ol_r (r_ld (id := 1) rfl rfl rfl sc37) rfl ?_
                refine ol_g rfl rfl hs153 ?_
                refine ol_r (r_move rfl) rfl ?_
                refine ol_g rfl rfl hs153 ?_
                refine ol_r (r_sub rfl rfl (by omega)) rfl ?_
                refine ol_g rfl rfl hs153 ?_
                refine ol_ixr hA.t rfl rfl sl37 (by omega) rfl fun x159 hx159 => ?_
                try simp only [Int.toNat_natCast] at hx159
                refine ol_g rfl rfl hs153 ?_
                refine ol_r (r_ldw rfl (fun w1 hb1 hs1 hB1 => Rd.loads hA.t ty9 hx159 hb1)) rfl ?_
                refine ol_g rfl rfl hs153 ?_
                refine ol_r (r_sleq rfl rfl) rfl ?_
                refine ol_r (r_pickT rfl hs153 rfl) rfl ?_
                refine ol_r (r_assign rfl) rfl ?_
                refine ol_nil (to_k0 (fun _ _ h => h) (hK72 _ _ _ _ _ ?_))
                clear hK72
                refine wp_cond' rfl (fun hc150 => ?_) (fun hc150 => ?_)
                ·refine wp_seq' fun K73 hK73 => ?_
                 refine wp_reg ?_
                 refine ol_r (r_assign rfl) rfl ?_
                 refine ol_nil (to_k0 (fun _ _ h => h) (hK73 _ _ _ _ _ ?_))
                 clear hK73
                 refine hQ.ret (rvs1 (rv_t rfl)) (fun _ _ h => h) fun w hb hs hB hkd => ?_
                 first
                   | (have hc : sLe x144 x159 = true := hc150
                      have h := chkE_bad hPt hx144 (fT_10 (by simpa using hc146) (by rw [ordT_1 (by omega) hx159, hc])) (by simp)
                      exact ⟨by rw [(chkA_t hH hS0 hL0).trans h], hb⟩)
                ·refine wp_skip' (to_k0 (fun _ _ h => h) (hK68 _ _ _ _ _ ?_))
                 clear hK68
                 refine wp_reg ?_
                 refine ol_r (r_add rfl rfl (by omega)) rfl ?_
                 refine ol_r (r_move rfl) rfl ?_
                 refine ol_nil (to_k0 (fun _ _ h => h) (hK65 (k + 1) _ _ ?_ ?_ (sub_cons rfl sub_nil) (sub_cons rfl (sub_cons rfl (sub_cons rfl sub_nil))) (by exact subH_nil) (subH_same rfl subH_nil)))
                 ·try dsimp only
                  first
                    | (have ho := ordT_1 (ts := A.ts) (k := k) (x := x144) (by omega) hx159
                       have hc : sLe x144 x159 = false := hc150
                       rw [hc] at ho
                       exact ⟨by omega, chkE_next hPt hx144 (fT_0 (by simpa using hc146) ho)⟩)
                 ·try dsimp only
                  omega
               ·have phs153 := hs153; try simp only [decide_eq_true_eq, decide_eq_false_iff_not, Bool.not_eq_true', Bool.not_eq_false', Bool.not_true, Bool.not_false] at phs153
                refine ol_s rfl rfl hs153 rfl ?_
                refine ol_s rfl rfl hs153 rfl ?_
                refine ol_s rfl rfl hs153 rfl ?_
                refine ol_s rfl rfl hs153 rfl ?_
                refine ol_s rfl rfl hs153 rfl ?_
                refine ol_s rfl rfl hs153 rfl ?_
                refine ol_s rfl rfl hs153 rfl ?_
                refine ol_s rfl rfl hs153 rfl ?_
                refine ol_r (r_pickF rfl hs153 rfl) rfl ?_
                refine ol_r (r_assign rfl) rfl ?_
                refine ol_nil (to_k0 (fun _ _ h => h) (hK72 _ _ _ _ _ ?_))
                clear hK72
                refine wp_condF rfl ?_
                refine wp_skip' (to_k0 (fun _ _ h => h) (hK68 _ _ _ _ _ ?_))
                clear hK68
                refine wp_reg ?_
                refine ol_r (r_add rfl rfl (by omega)) rfl ?_
                refine ol_r (r_move rfl) rfl ?_
                refine ol_nil (to_k0 (fun _ _ h => h) (hK65 (k + 1) _ _ ?_ ?_ (sub_cons rfl sub_nil) (sub_cons rfl (sub_cons rfl (sub_cons rfl sub_nil))) (by exact subH_nil) (subH_same rfl subH_nil)))
                ·try dsimp only
                 first
                   | (have ho := ordT_0 (ts := A.ts) (k := k) (x := x144) (by omega)
                      exact ⟨by omega, chkE_next hPt hx144 (fT_0 (by simpa using hc146) ho)⟩)
                ·try dsimp only
                 omega
             ·refine wp_exit' (to_k0 (fun _ _ h => h) (hK63 _ _ _ _ _ ?_))
              clear hK63
              refine wp_seq' fun K74 hK74 => ?_
              refine wp_reg ?_
              refine ol_r (r_assign rfl) rfl ?_
              refine ol_nil (to_k0 (fun _ _ h => h) (hK74 _ _ _ _ _ ?_))
              clear hK74
              refine hQ.ret (rvs1 (rv_t rfl)) (fun _ _ h => h) fun w hb hs hB hkd => ?_
              first
                | (exact ⟨by rw [(chkA_t hH hS0 hL0).trans (chkE_end hPt (by omega))], hb⟩)
end Go.Proofs.Ytjflbnbofedlkaa

/-
  Check: the reference.
-/


namespace Go.Proofs.Ytjflbnbofedlkaa
open Go Go.RowKit Hx
set_option linter.unusedVariables false
set_option linter.unusedSimpArgs false
set_option maxRecDepth 8000
end Go.Proofs.Ytjflbnbofedlkaa

/-
  More rules: structs within structs.
-/

namespace Go.Proofs.Ytjflbnbofedlkaa.Hx
open Go Go.RowKit
set_option linter.unusedVariables false
set_option linter.unusedSimpArgs false
section
variable {P : Program} {B : Nat} {w0 : World} {H : HL} {α : Type} {E : Enc α} {a : Option Addr} {n cap : Nat} {xs : List α}
end
section
variable {P : Program} {N : Fr} {B : Nat} {w0 : World} {Q : Exit → Act → World → Prop} {al : AL} {H : HL} {ops : Array Oper} {Ss : List (Nat × HL)} {n : Nat} {listed : Array Bool}
theorem aq_three {i j l : Nat} {o o' o2 : Oper} (hr : Region.ready .any ops listed = [i, j, l]) (ho : ops[i]? = some o) (ho' : ops[j]? = some o') (ho2 : ops[l]? = some o2)
    (h : Next P N B w0 ops Q Ss n listed al H i o) (h' : Next P N B w0 ops Q Ss n listed al H j o') (h2 : Next P N B w0 ops Q Ss n listed al H l o2) : AQ P N B w0 ops Q Ss (n + 1) listed al H := by
  intro hsh a w hst hS
  refine ⟨fun h0 => (by rw [hr] at h0; cases h0), fun k hk => ?_⟩
  have hk' := hk
  rw [hr] at hk'
  rcases (by simpa using hk' : k = i ∨ k = j ∨ k = l) with rfl | rfl | rfl
  · exact aq_op ho (hsh.set hk) h a w hst
  · exact aq_op ho' (hsh.set hk) h' a w hst
  · exact aq_op ho2 (hsh.set hk) h2 a w hst
end
section
variable {P : Program}
/-- The fields from number i on lie one behind the other, and the values fit them; fields that are structs, too. -/
def okFG (P : Program) : Nat → List Field → Nat → List Value → List Value → Bool
  | 0, _, _, _, _ => false
  | _ + 1, [], _, [], [] => true
  | _ + 1, [], _, _, _ => false
  | k + 1, f :: fs, i, us, vs => !(f.name == "_") && Nat.beq f.offset i && (match P.underlying f.type with
    | some (.struct gs) => (match P.info? f.type with
      | some inf => Nat.ble inf.size us.length && Nat.ble inf.size vs.length && !P.stoodInHeld f.type && okFG P k gs.toList 0 (us.take inf.size) (vs.take inf.size) && okFG P k fs (i + inf.size) (us.drop inf.size) (vs.drop inf.size)
      | none => false)
    | some (.int _) => (match us, vs with | .int k1 _ :: us, .int k2 _ :: vs => decide (k1 = k2) && okFG P k fs (i + 1) us vs | _, _ => false)
    | some .bool => (match us, vs with | .bool _ :: us, .bool _ :: vs => okFG P k fs (i + 1) us vs | _, _ => false)
    | some .string => (match us, vs with | .string _ :: us, .string _ :: vs => okFG P k fs (i + 1) us vs | _, _ => false)
    | _ => false)
theorem eqs_app : ∀ (us us' vs vs' : List Value), us.length = vs.length → eqs (us ++ us') (vs ++ vs') = (eqs us vs && eqs us' vs')
  | [], us', [], vs', _ => by simp [eqs]
  | u :: us, us', v :: vs, vs', h => by
    simp only [List.cons_append, eqs]
    rw [eqs_app us us' vs vs' (by simpa using h), Bool.and_assoc]
theorem run_eqFG {w : World} : ∀ (k d : Nat) {xs ys : Array Value} {fs : List Field} {i : Nat} {us vs : List Value}, k ≤ d → okFG P k fs i us vs = true → (∀ j u, us[j]? = some u → xs[i + j]? = some u) → (∀ j v, vs[j]? = some v → ys[i + j]? = some v) →
    (Op.eqFields (d + 1) xs ys fs).run P w = .ok (eqs us vs) w
  | 0, _, _, _, _, _, _, _, _, h, _, _ => by simp [okFG] at h
  | k + 1, d, xs, ys, [], i, us, vs, hd, h, h1, h2 => by
    cases us with
    | nil => cases vs with
      | nil => simp [Op.eqFields, eqs]
      | cons v vs => simp [okFG] at h
    | cons u us => simp [okFG] at h
  | k + 1, d, xs, ys, f :: fs, i, us, vs, hd, h, h1, h2 => by
    unfold okFG at h
    rw [Bool.and_eq_true, Bool.and_eq_true] at h
    obtain ⟨⟨q1, q2⟩, q3⟩ := h
    have hoff : f.offset = i := Nat.eq_of_beq_eq_true q2
    have hname : f.name ≠ "_" := by simpa using q1
    have step : ∀ (u v : Value) (us' vs' : List Value) (m : Nat) (b : Bool), (part f.type xs f.offset).run P w = .ok u w → (part f.type ys f.offset).run P w = .ok v w → (Op.equalIn (d + 1) f.type u v).run P w = .ok b w →
        okFG P k fs (i + m) us' vs' = true → (∀ j u, us'[j]? = some u → xs[i + m + j]? = some u) → (∀ j v, vs'[j]? = some v → ys[i + m + j]? = some v) → eqs us vs = (b && eqs us' vs') → (Op.eqFields (d + 1) xs ys (f :: fs)).run P w = .ok (eqs us vs) w := by
      intro u v us' vs' m b p1 p2 p3 hr r1 r2 he
      have ih := run_eqFG k d (xs := xs) (ys := ys) (w := w) (by omega) hr r1 r2
      unfold Op.eqFields
      rw [if_pos hname]
      simp only [Sem.run_bind, p1, p2, p3, Result.andThen_ok]
      cases hb : b with
      | false => rw [he, hb]; simp
      | true => rw [he, hb]; simp [ih]
    have one : ∀ (dd : TypeDesc) (u v : Value) (us' vs' : List Value), P.underlying f.type = some dd → (match dd with | .int _ | .bool | .string => true | _ => false) = true → us = u :: us' → vs = v :: vs' → (Op.equalIn (d + 1) f.type u v).run P w = .ok (eqV u v) w →
        okFG P k fs (i + 1) us' vs' = true → (Op.eqFields (d + 1) xs ys (f :: fs)).run P w = .ok (eqs us vs) w := by
      intro dd u v us' vs' hdd hp hus hvs p3 hr
      subst hus; subst hvs
      have hagg : (isAgg f.type).run P w = .ok false w := by
        simp only [isAgg, Sem.run_bind, run_underlying hdd, Result.andThen_ok]
        cases dd <;> first | rfl | (simp at hp)
      have hu : xs[i]? = some u := by simpa using h1 0 u rfl
      have hv : ys[i]? = some v := by simpa using h2 0 v rfl
      refine step u v us' vs' 1 (eqV u v) (by rw [hoff]; simp [part, hagg, hu]) (by rw [hoff]; simp [part, hagg, hv]) p3 hr ?_ ?_ rfl
      · intro j u' hj; have := h1 (j + 1) u' (by simpa using hj); rwa [show i + (j + 1) = i + 1 + j from by omega] at this
      · intro j v' hj; have := h2 (j + 1) v' (by simpa using hj); rwa [show i + (j + 1) = i + 1 + j from by omega] at this
    split at q3
    · rename_i gs hgs
      split at q3
      · rename_i inf hinf
        rw [Bool.and_eq_true, Bool.and_eq_true, Bool.and_eq_true, Bool.and_eq_true] at q3
        obtain ⟨⟨⟨⟨a1, a2⟩, a3⟩, a4⟩, a5⟩ := q3
        have l1 : inf.size ≤ us.length := by simpa using a1
        have l2 : inf.size ≤ vs.length := by simpa using a2
        have hagg : (isAgg f.type).run P w = .ok true w := by simp [isAgg, Sem.run_bind, run_underlying hgs, Result.andThen_ok]
        have hsz : (sizeOf f.type).run P w = .ok inf.size w := by simp [sizeOf, typeInfo, hinf]
        have hf : P.fieldsOf f.type = gs := by simp [Program.fieldsOf, hgs]
        have cut : ∀ (zs : Array Value) (ws : List Value), inf.size ≤ ws.length → (∀ j u, ws[j]? = some u → zs[i + j]? = some u) → ∀ j u, (ws.take inf.size)[j]? = some u → (zs.extract i (i + inf.size))[0 + j]? = some u := by
          intro zs ws hl hz j u hj
          rw [List.getElem?_take] at hj
          split at hj
          · rename_i hlt
            have h3 := hz j u hj
            have h4 := (Array.getElem?_eq_some_iff.1 h3).1
            rw [Nat.zero_add, Array.getElem?_extract, if_pos (by omega)]
            exact h3
          · cases hj
        obtain ⟨d', rfl⟩ : ∃ d', d = d' + 1 := ⟨d - 1, by omega⟩
        have inner : (Op.equalIn (d' + 1 + 1) f.type (.agg (xs.extract i (i + inf.size))) (.agg (ys.extract i (i + inf.size)))).run P w = .ok (eqs (us.take inf.size) (vs.take inf.size)) w := by
          rw [run_equalIn_struct (w := w) (d' + 1) f.type _ _ (by rw [hf]; exact hgs) (by simpa using a3), hf]
          exact run_eqFG k d' (by omega) a4 (cut xs us l1 h1) (cut ys vs l2 h2)
        refine step _ _ (us.drop inf.size) (vs.drop inf.size) inf.size _ (by rw [hoff]; simp [part, hagg, hsz]) (by rw [hoff]; simp [part, hagg, hsz]) inner a5 ?_ ?_ ?_
        · intro j u hj; rw [List.getElem?_drop] at hj; have := h1 _ u hj; rwa [← Nat.add_assoc] at this
        · intro j v hj; rw [List.getElem?_drop] at hj; have := h2 _ v hj; rwa [← Nat.add_assoc] at this
        · rw [← eqs_app _ _ _ _ (by simp; omega), List.take_append_drop, List.take_append_drop]
      · cases q3
    · rename_i kk hdd
      split at q3
      · rename_i k1 a us k2 b vs
        rw [Bool.and_eq_true] at q3
        have hk : k1 = k2 := by simpa using q3.1
        subst hk
        exact one _ _ _ _ _ hdd rfl rfl rfl (by rw [run_equalIn_int w d f.type k1 kk a b hdd]; rfl) q3.2
      · cases q3
    · rename_i hdd
      split at q3
      · rename_i a us b vs
        exact one _ _ _ _ _ hdd rfl rfl rfl (run_equalIn_bool' w d f.type a b hdd) q3
      · cases q3
    · rename_i hdd
      split at q3
      · rename_i a us b vs
        exact one _ _ _ _ _ hdd rfl rfl rfl (by simp [Op.equalIn, run_underlying hdd, eqV]) q3
      · cases q3
    · cases q3
def okSG (P : Program) (t : TypeId) (us vs : List Value) : Bool := match P.underlying t with | some (.struct fs) => okFG P 50 fs.toList 0 us vs | _ => false
theorem run_eqsG {t : TypeId} {us vs : List Value} (h : okSG P t us vs = true) (hp : P.stoodInHeld t = false) (w : World) : (Op.equalIn 10000 t (.agg us.toArray) (.agg vs.toArray)).run P w = .ok (eqs us vs) w := by
  unfold okSG at h
  split at h
  · rename_i fs hu
    have hf : P.fieldsOf t = fs := by simp [Program.fieldsOf, hu]
    rw [show (10000 : Nat) = 9999 + 1 from rfl, run_equalIn_struct (w := w) 9999 t _ _ (by rw [hf]; exact hu) hp, hf]
    exact run_eqFG 50 9998 (by omega) h (fun j u hj => by simpa using hj) (fun j u hj => by simpa using hj)
  · simp at h
end
end Go.Proofs.Ytjflbnbofedlkaa.Hx

/-
  Segments: program and reference.
-/




namespace Go.Proofs.Ytjflbnbofedlkaa
open Go Go.RowKit Hx
set_option linter.unusedVariables false
set_option linter.unusedSimpArgs false
set_option maxRecDepth 8000
def encGate : Enc GateR := { size := 4, cells := fun x => [.int .i64 x.ax, .int .i64 x.ay, .int .i64 x.bx, .int .i64 x.by_], val := fun x => .agg #[.int .i64 x.ax, .int .i64 x.ay, .int .i64 x.bx, .int .i64 x.by_], len := fun _ => rfl, ones := fun _ u h => by simp at h; rcases h with rfl | rfl | rfl | rfl <;> rfl, pos := by decide, vc := fun _ => rfl }
theorem ty79 : Ty Try.prog 79 encGate := .inr ⟨ag79, fun _ => rfl⟩
theorem match_in (n a b : Int) (w : World) : Calls Try.prog 45 #[.int .i64 n, .int .i64 a, .int .i64 b] w fun e w' => e = .returned (.bool (inB n a b)) ∧ Below w.heap.size w w' := by
  refine enterQ (N := 15) (C := fun _ => True) (H := []) (B := w.heap.size) (args := [_, _, _]) Try.func45 rfl rfl rfl (Nat.le_refl _) (Sat.nil _ _) fun Q hQ => ?_
  refine wp_seq' fun K1 hK1 => ?_
  refine wp_reg ?_
  refine ol_r (r_assign rfl) rfl ?_
  refine ol_nil (to_k0 (fun _ _ h => h) (hK1 _ _ _ _ _ ?_))
  clear hK1
  refine wp_seq' fun K2 hK2 => ?_
  refine wp_reg ?_
  refine ol_r (r_move rfl) rfl ?_
  refine ol_r (r_move rfl) rfl ?_
  refine ol_r (r_geq rfl rfl) rfl ?_
  refine ol_r (r_move rfl) rfl ?_
  refine ol_split (d := 10) rfl (fun hs10 => ?_) (fun hs10 => ?_)
  ·have phs10 := hs10; try simp only [decide_eq_true_eq, decide_eq_false_iff_not, Bool.not_eq_true', Bool.not_eq_false', Bool.not_true, Bool.not_false] at phs10
   refine ol_g rfl rfl hs10 ?_
   refine ol_r (r_move rfl) rfl ?_
   refine ol_g rfl rfl hs10 ?_
   refine ol_r (r_move rfl) rfl ?_
   refine ol_g rfl rfl hs10 ?_
   refine ol_r (r_leq rfl rfl) rfl ?_
   refine ol_r (r_pickT rfl hs10 rfl) rfl ?_
   refine ol_r (r_assign rfl) rfl ?_
   refine ol_nil (to_k0 (fun _ _ h => h) (hK2 _ _ _ _ _ ?_))
   clear hK2
   refine hQ.ret (rvs1 (rv_t rfl)) (fun _ _ h => h) fun w hb hs hB hkd => ?_
   exact ⟨by simp [inB, hs10], hb⟩
  ·have phs10 := hs10; try simp only [decide_eq_true_eq, decide_eq_false_iff_not, Bool.not_eq_true', Bool.not_eq_false', Bool.not_true, Bool.not_false] at phs10
   refine ol_s rfl rfl hs10 rfl ?_
   refine ol_s rfl rfl hs10 rfl ?_
   refine ol_s rfl rfl hs10 rfl ?_
   refine ol_r (r_pickF rfl hs10 rfl) rfl ?_
   refine ol_r (r_assign rfl) rfl ?_
   refine ol_nil (to_k0 (fun _ _ h => h) (hK2 _ _ _ _ _ ?_))
   clear hK2
   refine hQ.ret (rvs1 (rv_t rfl)) (fun _ _ h => h) fun w hb hs hB hkd => ?_
   exact ⟨by simp [inB, hs10], hb⟩
theorem ref5_outside (n a b : Int) (w : World) : Calls Try.prog 47 #[.int .i64 n, .int .i64 a, .int .i64 b] w fun e w' => e = .returned (.bool (!inB n a b)) ∧ Below w.heap.size w w' := by
  refine enterQ (N := 15) (C := fun _ => True) (H := []) (B := w.heap.size) (args := [_, _, _]) Try.func47 rfl rfl rfl (Nat.le_refl _) (Sat.nil _ _) fun Q hQ => ?_
  refine wp_seq' fun K1 hK1 => ?_
  refine wp_reg ?_
  refine ol_r (r_assign rfl) rfl ?_
  refine ol_nil (to_k0 (fun _ _ h => h) (hK1 _ _ _ _ _ ?_))
  clear hK1
  refine wp_seq' fun K2 hK2 => ?_
  refine wp_reg ?_
  refine ol_r (r_move rfl) rfl ?_
  refine ol_r (r_move rfl) rfl ?_
  refine ol_r (r_lss rfl rfl) rfl ?_
  refine ol_r (r_move rfl) rfl ?_
  refine ol_split (d := 10) rfl (fun hs10 => ?_) (fun hs10 => ?_)
  ·have phs10 := hs10; try simp only [decide_eq_true_eq, decide_eq_false_iff_not, Bool.not_eq_true', Bool.not_eq_false', Bool.not_true, Bool.not_false] at phs10
   refine ol_s rfl rfl hs10 rfl ?_
   refine ol_s rfl rfl hs10 rfl ?_
   refine ol_s rfl rfl hs10 rfl ?_
   refine ol_r (r_pickT rfl hs10 rfl) rfl ?_
   refine ol_r (r_assign rfl) rfl ?_
   refine ol_nil (to_k0 (fun _ _ h => h) (hK2 _ _ _ _ _ ?_))
   clear hK2
   refine hQ.ret (rvs1 (rv_t rfl)) (fun _ _ h => h) fun w hb hs hB hkd => ?_
   exact ⟨by rw [inB_not.2 (.inl (by simpa using phs10))]; rfl, hb⟩
  ·have phs10 := hs10; try simp only [decide_eq_true_eq, decide_eq_false_iff_not, Bool.not_eq_true', Bool.not_eq_false', Bool.not_true, Bool.not_false] at phs10
   refine ol_g rfl rfl hs10 ?_
   refine ol_r (r_move rfl) rfl ?_
   refine ol_g rfl rfl hs10 ?_
   refine ol_r (r_move rfl) rfl ?_
   refine ol_g rfl rfl hs10 ?_
   refine ol_r (r_gtr rfl rfl) rfl ?_
   refine ol_r (r_pickF rfl hs10 rfl) rfl ?_
   refine ol_r (r_assign rfl) rfl ?_
   refine ol_nil (to_k0 (fun _ _ h => h) (hK2 _ _ _ _ _ ?_))
   clear hK2
   refine hQ.ret (rvs1 (rv_t rfl)) (fun _ _ h => h) fun w hb hs hB hkd => ?_
   have h2 : decide (b < n) = !inB n a b := by
     by_cases h : n ≤ b
     · rw [inB_iff.2 ⟨by omega, h⟩, decide_eq_false (by omega)]; rfl
     · rw [inB_not.2 (.inr (by omega)), decide_eq_true (by omega)]; rfl
   exact ⟨by rw [h2], hb⟩
theorem ref1_isDigit (c : Int) (w : World) : Calls Try.prog 79 #[.int .u8 c] w fun e w' => e = .returned (.bool (decide (48 ≤ c ∧ c ≤ 57))) ∧ Below w.heap.size w w' := by
  refine enterQ (N := 9) (C := fun _ => True) (H := []) (B := w.heap.size) (args := [_]) Try.func79 rfl rfl rfl (Nat.le_refl _) (Sat.nil _ _) fun Q hQ => ?_
  refine wp_seq' fun K1 hK1 => ?_
  refine wp_reg ?_
  refine ol_r (r_assign rfl) rfl ?_
  refine ol_nil (to_k0 (fun _ _ h => h) (hK1 _ _ _ _ _ ?_))
  clear hK1
  refine wp_seq' fun K2 hK2 => ?_
  refine wp_reg ?_
  refine ol_r (r_move rfl) rfl ?_
  refine ol_r (r_geq rfl rfl) rfl ?_
  refine ol_r (r_move rfl) rfl ?_
  refine ol_split (d := 5) rfl (fun hs5 => ?_) (fun hs5 => ?_)
  ·have phs5 := hs5; try simp only [decide_eq_true_eq, decide_eq_false_iff_not, Bool.not_eq_true', Bool.not_eq_false', Bool.not_true, Bool.not_false] at phs5
   refine ol_g rfl rfl hs5 ?_
   refine ol_r (r_move rfl) rfl ?_
   refine ol_g rfl rfl hs5 ?_
   refine ol_r (r_leq rfl rfl) rfl ?_
   refine ol_r (r_pickT rfl hs5 rfl) rfl ?_
   refine ol_r (r_assign rfl) rfl ?_
   refine ol_nil (to_k0 (fun _ _ h => h) (hK2 _ _ _ _ _ ?_))
   clear hK2
   refine hQ.ret (rvs1 (rv_t rfl)) (fun _ _ h => h) fun w hb hs hB hkd => ?_
   first
     | exact ⟨congrArg (fun b => Ending.returned (Value.bool b)) (decide_eq_decide.2 (by omega)), hb⟩
  ·have phs5 := hs5; try simp only [decide_eq_true_eq, decide_eq_false_iff_not, Bool.not_eq_true', Bool.not_eq_false', Bool.not_true, Bool.not_false] at phs5
   refine ol_s rfl rfl hs5 rfl ?_
   refine ol_s rfl rfl hs5 rfl ?_
   refine ol_r (r_pickF rfl hs5 rfl) rfl ?_
   refine ol_r (r_assign rfl) rfl ?_
   refine ol_nil (to_k0 (fun _ _ h => h) (hK2 _ _ _ _ _ ?_))
   clear hK2
   refine hQ.ret (rvs1 (rv_t rfl)) (fun _ _ h => h) fun w hb hs hB hkd => ?_
   first
     | exact ⟨congrArg (fun b => Ending.returned (Value.bool b)) (decide_eq_false (by omega)).symm, hb⟩
theorem ref1_IsName (q : ByteArray) (w : World) (hq0 : q.size ≤ 9223372036854775807) : Calls Try.prog 46 #[.string q] w fun e w' => e = .returned (.bool (nameB q)) ∧ Below w.heap.size w w' := by
  refine enterQ (N := 59) (C := fun _ => True) (H := []) (B := w.heap.size) (args := [_]) Try.func46 rfl rfl rfl (Nat.le_refl _) (Sat.nil _ _) fun Q hQ => ?_
  refine wp_seq' fun K1 hK1 => ?_
  refine wp_reg ?_
  refine ol_r (r_assign rfl) rfl ?_
  refine ol_nil (to_k0 (fun _ _ h => h) (hK1 _ _ _ _ _ ?_))
  clear hK1
  refine wp_seq' fun K2 hK2 => ?_
  refine wp_seq' fun K3 hK3 => ?_
  refine wp_reg ?_
  refine ol_r (r_move rfl) rfl ?_
  refine ol_r (r_lens rfl st9) rfl ?_
  refine ol_r (r_lss rfl rfl) rfl ?_
  refine ol_r (r_move rfl) rfl ?_
  refine ol_split (d := 10) rfl (fun hs10 => ?_) (fun hs10 => ?_)
  ·have phs10 := hs10; try simp only [decide_eq_true_eq, decide_eq_false_iff_not, Bool.not_eq_true', Bool.not_eq_false', Bool.not_true, Bool.not_false] at phs10
   refine ol_s rfl rfl hs10 rfl ?_
   refine ol_s rfl rfl hs10 rfl ?_
   refine ol_s rfl rfl hs10 rfl ?_
   refine ol_r (r_pickT rfl hs10 rfl) rfl ?_
   refine ol_nil (to_k0 (fun _ _ h => h) (hK3 _ _ _ _ _ ?_))
   clear hK3
   refine wp_condT rfl ?_
   refine wp_seq' fun K4 hK4 => ?_
   refine wp_reg ?_
   refine ol_r (r_assign rfl) rfl ?_
   refine ol_nil (to_k0 (fun _ _ h => h) (hK4 _ _ _ _ _ ?_))
   clear hK4
   refine hQ.ret (rvs1 (rv_t rfl)) (fun _ _ h => h) fun w hb hs hB hkd => ?_
   first
     | (refine ⟨?_, hb⟩
        have h2 : nameB q = false := by
          unfold nameB
          by_cases h1 : 1 ≤ q.size
          · rw [decide_eq_false (show ¬q.size ≤ 60 by omega), Bool.and_false, Bool.and_false]
          · rw [decide_eq_false h1, Bool.false_and, Bool.and_false]
        rw [h2]
        done)
  ·have phs10 := hs10; try simp only [decide_eq_true_eq, decide_eq_false_iff_not, Bool.not_eq_true', Bool.not_eq_false', Bool.not_true, Bool.not_false] at phs10
   refine ol_g rfl rfl hs10 ?_
   refine ol_r (r_move rfl) rfl ?_
   refine ol_g rfl rfl hs10 ?_
   refine ol_r (r_lens rfl st9) rfl ?_
   refine ol_g rfl rfl hs10 ?_
   refine ol_r (r_gtr rfl rfl) rfl ?_
   refine ol_r (r_pickF rfl hs10 rfl) rfl ?_
   refine ol_nil (to_k0 (fun _ _ h => h) (hK3 _ _ _ _ _ ?_))
   clear hK3
   refine wp_condD rfl (fun hc14 => ?_) (fun hc14 => ?_)
   ·refine wp_seq' fun K5 hK5 => ?_
    refine wp_reg ?_
    refine ol_r (r_assign rfl) rfl ?_
    refine ol_nil (to_k0 (fun _ _ h => h) (hK5 _ _ _ _ _ ?_))
    clear hK5
    refine hQ.ret (rvs1 (rv_t rfl)) (fun _ _ h => h) fun w hb hs hB hkd => ?_
    first
      | (refine ⟨?_, hb⟩
         have h2 : nameB q = false := by
           unfold nameB
           by_cases h1 : 1 ≤ q.size
           · rw [decide_eq_false (show ¬q.size ≤ 60 by omega), Bool.and_false, Bool.and_false]
           · rw [decide_eq_false h1, Bool.false_and, Bool.and_false]
         rw [h2]
         done)
   ·refine wp_skip' (to_k0 (fun _ _ h => h) (hK2 _ _ _ _ _ ?_))
    clear hK2
    refine wp_seq' fun K6 hK6 => ?_
    refine wp_seq' fun K7 hK7 => ?_
    refine wp_reg ?_
    refine ol_r (r_assign rfl) rfl ?_
    refine ol_nil (to_k0 (fun _ _ h => h) (hK7 _ _ _ _ _ ?_))
    clear hK7
    refine wp_block' ?_
    apply wp_loopM (σ := Nat) (fun s => s ≤ q.size ∧ ∀ i, i < s → nameC (byteAt q i) = true) (fun s => [(3, .int .i64 s)]) [(0, _)] (fun s => []) [] (fun s => q.size - s) (0)
    ·try dsimp only
     exact ⟨Nat.zero_le _, fun i h => by omega⟩
    ·exact (sub_cons rfl sub_nil)
    ·exact (sub_cons rfl sub_nil)
    ·exact subH_nil
    ·exact subH_nil
    ·rintro k ⟨hk, hP⟩
     intro K8 hK8
     refine wp_seq' fun K9 hK9 => ?_
     refine wp_seq' fun K10 hK10 => ?_
     refine wp_reg ?_
     refine ol_r (r_move rfl) rfl ?_
     refine ol_r (r_move rfl) rfl ?_
     refine ol_r (r_lens rfl st9) rfl ?_
     refine ol_r (r_lss rfl rfl) rfl ?_
     refine ol_nil (to_k0 (fun _ _ h => h) (hK10 _ _ _ _ _ ?_))
     clear hK10
     refine wp_condD rfl (fun hc18 => ?_) (fun hc18 => ?_)
     ·refine wp_skip' (to_k0 (fun _ _ h => h) (hK9 _ _ _ _ _ ?_))
      clear hK9
      refine wp_seq' fun K11 hK11 => ?_
      refine wp_block' ?_
      refine wp_seq' fun K12 hK12 => ?_
      refine wp_reg ?_
      refine ol_r (r_move rfl) rfl ?_
      refine ol_r (r_move rfl) rfl ?_
      refine ol_r (r_sidx rfl rfl st9 (by omega)) rfl ?_
      try simp only [Int.toNat_natCast]
      refine ol_r (r_assign rfl) rfl ?_
      refine ol_nil (to_k0 (fun _ _ h => h) (hK12 _ _ _ _ _ ?_))
      clear hK12
      apply wp_seq_cutM (σ := Bool × Bool) (fun s => s.1 = decide (97 ≤ byteAt q k ∧ byteAt q k ≤ 122) ∧ s.2 = decide (65 ≤ byteAt q k ∧ byteAt q k ≤ 90)) (fun s => [(5, .bool s.1), (6, .bool s.2)]) [(0, _), (3, _), (4, _)] (fun s => []) []
      ·exact (sub_cons rfl (sub_cons rfl (sub_cons rfl sub_nil)))
      ·exact subH_nil
      ·intro K13 hK13
       refine wp_reg ?_
       refine ol_r (r_move rfl) rfl ?_
       refine ol_r (r_geq rfl rfl) rfl ?_
       refine ol_r (r_move rfl) rfl ?_
       refine ol_split (d := 26) rfl (fun hs26 => ?_) (fun hs26 => ?_)
       ·have phs26 := hs26; try simp only [decide_eq_true_eq, decide_eq_false_iff_not, Bool.not_eq_true', Bool.not_eq_false', Bool.not_true, Bool.not_false] at phs26
        refine ol_g rfl rfl hs26 ?_
        refine ol_r (r_move rfl) rfl ?_
        refine ol_g rfl rfl hs26 ?_
        refine ol_r (r_leq rfl rfl) rfl ?_
        refine ol_r (r_pickT rfl hs26 rfl) rfl ?_
        refine ol_r (r_move rfl) rfl ?_
        refine ol_r (r_geq rfl rfl) rfl ?_
        refine ol_r (r_move rfl) rfl ?_
        refine ol_split (d := 32) rfl (fun hs32 => ?_) (fun hs32 => ?_)
        ·have phs32 := hs32; try simp only [decide_eq_true_eq, decide_eq_false_iff_not, Bool.not_eq_true', Bool.not_eq_false', Bool.not_true, Bool.not_false] at phs32
         refine ol_g rfl rfl hs32 ?_
         refine ol_r (r_move rfl) rfl ?_
         refine ol_g rfl rfl hs32 ?_
         refine ol_r (r_leq rfl rfl) rfl ?_
         refine ol_r (r_pickT rfl hs32 rfl) rfl ?_
         refine ol_r (r_assign rfl) rfl ?_
         refine ol_r (r_assign rfl) rfl ?_
         refine ol_nil (to_k0 (fun _ _ h => h) (hK13 ((_, _)) _ _ ?_ (sub_cons rfl (sub_cons rfl sub_nil)) (sub_cons rfl (sub_cons rfl (sub_cons rfl sub_nil))) subH_nil subH_nil))
         try dsimp only
         first
         | exact ⟨decide_eq_decide.2 (by omega), decide_eq_decide.2 (by omega)⟩
        ·have phs32 := hs32; try simp only [decide_eq_true_eq, decide_eq_false_iff_not, Bool.not_eq_true', Bool.not_eq_false', Bool.not_true, Bool.not_false] at phs32
         refine ol_s rfl rfl hs32 rfl ?_
         refine ol_s rfl rfl hs32 rfl ?_
         refine ol_r (r_pickF rfl hs32 rfl) rfl ?_
         refine ol_r (r_assign rfl) rfl ?_
         refine ol_r (r_assign rfl) rfl ?_
         refine ol_nil (to_k0 (fun _ _ h => h) (hK13 ((_, _)) _ _ ?_ (sub_cons rfl (sub_cons rfl sub_nil)) (sub_cons rfl (sub_cons rfl (sub_cons rfl sub_nil))) subH_nil subH_nil))
         try dsimp only
         first
         | exact ⟨decide_eq_decide.2 (by omega), (decide_eq_false (by omega)).symm⟩
       ·have phs26 := hs26; try simp only [decide_eq_true_eq, decide_eq_false_iff_not, Bool.not_eq_true', Bool.not_eq_false', Bool.not_true, Bool.not_false] at phs26
        refine ol_s rfl rfl hs26 rfl ?_
        refine ol_s rfl rfl hs26 rfl ?_
        refine ol_r (r_pickF rfl hs26 rfl) rfl ?_
        refine ol_r (r_move rfl) rfl ?_
        refine ol_r (r_geq rfl rfl) rfl ?_
        refine ol_r (r_move rfl) rfl ?_
        refine ol_split (d := 32) rfl (fun hs32 => ?_) (fun hs32 => ?_)
        ·have phs32 := hs32; try simp only [decide_eq_true_eq, decide_eq_false_iff_not, Bool.not_eq_true', Bool.not_eq_false', Bool.not_true, Bool.not_false] at phs32
         refine ol_g rfl rfl hs32 ?_
         refine ol_r (r_move rfl) rfl ?_
         refine ol_g rfl rfl hs32 ?_
         refine ol_r (r_leq rfl rfl) rfl ?_
         refine ol_r (r_pickT rfl hs32 rfl) rfl ?_
         refine ol_r (r_assign rfl) rfl ?_
         refine ol_r (r_assign rfl) rfl ?_
         refine ol_nil (to_k0 (fun _ _ h => h) (hK13 ((_, _)) _ _ ?_ (sub_cons rfl (sub_cons rfl sub_nil)) (sub_cons rfl (sub_cons rfl (sub_cons rfl sub_nil))) subH_nil subH_nil))
         try dsimp only
         first
         | exact ⟨(decide_eq_false (by omega)).symm, decide_eq_decide.2 (by omega)⟩
        ·have phs32 := hs32; try simp only [decide_eq_true_eq, decide_eq_false_iff_not, Bool.not_eq_true', Bool.not_eq_false', Bool.not_true, Bool.not_false] at phs32
         refine ol_s rfl rfl hs32 rfl ?_
         refine ol_s rfl rfl hs32 rfl ?_
         refine ol_r (r_pickF rfl hs32 rfl) rfl ?_
         refine ol_r (r_assign rfl) rfl ?_
         refine ol_r (r_assign rfl) rfl ?_
         refine ol_nil (to_k0 (fun _ _ h => h) (hK13 ((_, _)) _ _ ?_ (sub_cons rfl (sub_cons rfl sub_nil)) (sub_cons rfl (sub_cons rfl (sub_cons rfl sub_nil))) subH_nil subH_nil))
         try dsimp only
         first
         | exact ⟨(decide_eq_false (by omega)).symm, (decide_eq_false (by omega)).symm⟩
      ·rintro ⟨b, b'⟩ ⟨h1, h2⟩
       dsimp only at h1 h2
       subst h1
       subst h2
       dsimp only
       apply wp_seq_cutM (σ := Bool) (fun s => s = !nameC (byteAt q k)) (fun s => [(58, .bool s)]) [(0, _), (3, _)] (fun s => []) []
       ·exact (sub_cons rfl (sub_cons rfl sub_nil))
       ·exact subH_nil
       ·intro K14 hK14
        refine wp_reg ?_
        refine ol_r (r_move rfl) rfl ?_
        refine ol_r (r_not rfl) rfl ?_
        refine ol_r (r_move rfl) rfl ?_
        refine ol_split (d := 38) rfl (fun hs38 => ?_) (fun hs38 => ?_)
        ·have phs38 := hs38; try simp only [decide_eq_true_eq, decide_eq_false_iff_not, Bool.not_eq_true', Bool.not_eq_false', Bool.not_true, Bool.not_false] at phs38
         refine ol_g rfl rfl hs38 ?_
         refine ol_r (r_move rfl) rfl ?_
         refine ol_g rfl rfl hs38 ?_
         refine ol_r (r_not rfl) rfl ?_
         refine ol_r (r_pickT rfl hs38 rfl) rfl ?_
         refine ol_r (r_move rfl) rfl ?_
         refine ol_split (d := 42) rfl (fun hs42 => ?_) (fun hs42 => ?_)
         ·have phs42 := hs42; try simp only [decide_eq_true_eq, decide_eq_false_iff_not, Bool.not_eq_true', Bool.not_eq_false', Bool.not_true, Bool.not_false] at phs42
          refine ol_g rfl rfl hs42 ?_
          refine ol_r (r_move rfl) rfl ?_
          refine ol_g rfl rfl hs42 ?_
          refine ol_call rfl rfl cb79 rfl (fun w1 hb1 hs1 hB1 => Calls.mono (ref1_isDigit _ _) ?_)
          rintro e w2 ⟨rfl, hb2⟩
          refine After.below rfl hb1 hs1 hB1 hb2 ?_
          clear hb2 hB1 hs1 hb1 w2 w1
          refine ol_g rfl rfl hs42 ?_
          refine ol_r (r_not rfl) rfl ?_
          refine ol_r (r_pickT rfl hs42 rfl) rfl ?_
          refine ol_r (r_move rfl) rfl ?_
          refine ol_split (d := 47) rfl (fun hs47 => ?_) (fun hs47 => ?_)
          ·have phs47 := hs47; try simp only [decide_eq_true_eq, decide_eq_false_iff_not, Bool.not_eq_true', Bool.not_eq_false', Bool.not_true, Bool.not_false] at phs47
           refine ol_g rfl rfl hs47 ?_
           refine ol_r (r_move rfl) rfl ?_
           refine ol_g rfl rfl hs47 ?_
           refine ol_r (r_neq rfl rfl) rfl ?_
           refine ol_r (r_pickT rfl hs47 rfl) rfl ?_
           refine ol_r (r_move rfl) rfl ?_
           refine ol_split (d := 51) rfl (fun hs51 => ?_) (fun hs51 => ?_)
           ·have phs51 := hs51; try simp only [decide_eq_true_eq, decide_eq_false_iff_not, Bool.not_eq_true', Bool.not_eq_false', Bool.not_true, Bool.not_false] at phs51
            refine ol_g rfl rfl hs51 ?_
            refine ol_r (r_move rfl) rfl ?_
            refine ol_g rfl rfl hs51 ?_
            refine ol_r (r_neq rfl rfl) rfl ?_
            refine ol_r (r_pickT rfl hs51 rfl) rfl ?_
            refine ol_r (r_move rfl) rfl ?_
            refine ol_split (d := 55) rfl (fun hs55 => ?_) (fun hs55 => ?_)
            ·have phs55 := hs55; try simp only [decide_eq_true_eq, decide_eq_false_iff_not, Bool.not_eq_true', Bool.not_eq_false', Bool.not_true, Bool.not_false] at phs55
             refine ol_g rfl rfl hs55 ?_
             refine ol_r (r_move rfl) rfl ?_
             refine ol_g rfl rfl hs55 ?_
             refine ol_r (r_neq rfl rfl) rfl ?_
             refine ol_r (r_pickT rfl hs55 rfl) rfl ?_
             refine ol_nil (to_k0 (fun _ _ h => h) (hK14 (_) _ _ ?_ (sub_cons rfl sub_nil) (sub_cons rfl (sub_cons rfl sub_nil)) subH_nil subH_nil))
             try dsimp only
             first
             | exact nn_d (by omega)
            ·have phs55 := hs55; try simp only [decide_eq_true_eq, decide_eq_false_iff_not, Bool.not_eq_true', Bool.not_eq_false', Bool.not_true, Bool.not_false] at phs55
             refine ol_s rfl rfl hs55 rfl ?_
             refine ol_s rfl rfl hs55 rfl ?_
             refine ol_r (r_pickF rfl hs55 rfl) rfl ?_
             refine ol_nil (to_k0 (fun _ _ h => h) (hK14 (_) _ _ ?_ (sub_cons rfl sub_nil) (sub_cons rfl (sub_cons rfl sub_nil)) subH_nil subH_nil))
             try dsimp only
             first
             | exact nn_f (by omega)
           ·have phs51 := hs51; try simp only [decide_eq_true_eq, decide_eq_false_iff_not, Bool.not_eq_true', Bool.not_eq_false', Bool.not_true, Bool.not_false] at phs51
            refine ol_s rfl rfl hs51 rfl ?_
            refine ol_s rfl rfl hs51 rfl ?_
            refine ol_r (r_pickF rfl hs51 rfl) rfl ?_
            refine ol_r (r_move rfl) rfl ?_
            refine ol_s rfl rfl rfl rfl ?_
            refine ol_s rfl rfl rfl rfl ?_
            refine ol_r (r_pickF rfl rfl rfl) rfl ?_
            refine ol_nil (to_k0 (fun _ _ h => h) (hK14 (_) _ _ ?_ (sub_cons rfl sub_nil) (sub_cons rfl (sub_cons rfl sub_nil)) subH_nil subH_nil))
            try dsimp only
            first
            | exact nn_f (by omega)
          ·have phs47 := hs47; try simp only [decide_eq_true_eq, decide_eq_false_iff_not, Bool.not_eq_true', Bool.not_eq_false', Bool.not_true, Bool.not_false] at phs47
           refine ol_s rfl rfl hs47 rfl ?_
           refine ol_s rfl rfl hs47 rfl ?_
           refine ol_r (r_pickF rfl hs47 rfl) rfl ?_
           refine ol_r (r_move rfl) rfl ?_
           refine ol_s rfl rfl rfl rfl ?_
           refine ol_s rfl rfl rfl rfl ?_
           refine ol_r (r_pickF rfl rfl rfl) rfl ?_
           refine ol_r (r_move rfl) rfl ?_
           refine ol_s rfl rfl rfl rfl ?_
           refine ol_s rfl rfl rfl rfl ?_
           refine ol_r (r_pickF rfl rfl rfl) rfl ?_
           refine ol_nil (to_k0 (fun _ _ h => h) (hK14 (_) _ _ ?_ (sub_cons rfl sub_nil) (sub_cons rfl (sub_cons rfl sub_nil)) subH_nil subH_nil))
           try dsimp only
           first
           | exact nn_f (by omega)
         ·have phs42 := hs42; try simp only [decide_eq_true_eq, decide_eq_false_iff_not, Bool.not_eq_true', Bool.not_eq_false', Bool.not_true, Bool.not_false] at phs42
          refine ol_s rfl rfl hs42 rfl ?_
          refine ol_s rfl rfl hs42 rfl ?_
          refine ol_s rfl rfl hs42 rfl ?_
          refine ol_r (r_pickF rfl hs42 rfl) rfl ?_
          refine ol_r (r_move rfl) rfl ?_
          refine ol_s rfl rfl rfl rfl ?_
          refine ol_s rfl rfl rfl rfl ?_
          refine ol_r (r_pickF rfl rfl rfl) rfl ?_
          refine ol_r (r_move rfl) rfl ?_
          refine ol_s rfl rfl rfl rfl ?_
          refine ol_s rfl rfl rfl rfl ?_
          refine ol_r (r_pickF rfl rfl rfl) rfl ?_
          refine ol_r (r_move rfl) rfl ?_
          refine ol_s rfl rfl rfl rfl ?_
          refine ol_s rfl rfl rfl rfl ?_
          refine ol_r (r_pickF rfl rfl rfl) rfl ?_
          refine ol_nil (to_k0 (fun _ _ h => h) (hK14 (_) _ _ ?_ (sub_cons rfl sub_nil) (sub_cons rfl (sub_cons rfl sub_nil)) subH_nil subH_nil))
          try dsimp only
          first
          | exact nn_f (by omega)
        ·have phs38 := hs38; try simp only [decide_eq_true_eq, decide_eq_false_iff_not, Bool.not_eq_true', Bool.not_eq_false', Bool.not_true, Bool.not_false] at phs38
         refine ol_s rfl rfl hs38 rfl ?_
         refine ol_s rfl rfl hs38 rfl ?_
         refine ol_r (r_pickF rfl hs38 rfl) rfl ?_
         refine ol_r (r_move rfl) rfl ?_
         refine ol_s rfl rfl rfl rfl ?_
         refine ol_s rfl rfl rfl rfl ?_
         refine ol_s rfl rfl rfl rfl ?_
         refine ol_r (r_pickF rfl rfl rfl) rfl ?_
         refine ol_r (r_move rfl) rfl ?_
         refine ol_s rfl rfl rfl rfl ?_
         refine ol_s rfl rfl rfl rfl ?_
         refine ol_r (r_pickF rfl rfl rfl) rfl ?_
         refine ol_r (r_move rfl) rfl ?_
         refine ol_s rfl rfl rfl rfl ?_
         refine ol_s rfl rfl rfl rfl ?_
         refine ol_r (r_pickF rfl rfl rfl) rfl ?_
         refine ol_r (r_move rfl) rfl ?_
         refine ol_s rfl rfl rfl rfl ?_
         refine ol_s rfl rfl rfl rfl ?_
         refine ol_r (r_pickF rfl rfl rfl) rfl ?_
         refine ol_nil (to_k0 (fun _ _ h => h) (hK14 (_) _ _ ?_ (sub_cons rfl sub_nil) (sub_cons rfl (sub_cons rfl sub_nil)) subH_nil subH_nil))
         try dsimp only
         first
         | exact nn_f (by omega)
       ·rintro b rfl
        refine wp_condNB rfl (fun hc58 => ?_) (fun hc58 => ?_)
        ·refine wp_seq' fun K15 hK15 => ?_
         refine wp_reg ?_
         refine ol_r (r_assign rfl) rfl ?_
         refine ol_nil (to_k0 (fun _ _ h => h) (hK15 _ _ _ _ _ ?_))
         clear hK15
         refine hQ.ret (rvs1 (rv_t rfl)) (fun _ _ h => h) fun w hb hs hB hkd => ?_
         first
           | (refine ⟨?_, hb⟩
              have h1 : nameC (byteAt q k) = false := hc58
              have h2 : nameB q = false := by unfold nameB; rw [bytesAll_not (by omega) h1]; rfl
              rw [h2]
              done)
        ·refine wp_skip' (to_k0 (fun _ _ h => h) (hK11 _ _ _ _ _ ?_))
         clear hK11
         refine wp_reg ?_
         refine ol_r (r_move rfl) rfl ?_
         refine ol_r (r_add rfl rfl (by omega)) rfl ?_
         refine ol_r (r_assign rfl) rfl ?_
         refine ol_nil (to_k0 (fun _ _ h => h) (hK8 (k + 1) _ _ ?_ ?_ (sub_cons rfl sub_nil) (sub_cons rfl sub_nil) (by exact subH_nil) subH_nil))
         ·try dsimp only
          exact ⟨by omega, up_to hP hc58⟩
         ·try dsimp only
          omega
     ·refine wp_exit' (to_k0 (fun _ _ h => h) (hK6 _ _ _ _ _ ?_))
      clear hK6
      refine wp_seq' fun K16 hK16 => ?_
      refine wp_reg ?_
      refine ol_r (r_assign rfl) rfl ?_
      refine ol_nil (to_k0 (fun _ _ h => h) (hK16 _ _ _ _ _ ?_))
      clear hK16
      refine hQ.ret (rvs1 (rv_t rfl)) (fun _ _ h => h) fun w hb hs hB hkd => ?_
      first
        | (refine ⟨?_, hb⟩
           have h1 : bytesAll nameC q = true := bytesAll_iff.2 fun i hi => hP i (by omega)
           unfold nameB
           rw [h1, decide_eq_true (show 1 ≤ q.size by omega), decide_eq_true (show q.size ≤ 60 by omega)]
           rfl)
theorem match_isPlace (x y : Int) (w : World) : Calls Try.prog 50 #[.agg #[.int .i64 x, .int .i64 y]] w fun e w' => e = .returned (.bool (ptB x y)) ∧ Below w.heap.size w w' := by
  refine enterQ (N := 11) (C := fun _ => True) (H := []) (B := w.heap.size) (args := [_]) Try.func50 rfl rfl rfl (Nat.le_refl _) (Sat.nil _ _) fun Q hQ => ?_
  refine wp_seq' fun K1 hK1 => ?_
  refine wp_reg ?_
  refine ol_box 1 rfl rfl rfl fun b1 => ?_
  refine ol_r (r_assign rfl) rfl ?_
  refine ol_nil (to_k0 (fun _ _ h => h) (hK1 _ _ _ _ _ ?_))
  clear hK1
  refine wp_seq' fun K2 hK2 => ?_
  refine wp_reg ?_
  refine ol_r (r_fa (o' := 0) rfl fl41_0 rfl) rfl ?_
  refine ol_r (r_ld (id := 1) rfl rfl rfl sc3) rfl ?_
  refine ol_call rfl rfl cb45 rfl (fun w1 hb1 hs1 hB1 => Calls.mono (match_in _ _ _ _) ?_)
  rintro e w2 ⟨rfl, hb2⟩
  refine After.below rfl hb1 hs1 hB1 hb2 ?_
  clear hb2 hB1 hs1 hb1 w2 w1
  refine ol_r (r_move rfl) rfl ?_
  refine ol_split (d := 6) rfl (fun hs6 => ?_) (fun hs6 => ?_)
  ·have phs6 := hs6; try simp only [decide_eq_true_eq, decide_eq_false_iff_not, Bool.not_eq_true', Bool.not_eq_false', Bool.not_true, Bool.not_false] at phs6
   refine ol_g rfl rfl hs6 ?_
   refine ol_r (r_fa (o' := 1) rfl fl41_1 rfl) rfl ?_
   refine ol_g rfl rfl hs6 ?_
   refine ol_r (r_ld (id := 1) rfl rfl rfl sc3) rfl ?_
   refine ol_g rfl rfl hs6 ?_
   refine ol_call rfl rfl cb45 rfl (fun w1 hb1 hs1 hB1 => Calls.mono (match_in _ _ _ _) ?_)
   rintro e w2 ⟨rfl, hb2⟩
   refine After.below rfl hb1 hs1 hB1 hb2 ?_
   clear hb2 hB1 hs1 hb1 w2 w1
   refine ol_r (r_pickT rfl hs6 rfl) rfl ?_
   refine ol_r (r_assign rfl) rfl ?_
   refine ol_nil (to_k0 (fun _ _ h => h) (hK2 _ _ _ _ _ ?_))
   clear hK2
   refine hQ.ret (rvs1 (rv_t rfl)) (fun _ _ h => h) fun w hb hs hB hkd => ?_
   refine ⟨?_, hb⟩
   unfold ptB
   first
     | (simp_all; done)
     | (congr 2; simp_all; done)
  ·have phs6 := hs6; try simp only [decide_eq_true_eq, decide_eq_false_iff_not, Bool.not_eq_true', Bool.not_eq_false', Bool.not_true, Bool.not_false] at phs6
   refine ol_s rfl rfl hs6 rfl ?_
   refine ol_s rfl rfl hs6 rfl ?_
   refine ol_s rfl rfl hs6 rfl ?_
   refine ol_r (r_pickF rfl hs6 rfl) rfl ?_
   refine ol_r (r_assign rfl) rfl ?_
   refine ol_nil (to_k0 (fun _ _ h => h) (hK2 _ _ _ _ _ ?_))
   clear hK2
   refine hQ.ret (rvs1 (rv_t rfl)) (fun _ _ h => h) fun w hb hs hB hkd => ?_
   refine ⟨?_, hb⟩
   unfold ptB
   first
     | (simp_all; done)
     | (congr 2; simp_all; done)
theorem pt_eqs {a b c d : Int} : eqs [.int .i64 a, .int .i64 b] [.int .i64 c, .int .i64 d] = (decide (a = c) && decide (b = d)) := by simp [eqs, eqV]
theorem pt_yes {a b c d : Int} (h : eqs [.int .i64 a, .int .i64 b] [.int .i64 c, .int .i64 d] = true) : a = c ∧ b = d := by rw [pt_eqs, Bool.and_eq_true, decide_eq_true_eq, decide_eq_true_eq] at h; exact h
theorem pt_no {a b c d : Int} (h : eqs [.int .i64 a, .int .i64 b] [.int .i64 c, .int .i64 d] = false) : ¬(a = c ∧ b = d) := by
  intro h2
  rw [pt_eqs, h2.1, h2.2] at h
  simp at h
theorem match_CheckSegment (nm : ByteArray) (a : Option Addr) (n c : Nat) (gs : List GateR) (w : World) (hn : nm.size ≤ 9223372036854775807) (hS : Rd encGate w.heap.size w a n c gs) :
    Calls Try.prog 101 #[.agg #[.string nm, .slice a n c]] w fun e w' => e = .returned (.int .i64 (chkSeg nm gs)) ∧ Below w.heap.size w w' := by
  have hsn := hS.len
  have hsf := hS.fit
  refine enterQ (N := 41) (C := fun _ => True) (H := []) (B := w.heap.size) (args := [_]) Try.func101 rfl rfl rfl (Nat.le_refl _) (Sat.nil _ _) fun Q hQ => ?_
  refine wp_seq' fun K1 hK1 => ?_
  refine wp_reg ?_
  refine ol_box 1 rfl rfl rfl fun b1 => ?_
  refine ol_r (r_assign rfl) rfl ?_
  refine ol_nil (to_k0 (fun _ _ h => h) (hK1 _ _ _ _ _ ?_))
  clear hK1
  refine wp_seq' fun K2 hK2 => ?_
  refine wp_block' ?_
  refine wp_seq' fun K3 hK3 => ?_
  refine wp_reg ?_
  refine ol_r (r_fa (o' := 0) rfl fl82_0 rfl) rfl ?_
  refine ol_r (r_ld (id := 1) rfl rfl rfl sc9) rfl ?_
  refine ol_call rfl rfl cb44 rfl (fun w1 hb1 hs1 hB1 => Calls.mono (quant_IsName nm _ hn) ?_)
  rintro e w2 ⟨rfl, hb2⟩
  refine After.below rfl hb1 hs1 hB1 hb2 ?_
  clear hb2 hB1 hs1 hb1 w2 w1
  refine ol_r (r_not rfl) rfl ?_
  refine ol_r (r_assign rfl) rfl ?_
  refine ol_nil (to_k0 (fun _ _ h => h) (hK3 _ _ _ _ _ ?_))
  clear hK3
  refine wp_condNB rfl (fun hc5 => ?_) (fun hc5 => ?_)
  ·refine wp_seq' fun K4 hK4 => ?_
   refine wp_reg ?_
   refine ol_r (r_assign rfl) rfl ?_
   refine ol_nil (to_k0 (fun _ _ h => h) (hK4 _ _ _ _ _ ?_))
   clear hK4
   refine hQ.ret (rvs1 (rv_t rfl)) (fun _ _ h => h) fun w hb hs hB hkd => ?_
   exact ⟨by rw [chkSeg_8 (by simpa using hc5)], hb⟩
  ·refine wp_seq' fun K5 hK5 => ?_
   refine wp_reg ?_
   refine ol_r (r_fa (o' := 1) rfl fl82_1 rfl) rfl ?_
   refine ol_r (r_ld (id := 1) rfl rfl rfl sc80) rfl ?_
   refine ol_r (r_len rfl sl80) rfl ?_
   refine ol_call rfl rfl cb45 rfl (fun w1 hb1 hs1 hB1 => Calls.mono (match_in _ _ _ _) ?_)
   rintro e w2 ⟨rfl, hb2⟩
   refine After.below rfl hb1 hs1 hB1 hb2 ?_
   clear hb2 hB1 hs1 hb1 w2 w1
   refine ol_r (r_not rfl) rfl ?_
   refine ol_r (r_assign rfl) rfl ?_
   refine ol_nil (to_k0 (fun _ _ h => h) (hK5 _ _ _ _ _ ?_))
   clear hK5
   refine wp_condNB rfl (fun hc10 => ?_) (fun hc10 => ?_)
   ·refine wp_seq' fun K6 hK6 => ?_
    refine wp_reg ?_
    refine ol_r (r_assign rfl) rfl ?_
    refine ol_nil (to_k0 (fun _ _ h => h) (hK6 _ _ _ _ _ ?_))
    clear hK6
    refine hQ.ret (rvs1 (rv_t rfl)) (fun _ _ h => h) fun w hb hs hB hkd => ?_
    exact ⟨by rw [chkSeg_3 (by simpa using hc5) (by subst hsn; simpa using hc10)], hb⟩
   ·refine wp_skip' (to_k0 (fun _ _ h => h) (hK2 _ _ _ _ _ ?_))
    clear hK2
    refine wp_seq' fun K7 hK7 => ?_
    refine wp_seq' fun K8 hK8 => ?_
    refine wp_reg ?_
    refine ol_r (r_fa (o' := 1) rfl fl82_1 rfl) rfl ?_
    refine ol_r (r_ld (id := 1) rfl rfl rfl sc80) rfl ?_
    refine ol_r (r_len rfl sl80) rfl ?_
    refine ol_r (r_move rfl) rfl ?_
    refine ol_nil (to_k0 (fun _ _ h => h) (hK8 _ _ _ _ _ ?_))
    clear hK8
    refine wp_block' ?_
    apply wp_loopM (σ := Nat) (fun s => s ≤ n ∧ chkE fG none gs = chkE fG (ahead gs s) (gs.drop s)) (fun s => [(19, .int .i64 s)]) [(17, _), (18, _)] (fun s => []) [(1, _)] (fun s => n - s) (0)
    ·try dsimp only
     exact ⟨Nat.zero_le _, chkE_start _ _⟩
    ·exact (sub_cons rfl sub_nil)
    ·exact (sub_cons rfl (sub_cons rfl sub_nil))
    ·exact subH_nil
    ·exact (subH_same rfl subH_nil)
    ·rintro k ⟨hk, hP⟩
     intro K9 hK9
     refine wp_seq' fun K10 hK10 => ?_
     refine wp_reg ?_
     refine ol_r (r_lss rfl rfl) rfl ?_
     refine ol_nil (to_k0 (fun _ _ h => h) (hK10 _ _ _ _ _ ?_))
     clear hK10
     refine wp_seq' fun K11 hK11 => ?_
     refine wp_condD rfl (fun hc20 => ?_) (fun hc20 => ?_)
     ·refine wp_skip' (to_k0 (fun _ _ h => h) (hK11 _ _ _ _ _ ?_))
      clear hK11
      refine wp_seq' fun K12 hK12 => ?_
      refine wp_block' ?_
      refine wp_seq' fun K13 hK13 => ?_
      refine wp_reg ?_
      refine ol_ixr hS rfl rfl sl80 (by omega) rfl fun x21 hx21 => ?_
      try simp only [Int.toNat_natCast] at hx21
      refine ol_r (r_ldw rfl (fun w1 hb1 hs1 hB1 => Rd.loads hS ty79 hx21 hb1)) rfl ?_
      refine ol_alloc 4 z79 rfl fun b4 => ?_
      refine ol_store (id := 4) rfl rfl rfl rfl sz79 rfl rfl (by first | decide | exact Nat.zero_lt_succ _ | simp) ?_
      refine ol_nil (to_k0 (fun _ _ h => h) (hK13 _ _ _ _ _ ?_))
      clear hK13
      refine wp_block' ?_
      refine wp_seq' fun K14 hK14 => ?_
      refine wp_reg ?_
      refine ol_r (r_fa (o' := 0) rfl fl79_0 rfl) rfl ?_
      refine ol_r (r_lda (id := 4) (n := 2) rfl rfl rfl ag41) rfl ?_
      refine ol_call rfl rfl cb50 rfl (fun w1 hb1 hs1 hB1 => Calls.mono (match_isPlace _ _ _) ?_)
      rintro e w2 ⟨rfl, hb2⟩
      refine After.below rfl hb1 hs1 hB1 hb2 ?_
      clear hb2 hB1 hs1 hb1 w2 w1
      refine ol_r (r_not rfl) rfl ?_
      refine ol_r (r_move rfl) rfl ?_
      refine ol_split (d := 28) rfl (fun hs28 => ?_) (fun hs28 => ?_)
      ·have phs28 := hs28; try simp only [decide_eq_true_eq, decide_eq_false_iff_not, Bool.not_eq_true', Bool.not_eq_false', Bool.not_true, Bool.not_false] at phs28
       refine ol_s rfl rfl hs28 rfl ?_
       refine ol_s rfl rfl hs28 rfl ?_
       refine ol_s rfl rfl hs28 rfl ?_
       refine ol_s rfl rfl hs28 rfl ?_
       refine ol_r (r_pickT rfl hs28 rfl) rfl ?_
       refine ol_r (r_assign rfl) rfl ?_
       refine ol_nil (to_k0 (fun _ _ h => h) (hK14 _ _ _ _ _ ?_))
       clear hK14
       refine wp_condT rfl ?_
       refine wp_seq' fun K15 hK15 => ?_
       refine wp_reg ?_
       refine ol_r (r_assign rfl) rfl ?_
       refine ol_nil (to_k0 (fun _ _ h => h) (hK15 _ _ _ _ _ ?_))
       clear hK15
       refine hQ.ret (rvs1 (rv_t rfl)) (fun _ _ h => h) fun w hb hs hB hkd => ?_
       have h := chkE_bad hP hx21 (fG_9 (.inl phs28)) (by simp)
       exact ⟨by rw [(chkSeg_g (by simpa using hc5) (by subst hsn; simpa using hc10)).trans h], hb⟩
      ·have phs28 := hs28; try simp only [decide_eq_true_eq, decide_eq_false_iff_not, Bool.not_eq_true', Bool.not_eq_false', Bool.not_true, Bool.not_false] at phs28
       refine ol_g rfl rfl hs28 ?_
       refine ol_r (r_fa (o' := 2) rfl fl79_1 rfl) rfl ?_
       refine ol_g rfl rfl hs28 ?_
       refine ol_r (r_lda (id := 4) (n := 2) rfl rfl rfl ag41) rfl ?_
       refine ol_g rfl rfl hs28 ?_
       refine ol_call rfl rfl cb50 rfl (fun w1 hb1 hs1 hB1 => Calls.mono (match_isPlace _ _ _) ?_)
       rintro e w2 ⟨rfl, hb2⟩
       refine After.below rfl hb1 hs1 hB1 hb2 ?_
       clear hb2 hB1 hs1 hb1 w2 w1
       refine ol_g rfl rfl hs28 ?_
       refine ol_r (r_not rfl) rfl ?_
       refine ol_r (r_pickF rfl hs28 rfl) rfl ?_
       refine ol_r (r_assign rfl) rfl ?_
       refine ol_nil (to_k0 (fun _ _ h => h) (hK14 _ _ _ _ _ ?_))
       clear hK14
       refine wp_condNB rfl (fun hc23 => ?_) (fun hc23 => ?_)
       ·refine wp_seq' fun K16 hK16 => ?_
        refine wp_reg ?_
        refine ol_r (r_assign rfl) rfl ?_
        refine ol_nil (to_k0 (fun _ _ h => h) (hK16 _ _ _ _ _ ?_))
        clear hK16
        refine hQ.ret (rvs1 (rv_t rfl)) (fun _ _ h => h) fun w hb hs hB hkd => ?_
        have h := chkE_bad hP hx21 (fG_9 (.inr hc23)) (by simp)
        exact ⟨by rw [(chkSeg_g (by simpa using hc5) (by subst hsn; simpa using hc10)).trans h], hb⟩
       ·refine wp_seq' fun K17 hK17 => ?_
        refine wp_reg ?_
        refine ol_r (r_fa (o' := 0) rfl fl79_0 rfl) rfl ?_
        refine ol_r (r_lda (id := 4) (n := 2) rfl rfl rfl ag41) rfl ?_
        refine ol_r (r_fa (o' := 2) rfl fl79_1 rfl) rfl ?_
        refine ol_r (r_lda (id := 4) (n := 2) rfl rfl rfl ag41) rfl ?_
        refine ol_r (r_eqs rfl rfl (by kernel_rfl) (fun w => run_eqs (by kernel_rfl) (by kernel_rfl) w)) rfl ?_
        refine ol_r (r_assign rfl) rfl ?_
        refine ol_nil (to_k0 (fun _ _ h => h) (hK17 _ _ _ _ _ ?_))
        clear hK17
        refine wp_cond' rfl (fun hc34 => ?_) (fun hc34 => ?_)
        ·refine wp_seq' fun K18 hK18 => ?_
         refine wp_reg ?_
         refine ol_r (r_assign rfl) rfl ?_
         refine ol_nil (to_k0 (fun _ _ h => h) (hK18 _ _ _ _ _ ?_))
         clear hK18
         refine hQ.ret (rvs1 (rv_t rfl)) (fun _ _ h => h) fun w hb hs hB hkd => ?_
         have h := chkE_bad hP hx21 (fG_2 phs28 hc23 (pt_yes hc34)) (by simp)
         exact ⟨by rw [(chkSeg_g (by simpa using hc5) (by subst hsn; simpa using hc10)).trans h], hb⟩
        ·refine wp_skip' (to_k0 (fun _ _ h => h) (hK12 _ _ _ _ _ ?_))
         clear hK12
         refine wp_reg ?_
         refine ol_r (r_add rfl rfl (by omega)) rfl ?_
         refine ol_r (r_move rfl) rfl ?_
         refine ol_nil (to_k0 (fun _ _ h => h) (hK9 (k + 1) _ _ ?_ ?_ (sub_cons rfl sub_nil) (sub_cons rfl (sub_cons rfl sub_nil)) (by exact subH_nil) (subH_same rfl subH_nil)))
         ·try dsimp only
          exact ⟨by omega, chkE_next hP hx21 (fG_0 phs28 hc23 (pt_no hc34))⟩
         ·try dsimp only
          omega
     ·refine wp_exit' (to_k0 (fun _ _ h => h) (hK7 _ _ _ _ _ ?_))
      clear hK7
      refine wp_seq' fun K19 hK19 => ?_
      refine wp_reg ?_
      refine ol_r (r_assign rfl) rfl ?_
      refine ol_nil (to_k0 (fun _ _ h => h) (hK19 _ _ _ _ _ ?_))
      clear hK19
      refine hQ.ret (rvs1 (rv_t rfl)) (fun _ _ h => h) fun w hb hs hB hkd => ?_
      exact ⟨by rw [(chkSeg_g (by simpa using hc5) (by subst hsn; simpa using hc10)).trans (chkE_end hP (by omega))], hb⟩
def bIx (n : Nat) : Nat → Int
  | 0 => (n : Int) - 1
  | k + 1 => bIx n k - 1
end Go.Proofs.Ytjflbnbofedlkaa

/-
  The steps of an activity: the iterator.
-/


namespace Go.Proofs.Ytjflbnbofedlkaa
open Go Go.RowKit Hx
set_option linter.unusedVariables false
set_option linter.unusedSimpArgs false
set_option maxRecDepth 8000
theorem steps_iter (A : ActV) (B b : Nat) (w0 : World) (hA : Rd encSmp B w0 A.sa A.sn A.sc A.ss) :
    Iter Try.prog 87 [.pointer (some ⟨b, 0, none⟩)] (fun x : SmpR × SmpR => [.agg #[.int .i64 x.1.at_, .int .i64 x.1.x, .int .i64 x.1.y, .int .i64 x.1.z, .int .i64 x.1.pulse, .int .i64 x.1.power, .int .i64 x.1.steps], .agg #[.int .i64 x.2.at_, .int .i64 x.2.x, .int .i64 x.2.y, .int .i64 x.2.z, .int .i64 x.2.pulse, .int .i64 x.2.power, .int .i64 x.2.steps]]) (stepsL A.ss) (fun W => Below B w0 W ∧ (∃ T, Sat B W [(100, .blk b [(3, .slice A.sa A.sn A.sc)] T)]) ∧ B ≤ W.heap.size) := by
  intro l J Jx W hRq hJb hJx hY h0
  have hsn := hA.len
  have hsf := hA.fit
  have hlen := stepsL_len A.ss
  refine enterI (n := 25) (args := [_, _]) Try.func87 rfl rfl rfl rfl fun Q hQ => ?_
  refine wp_seq' fun K1 hK1 => ?_
  refine wp_reg ?_
  refine ol_r (r_assign rfl) rfl ?_
  refine ol_nil (to_k0 (fun _ _ h => h) (hK1 _ _ _ _ _ ?_))
  clear hK1
  refine wp_block' ?_
  refine wp_loopI (J := J) (fun k => [(3, .int .i64 (k + 1)), (0, .func (.yield l) #[] #[]), (1, .pointer (some ⟨b, 0, none⟩))]) (fun k => k ≤ (stepsL A.ss).length) (fun k => (stepsL A.ss).length - k) (0) ?_ ?_ ?_ ?_
  ·try dsimp only
   omega
  ·exact (sub_cons rfl (sub_cons rfl (sub_cons rfl sub_nil)))
  ·intro w hb hB
   exact hJb 0 W w h0 hb
  ·intro k W1 hI hJ
   obtain ⟨q1, ⟨T, q2⟩, q3⟩ := hRq k W1 hJ
   have hc : Blk W1.heap.size W1 b [(3, .slice A.sa A.sn A.sc)] := q2.blk (id := 100) rfl
   have hS := hA.at q1 q3
   intro K2 hK2
   refine wp_seq' fun K3 hK3 => ?_
   refine wp_seq' fun K4 hK4 => ?_
   refine wp_reg ?_
   refine ol_r (r_move rfl) rfl ?_
   refine ol_r (r_fa (o' := 3) rfl fl39_3 rfl) rfl ?_
   refine ol_r (r_ldw rfl (fun w1 hb1 hs1 hB1 => Blk.loads (o := 3) hc hb1 sc35 rfl)) rfl ?_
   refine ol_r (r_len rfl sl35) rfl ?_
   refine ol_r (r_lss rfl rfl) rfl ?_
   refine ol_nil (to_k0 (fun _ _ h => h) (hK4 _ _ _ _ _ ?_))
   clear hK4
   refine wp_condD rfl (fun hc8 => ?_) (fun hc8 => ?_)
   ·refine wp_skip' (to_k0 (fun _ _ h => h) (hK3 _ _ _ _ _ ?_))
    clear hK3
    refine wp_seq' fun K5 hK5 => ?_
    refine wp_block' ?_
    refine wp_seq' fun K6 hK6 => ?_
    refine wp_regti 12 rfl (by kernel_rfl) (by kernel_rfl) ?_
    simp only [List.take_succ_cons, List.take_zero, List.drop_succ_cons, List.drop_zero]
    refine sli_r (r_move rfl) rfl ?_
    refine sli_r (r_fa (o' := 3) rfl fl39_3 rfl) rfl ?_
    refine sli_r (r_ldw rfl (fun w1 hb1 hs1 hB1 => Blk.loads (o := 3) hc hb1 sc35 rfl)) rfl ?_
    refine sli_r (r_move rfl) rfl ?_
    refine sli_r (r_sub rfl rfl (by omega)) rfl ?_
    refine sli_ixr hS rfl rfl sl35 (by omega) rfl fun x16 hx16 => ?_
    try simp only [Int.toNat_natCast] at hx16
    refine sli_r (r_ldw rfl (fun w1 hb1 hs1 hB1 => Rd.loads hS ty51 hx16 hb1)) rfl ?_
    refine sli_r (r_fa (o' := 3) rfl fl39_3 rfl) rfl ?_
    refine sli_r (r_ldw rfl (fun w1 hb1 hs1 hB1 => Blk.loads (o := 3) hc hb1 sc35 rfl)) rfl ?_
    refine sli_r (r_move rfl) rfl ?_
    refine sli_ixr hS rfl rfl sl35 (by omega) rfl fun x21 hx21 => ?_
    try simp only [Int.toNat_natCast] at hx21
    refine sli_r (r_ldw rfl (fun w1 hb1 hs1 hB1 => Rd.loads hS ty51 hx21 hb1)) rfl ?_
    refine sli_nil ?_
    refine oli_yield rfl rfl rfl rfl rfl (fun w1 hb1 hs1 hB1 => ?_)
    obtain ⟨fn, tm, asg, bo, hy, hR⟩ := hY k (x16, x21) w1 (stepsL_get (by rw [← hx16]; congr 1; omega) (by rw [← hx21]; congr 1)) (hJb k W1 w1 hJ hb1)
    refine ⟨fn, tm, asg, bo, hy, hR.mono ?_⟩
    intro e w2 he
    obtain ⟨bb, rfl, hT, hF⟩ : ∃ bb, e = .returned (.bool bb) ∧ (bb = true → J (k + 1) w2) ∧ (bb = false → Jx w2) := by
      rcases he with ⟨rfl, h⟩ | ⟨rfl, h⟩
      · exact ⟨true, rfl, fun _ => h, fun h => by cases h⟩
      · exact ⟨false, rfl, fun h => (by cases h), fun _ => h⟩
    refine ⟨_, rfl, ?_⟩
    refine oli_r (r_not rfl) rfl ?_
    refine oli_nil (to_k0 (fun _ _ h => h) (hK6 _ _ _ _ _ ?_))
    clear hK6
    refine wp_condNB rfl (fun hc24 => ?_) (fun hc24 => ?_)
    ·refine hQ.ret (fun _ _ h => h) fun w hb hs hB => ?_
     exact .inr (hJx _ _ (hF hc24) hb)
    ·refine wp_skip' (to_k0 (fun _ _ h => h) (hK5 _ _ _ _ _ ?_))
     clear hK5
     refine wp_reg ?_
     refine ol_r (r_move rfl) rfl ?_
     refine ol_r (r_add rfl rfl (by omega)) rfl ?_
     refine ol_r (r_assign rfl) rfl ?_
     refine ol_nil (to_k0 (fun _ _ h => h) (hK2 (k + 1) _ _ _ _ ?_ ?_ (by exact (sub_cons rfl (sub_cons rfl (sub_cons rfl sub_nil)))) ?_))
     ·try dsimp only
      omega
     ·try dsimp only
      omega
     ·intro w hb hB
      exact hJb (k + 1) _ w (hT hc24) hb
   ·refine wp_exit' (hQ.fall (fun _ _ h => h) fun w hb hs hB => ?_)
    have hk : k = (stepsL A.ss).length := by omega
    exact .inl (hk ▸ hJb k _ w hJ hb)
theorem track_Steps (A : ActV) (w : World) (hA : A.Ok w.heap.size w) :
    Calls Try.prog 56 #[.agg #[.string A.name, .int .i64 A.sport, .int .i64 A.start, .slice A.sa A.sn A.sc, .slice A.la A.ln A.lc, .slice A.ta A.tn A.tc]] w fun e w' => ∃ b T, e = .returned (.func (.func 87) #[] #[.pointer (some ⟨b, 0, none⟩)]) ∧ Below w.heap.size w w' ∧ Sat w.heap.size w' [(1001, .blk b [(3, .slice A.sa A.sn A.sc)] T)] := by
  refine enterQ (N := 4) (C := fun _ => True) (H := []) (B := w.heap.size) (args := [_]) Try.func56 rfl rfl rfl (Nat.le_refl _) (Sat.nil _ _) fun Q hQ => ?_
  refine wp_seq' fun K1 hK1 => ?_
  refine wp_reg ?_
  refine ol_box 1 rfl rfl rfl fun b1 => ?_
  refine ol_r (r_assign rfl) rfl ?_
  refine ol_nil (to_k0 (fun _ _ h => h) (hK1 _ _ _ _ _ ?_))
  clear hK1
  refine wp_seq' fun K2 hK2 => ?_
  refine wp_reg ?_
  refine ol_r (r_func rfl) rfl ?_
  refine ol_r (r_assign rfl) rfl ?_
  refine ol_nil (to_k0 (fun _ _ h => h) (hK2 _ _ _ _ _ ?_))
  clear hK2
  refine hQ.ret (rvs1 (rv_t rfl)) (fun _ _ h => h) fun w hb hs hB hkd => ?_
  exact ⟨_, _, rfl, hb, hs.one 1 1001 rfl ⟨rfl, rfl, Sub.out (sub_cons rfl sub_nil)⟩⟩
end Go.Proofs.Ytjflbnbofedlkaa

/-
  Steps across gates: what crosses; the program's side.
-/



namespace Go.Proofs.Ytjflbnbofedlkaa
open Go Go.RowKit Hx
set_option linter.unusedVariables false
set_option linter.unusedSimpArgs false
set_option maxRecDepth 8000
def encPart : Enc PartR := { size := 2, cells := fun x => [.int .i64 x.num, .int .i64 x.den], val := fun x => .agg #[.int .i64 x.num, .int .i64 x.den], len := fun _ => rfl, ones := fun _ u h => by simp at h; rcases h with rfl | rfl <;> rfl, pos := by decide, vc := fun _ => rfl }
theorem ty152 : Ty Try.prog 152 encPart := .inr ⟨ag152, fun _ => rfl⟩
def encCr : Enc CrossR := { size := 3, cells := fun x => [.int .i64 x.gate, .int .i64 x.step, .int .i64 x.at_], val := fun x => .agg #[.int .i64 x.gate, .int .i64 x.step, .int .i64 x.at_], len := fun _ => rfl, ones := fun _ u h => by simp at h; rcases h with rfl | rfl | rfl <;> rfl, pos := by decide, vc := fun _ => rfl }
theorem ty88 : Ty Try.prog 88 encCr := .inr ⟨ag88, fun _ => rfl⟩
theorem match_sideOf (ax ay bx by_ x y : Int) (w : World) (h1 : -100000000 ≤ ax ∧ ax ≤ 100000000) (h2 : -100000000 ≤ ay ∧ ay ≤ 100000000) (h3 : -100000000 ≤ bx ∧ bx ≤ 100000000) (h4 : -100000000 ≤ by_ ∧ by_ ≤ 100000000) (h5 : -100000000 ≤ x ∧ x ≤ 100000000) (h6 : -100000000 ≤ y ∧ y ≤ 100000000) :
    Calls Try.prog 128 #[.agg #[.int .i64 ax, .int .i64 ay], .agg #[.int .i64 bx, .int .i64 by_], .agg #[.int .i64 x, .int .i64 y]] w fun e w' => e = .returned (.int .i64 (side6 ax ay bx by_ x y)) ∧ Below w.heap.size w w' := by
  have m1 := mul_ab (a := bx - ax) (b := y - ay) (by omega) (by omega)
  have m2 := mul_ab (a := by_ - ay) (b := x - ax) (by omega) (by omega)
  refine enterQ (N := 30) (C := fun _ => True) (H := []) (B := w.heap.size) (args := [_, _, _]) Try.func128 rfl rfl rfl (Nat.le_refl _) (Sat.nil _ _) fun Q hQ => ?_
  refine wp_seq' fun K1 hK1 => ?_
  refine wp_reg ?_
  refine ol_box 3 rfl rfl rfl fun b3 => ?_
  refine ol_box 4 rfl rfl rfl fun b4 => ?_
  refine ol_box 5 rfl rfl rfl fun b5 => ?_
  refine ol_r (r_assign rfl) rfl ?_
  refine ol_nil (to_k0 (fun _ _ h => h) (hK1 _ _ _ _ _ ?_))
  clear hK1
  refine wp_seq' fun K2 hK2 => ?_
  refine wp_reg ?_
  refine ol_r (r_fa (o' := 0) rfl fl41_0 rfl) rfl ?_
  refine ol_r (r_ld (id := 4) rfl rfl rfl sc3) rfl ?_
  refine ol_r (r_fa (o' := 0) rfl fl41_0 rfl) rfl ?_
  refine ol_r (r_ld (id := 3) rfl rfl rfl sc3) rfl ?_
  refine ol_r (r_sub rfl rfl (by omega)) rfl ?_
  refine ol_r (r_fa (o' := 1) rfl fl41_1 rfl) rfl ?_
  refine ol_r (r_ld (id := 5) rfl rfl rfl sc3) rfl ?_
  refine ol_r (r_fa (o' := 1) rfl fl41_1 rfl) rfl ?_
  refine ol_r (r_ld (id := 3) rfl rfl rfl sc3) rfl ?_
  refine ol_r (r_sub rfl rfl (by omega)) rfl ?_
  refine ol_r (r_mul rfl rfl (by omega)) rfl ?_
  refine ol_r (r_fa (o' := 1) rfl fl41_1 rfl) rfl ?_
  refine ol_r (r_ld (id := 4) rfl rfl rfl sc3) rfl ?_
  refine ol_r (r_fa (o' := 1) rfl fl41_1 rfl) rfl ?_
  refine ol_r (r_ld (id := 3) rfl rfl rfl sc3) rfl ?_
  refine ol_r (r_sub rfl rfl (by omega)) rfl ?_
  refine ol_r (r_fa (o' := 0) rfl fl41_0 rfl) rfl ?_
  refine ol_r (r_ld (id := 5) rfl rfl rfl sc3) rfl ?_
  refine ol_r (r_fa (o' := 0) rfl fl41_0 rfl) rfl ?_
  refine ol_r (r_ld (id := 3) rfl rfl rfl sc3) rfl ?_
  refine ol_r (r_sub rfl rfl (by omega)) rfl ?_
  refine ol_r (r_mul rfl rfl (by omega)) rfl ?_
  refine ol_r (r_sub rfl rfl (by omega)) rfl ?_
  refine ol_r (r_assign rfl) rfl ?_
  refine ol_nil (to_k0 (fun _ _ h => h) (hK2 _ _ _ _ _ ?_))
  clear hK2
  refine hQ.ret (rvs1 (rv_t rfl)) (fun _ _ h => h) fun w hb hs hB hkd => ?_
  exact ⟨rfl, hb⟩
theorem side6_bd {ax ay bx by_ x y : Int} (h1 : -100000000 ≤ ax ∧ ax ≤ 100000000) (h2 : -100000000 ≤ ay ∧ ay ≤ 100000000) (h3 : -100000000 ≤ bx ∧ bx ≤ 100000000) (h4 : -100000000 ≤ by_ ∧ by_ ≤ 100000000) (h5 : -100000000 ≤ x ∧ x ≤ 100000000) (h6 : -100000000 ≤ y ∧ y ≤ 100000000) : -80000000000000000 ≤ side6 ax ay bx by_ x y ∧ side6 ax ay bx by_ x y ≤ 80000000000000000 := by
  have m1 := mul_ab (a := bx - ax) (b := y - ay) (by omega) (by omega)
  have m2 := mul_ab (a := by_ - ay) (b := x - ax) (by omega) (by omega)
  unfold side6
  omega
theorem match_pointOf (p : SmpR) (w : World) : Calls Try.prog 55 #[.agg #[.int .i64 p.at_, .int .i64 p.x, .int .i64 p.y, .int .i64 p.z, .int .i64 p.pulse, .int .i64 p.power, .int .i64 p.steps]] w fun e w' => e = .returned (.agg #[.int .i64 p.x, .int .i64 p.y]) ∧ Below w.heap.size w w' := by
  refine enterQ (N := 8) (C := fun _ => True) (H := []) (B := w.heap.size) (args := [_]) Try.func55 rfl rfl rfl (Nat.le_refl _) (Sat.nil _ _) fun Q hQ => ?_
  refine wp_seq' fun K1 hK1 => ?_
  refine wp_reg ?_
  refine ol_box 1 rfl rfl rfl fun b1 => ?_
  refine ol_alloc 2 z41 rfl fun b2 => ?_
  refine ol_nil (to_k0 (fun _ _ h => h) (hK1 _ _ _ _ _ ?_))
  clear hK1
  refine wp_seq' fun K2 hK2 => ?_
  refine wp_reg ?_
  refine ol_r (r_fa (o' := 1) rfl fl51_1 rfl) rfl ?_
  refine ol_r (r_ld (id := 1) rfl rfl rfl sc3) rfl ?_
  refine ol_r (r_fa (o' := 2) rfl fl51_2 rfl) rfl ?_
  refine ol_r (r_ld (id := 1) rfl rfl rfl sc3) rfl ?_
  refine ol_r (r_build rfl (fun _ => bd41_0_1 _ _ _)) rfl ?_
  refine ol_store (id := 2) rfl rfl rfl rfl sz41 rfl rfl (by first | decide | exact Nat.zero_lt_succ _ | simp) ?_
  refine ol_nil (to_k0 (fun _ _ h => h) (hK2 _ _ _ _ _ ?_))
  clear hK2
  refine hQ.ret (rvs1 (rv_c (id := 2) (n := 2) rfl rfl ag41 rfl)) (fun _ _ h => h) fun w hb hs hB hkd => ?_
  exact ⟨rfl, hb⟩
theorem gate_bd {g : GateR} (h : ∀ p, fG p g = 0) : ((-100000000 ≤ g.ax ∧ g.ax ≤ 100000000) ∧ (-100000000 ≤ g.ay ∧ g.ay ≤ 100000000)) ∧ ((-100000000 ≤ g.bx ∧ g.bx ≤ 100000000) ∧ (-100000000 ≤ g.by_ ∧ g.by_ ≤ 100000000)) := by
  obtain ⟨h1, h2, _⟩ := fG_inv (h none)
  unfold ptB at h1 h2
  rw [Bool.and_eq_true] at h1 h2
  exact ⟨⟨inB_iff.1 h1.1, inB_iff.1 h1.2⟩, ⟨inB_iff.1 h2.1, inB_iff.1 h2.2⟩⟩
theorem match_crosses (g : GateR) (p q : SmpR) (w : World) (hg : ∀ o, fG o g = 0) (hp : PlaceOk p) (hq : PlaceOk q) :
    Calls Try.prog 102 #[encGate.val g, .agg #[.int .i64 p.at_, .int .i64 p.x, .int .i64 p.y, .int .i64 p.z, .int .i64 p.pulse, .int .i64 p.power, .int .i64 p.steps], .agg #[.int .i64 q.at_, .int .i64 q.x, .int .i64 q.y, .int .i64 q.z, .int .i64 q.pulse, .int .i64 q.power, .int .i64 q.steps]] w fun e w' => e = .returned (.tuple #[.agg #[.int .i64 (partOf g p q).num, .int .i64 (partOf g p q).den], .bool (crB g p q)]) ∧ Below w.heap.size w w' := by
  obtain ⟨⟨g1, g2⟩, g3, g4⟩ := gate_bd hg
  obtain ⟨p1, p2⟩ := hp
  obtain ⟨q1, q2⟩ := hq
  have b1 := side6_bd g1 g2 g3 g4 p1 p2
  have b2 := side6_bd g1 g2 g3 g4 q1 q2
  refine enterQ (N := 68) (C := fun _ => True) (H := []) (B := w.heap.size) (args := [_, _, _]) Try.func102 rfl rfl rfl (Nat.le_refl _) (Sat.nil _ _) fun Q hQ => ?_
  refine wp_seq' fun K1 hK1 => ?_
  refine wp_reg ?_
  refine ol_box 3 rfl rfl rfl fun b3 => ?_
  refine ol_box 4 rfl rfl rfl fun b4 => ?_
  refine ol_box 5 rfl rfl rfl fun b5 => ?_
  refine ol_alloc 6 z152 rfl fun b6 => ?_
  refine ol_r (r_assign rfl) rfl ?_
  refine ol_nil (to_k0 (fun _ _ h => h) (hK1 _ _ _ _ _ ?_))
  clear hK1
  apply wp_seq_cutM (σ := Nat × Nat) (fun s => True) (fun s => [(8, .pointer (some ⟨s.1, 0, none⟩)), (9, .pointer (some ⟨s.2, 0, none⟩))]) [(3, _), (6, _), (7, _)] (fun s => [(8, .blk s.1 (pairs 0 [.int .i64 p.x, .int .i64 p.y]) 41), (9, .blk s.2 (pairs 0 [.int .i64 q.x, .int .i64 q.y]) 41)]) [(3, _), (4, _), (5, _), (6, _)]
  ·exact (sub_cons rfl (sub_cons rfl (sub_cons rfl sub_nil)))
  ·exact (subH_same rfl (subH_same rfl (subH_same rfl (subH_same rfl subH_nil))))
  ·intro K2 hK2
   refine wp_rega [(999, [(3, _), (4, _), (5, _), (6, _)])] (by kernel_rfl) ⟨.inr (subH_same rfl (subH_same rfl (subH_same rfl (subH_same rfl subH_nil)))), trivial⟩ ?_
   refine aq_r 0 999 rfl (by kernel_rfl) (by kernel_rfl) (by kernel_rfl) (.head _) (by kernel_rfl) (by kernel_rfl) rfl (r_lda (id := 4) (n := 7) rfl rfl rfl ag51) ?_
   refine aq_r 2 999 rfl (by kernel_rfl) (by kernel_rfl) (by kernel_rfl) (.head _) (by kernel_rfl) (by kernel_rfl) rfl (r_lda (id := 5) (n := 7) rfl rfl rfl ag51) ?_
   refine aq_three (i := 1) (j := 4) (l := 5) (by kernel_rfl) rfl rfl rfl (fun K3 hK3 => ?_) (fun K3 hK3 => ?_) (fun K3 hK3 => ?_)
   ·refine ol_call rfl rfl cb55 rfl (fun w1 hb1 hs1 hB1 => Calls.mono (match_pointOf _ _) ?_)
    rintro e w2 ⟨rfl, hb2⟩
    refine After.below rfl hb1 hs1 hB1 hb2 ?_
    clear hb2 hB1 hs1 hb1 w2 w1
    refine ol_nil (to_k0 (fun _ _ h => h) (hK3 _ _ ⟨.inr (by repeat' first | exact subH_nil | refine subH_same rfl ?_ | (refine subH_blk rfl (by repeat' first | exact sub_nil | refine sub_cons rfl ?_) ?_)), trivial⟩ ?_))
    clear hK3
    refine aq_three (i := 3) (j := 4) (l := 5) (by kernel_rfl) rfl rfl rfl (fun K4 hK4 => ?_) (fun K4 hK4 => ?_) (fun K4 hK4 => ?_)
    ·refine ol_call rfl rfl cb55 rfl (fun w1 hb1 hs1 hB1 => Calls.mono (match_pointOf _ _) ?_)
     rintro e w2 ⟨rfl, hb2⟩
     refine After.below rfl hb1 hs1 hB1 hb2 ?_
     clear hb2 hB1 hs1 hb1 w2 w1
     refine ol_nil (to_k0 (fun _ _ h => h) (hK4 _ _ ⟨.inr (by repeat' first | exact subH_nil | refine subH_same rfl ?_ | (refine subH_blk rfl (by repeat' first | exact sub_nil | refine sub_cons rfl ?_) ?_)), trivial⟩ ?_))
     clear hK4
     refine aq_two (i := 4) (j := 5) (by kernel_rfl) rfl rfl (fun K5 hK5 => ?_) (fun K5 hK5 => ?_)
     ·refine ol_alloc 8 z41 rfl fun b8 => ?_
      refine ol_nil (to_k0 (fun _ _ h => h) (hK5 _ _ ⟨.inr (by repeat' first | exact subH_nil | refine subH_same rfl ?_ | (refine subH_blk rfl (by repeat' first | exact sub_nil | refine sub_cons rfl ?_) ?_)), trivial⟩ ?_))
      clear hK5
      refine aq_one (i := 5) (by kernel_rfl) rfl fun K6 hK6 => ?_
      refine ol_alloc 9 z41 rfl fun b9 => ?_
      refine ol_nil (to_k0 (fun _ _ h => h) (hK6 _ _ ⟨.inr (by repeat' first | exact subH_nil | refine subH_same rfl ?_ | (refine subH_blk rfl (by repeat' first | exact sub_nil | refine sub_cons rfl ?_) ?_)), trivial⟩ ?_))
      clear hK6
      refine aq_one (i := 6) (by kernel_rfl) rfl fun K7 hK7 => ?_
      refine ol_store (id := 8) rfl rfl rfl rfl sz41 rfl rfl (by first | decide | exact Nat.zero_lt_succ _ | simp) ?_
      refine ol_nil (to_k0 (fun _ _ h => h) (hK7 _ _ ⟨.inr (by repeat' first | exact subH_nil | refine subH_same rfl ?_ | (refine subH_blk rfl (by repeat' first | exact sub_nil | refine sub_cons rfl ?_) ?_)), trivial⟩ ?_))
      clear hK7
      refine aq_one (i := 7) (by kernel_rfl) rfl fun K8 hK8 => ?_
      refine ol_store (id := 9) rfl rfl rfl rfl sz41 rfl rfl (by first | decide | exact Nat.zero_lt_succ _ | simp) ?_
      refine ol_nil (to_k0 (fun _ _ h => h) (hK8 _ _ ⟨.inr (by repeat' first | exact subH_nil | refine subH_same rfl ?_ | (refine subH_blk rfl (by repeat' first | exact sub_nil | refine sub_cons rfl ?_) ?_)), trivial⟩ ?_))
      clear hK8
      refine aq_done (by kernel_rfl) ?_
      refine (to_k0 (fun _ _ h => h) (hK2 ((b8, b9)) _ _ ?_ (sub_cons rfl (sub_cons rfl sub_nil)) (sub_cons rfl (sub_cons rfl (sub_cons rfl sub_nil))) (subH_blk rfl (by repeat' first | exact sub_nil | refine sub_cons rfl ?_) (subH_blk rfl (by repeat' first | exact sub_nil | refine sub_cons rfl ?_) subH_nil)) (subH_same rfl (subH_same rfl (subH_same rfl (subH_same rfl subH_nil))))))
      try dsimp only
      all_goals trivial
     ·refine ol_alloc 9 z41 rfl fun b9 => ?_
      refine ol_nil (to_k0 (fun _ _ h => h) (hK5 _ _ ⟨.inr (by repeat' first | exact subH_nil | refine subH_same rfl ?_ | (refine subH_blk rfl (by repeat' first | exact sub_nil | refine sub_cons rfl ?_) ?_)), trivial⟩ ?_))
      clear hK5
      refine aq_one (i := 4) (by kernel_rfl) rfl fun K6 hK6 => ?_
      refine ol_alloc 8 z41 rfl fun b8 => ?_
      refine ol_nil (to_k0 (fun _ _ h => h) (hK6 _ _ ⟨.inr (by repeat' first | exact subH_nil | refine subH_same rfl ?_ | (refine subH_blk rfl (by repeat' first | exact sub_nil | refine sub_cons rfl ?_) ?_)), trivial⟩ ?_))
      clear hK6
      refine aq_one (i := 6) (by kernel_rfl) rfl fun K7 hK7 => ?_
      refine ol_store (id := 8) rfl rfl rfl rfl sz41 rfl rfl (by first | decide | exact Nat.zero_lt_succ _ | simp) ?_
      refine ol_nil (to_k0 (fun _ _ h => h) (hK7 _ _ ⟨.inr (by repeat' first | exact subH_nil | refine subH_same rfl ?_ | (refine subH_blk rfl (by repeat' first | exact sub_nil | refine sub_cons rfl ?_) ?_)), trivial⟩ ?_))
      clear hK7
      refine aq_one (i := 7) (by kernel_rfl) rfl fun K8 hK8 => ?_
      refine ol_store (id := 9) rfl rfl rfl rfl sz41 rfl rfl (by first | decide | exact Nat.zero_lt_succ _ | simp) ?_
      refine ol_nil (to_k0 (fun _ _ h => h) (hK8 _ _ ⟨.inr (by repeat' first | exact subH_nil | refine subH_same rfl ?_ | (refine subH_blk rfl (by repeat' first | exact sub_nil | refine sub_cons rfl ?_) ?_)), trivial⟩ ?_))
      clear hK8
      refine aq_done (by kernel_rfl) ?_
      refine (to_k0 (fun _ _ h => h) (hK2 ((b8, b9)) _ _ ?_ (sub_cons rfl (sub_cons rfl sub_nil)) (sub_cons rfl (sub_cons rfl (sub_cons rfl sub_nil))) (subH_blk rfl (by repeat' first | exact sub_nil | refine sub_cons rfl ?_) (subH_blk rfl (by repeat' first | exact sub_nil | refine sub_cons rfl ?_) subH_nil)) (subH_same rfl (subH_same rfl (subH_same rfl (subH_same rfl subH_nil))))))
      try dsimp only
      all_goals trivial
    ·refine ol_alloc 8 z41 rfl fun b8 => ?_
     refine ol_nil (to_k0 (fun _ _ h => h) (hK4 _ _ ⟨.inr (by repeat' first | exact subH_nil | refine subH_same rfl ?_ | (refine subH_blk rfl (by repeat' first | exact sub_nil | refine sub_cons rfl ?_) ?_)), trivial⟩ ?_))
     clear hK4
     refine aq_two (i := 3) (j := 5) (by kernel_rfl) rfl rfl (fun K5 hK5 => ?_) (fun K5 hK5 => ?_)
     ·refine ol_call rfl rfl cb55 rfl (fun w1 hb1 hs1 hB1 => Calls.mono (match_pointOf _ _) ?_)
      rintro e w2 ⟨rfl, hb2⟩
      refine After.below rfl hb1 hs1 hB1 hb2 ?_
      clear hb2 hB1 hs1 hb1 w2 w1
      refine ol_nil (to_k0 (fun _ _ h => h) (hK5 _ _ ⟨.inr (by repeat' first | exact subH_nil | refine subH_same rfl ?_ | (refine subH_blk rfl (by repeat' first | exact sub_nil | refine sub_cons rfl ?_) ?_)), trivial⟩ ?_))
      clear hK5
      refine aq_one (i := 5) (by kernel_rfl) rfl fun K6 hK6 => ?_
      refine ol_alloc 9 z41 rfl fun b9 => ?_
      refine ol_nil (to_k0 (fun _ _ h => h) (hK6 _ _ ⟨.inr (by repeat' first | exact subH_nil | refine subH_same rfl ?_ | (refine subH_blk rfl (by repeat' first | exact sub_nil | refine sub_cons rfl ?_) ?_)), trivial⟩ ?_))
      clear hK6
      refine aq_one (i := 6) (by kernel_rfl) rfl fun K7 hK7 => ?_
      refine ol_store (id := 8) rfl rfl rfl rfl sz41 rfl rfl (by first | decide | exact Nat.zero_lt_succ _ | simp) ?_
      refine ol_nil (to_k0 (fun _ _ h => h) (hK7 _ _ ⟨.inr (by repeat' first | exact subH_nil | refine subH_same rfl ?_ | (refine subH_blk rfl (by repeat' first | exact sub_nil | refine sub_cons rfl ?_) ?_)), trivial⟩ ?_))
      clear hK7
      refine aq_one (i := 7) (by kernel_rfl) rfl fun K8 hK8 => ?_
      refine ol_store (id := 9) rfl rfl rfl rfl sz41 rfl rfl (by first | decide | exact Nat.zero_lt_succ _ | simp) ?_
      refine ol_nil (to_k0 (fun _ _ h => h) (hK8 _ _ ⟨.inr (by repeat' first | exact subH_nil | refine subH_same rfl ?_ | (refine subH_blk rfl (by repeat' first | exact sub_nil | refine sub_cons rfl ?_) ?_)), trivial⟩ ?_))
      clear hK8
      refine aq_done (by kernel_rfl) ?_
      refine (to_k0 (fun _ _ h => h) (hK2 ((b8, b9)) _ _ ?_ (sub_cons rfl (sub_cons rfl sub_nil)) (sub_cons rfl (sub_cons rfl (sub_cons rfl sub_nil))) (subH_blk rfl (by repeat' first | exact sub_nil | refine sub_cons rfl ?_) (subH_blk rfl (by repeat' first | exact sub_nil | refine sub_cons rfl ?_) subH_nil)) (subH_same rfl (subH_same rfl (subH_same rfl (subH_same rfl subH_nil))))))
      try dsimp only
      all_goals trivial
     ·refine ol_alloc 9 z41 rfl fun b9 => ?_
      refine ol_nil (to_k0 (fun _ _ h => h) (hK5 _ _ ⟨.inr (by repeat' first | exact subH_nil | refine subH_same rfl ?_ | (refine subH_blk rfl (by repeat' first | exact sub_nil | refine sub_cons rfl ?_) ?_)), trivial⟩ ?_))
      clear hK5
      refine aq_one (i := 3) (by kernel_rfl) rfl fun K6 hK6 => ?_
      refine ol_call rfl rfl cb55 rfl (fun w1 hb1 hs1 hB1 => Calls.mono (match_pointOf _ _) ?_)
      rintro e w2 ⟨rfl, hb2⟩
      refine After.below rfl hb1 hs1 hB1 hb2 ?_
      clear hb2 hB1 hs1 hb1 w2 w1
      refine ol_nil (to_k0 (fun _ _ h => h) (hK6 _ _ ⟨.inr (by repeat' first | exact subH_nil | refine subH_same rfl ?_ | (refine subH_blk rfl (by repeat' first | exact sub_nil | refine sub_cons rfl ?_) ?_)), trivial⟩ ?_))
      clear hK6
      refine aq_one (i := 6) (by kernel_rfl) rfl fun K7 hK7 => ?_
      refine ol_store (id := 8) rfl rfl rfl rfl sz41 rfl rfl (by first | decide | exact Nat.zero_lt_succ _ | simp) ?_
      refine ol_nil (to_k0 (fun _ _ h => h) (hK7 _ _ ⟨.inr (by repeat' first | exact subH_nil | refine subH_same rfl ?_ | (refine subH_blk rfl (by repeat' first | exact sub_nil | refine sub_cons rfl ?_) ?_)), trivial⟩ ?_))
      clear hK7
      refine aq_one (i := 7) (by kernel_rfl) rfl fun K8 hK8 => ?_
      refine ol_store (id := 9) rfl rfl rfl rfl sz41 rfl rfl (by first | decide | exact Nat.zero_lt_succ _ | simp) ?_
      refine ol_nil (to_k0 (fun _ _ h => h) (hK8 _ _ ⟨.inr (by repeat' first | exact subH_nil | refine subH_same rfl ?_ | (refine subH_blk rfl (by repeat' first | exact sub_nil | refine sub_cons rfl ?_) ?_)), trivial⟩ ?_))
      clear hK8
      refine aq_done (by kernel_rfl) ?_
      refine (to_k0 (fun _ _ h => h) (hK2 ((b8, b9)) _ _ ?_ (sub_cons rfl (sub_cons rfl sub_nil)) (sub_cons rfl (sub_cons rfl (sub_cons rfl sub_nil))) (subH_blk rfl (by repeat' first | exact sub_nil | refine sub_cons rfl ?_) (subH_blk rfl (by repeat' first | exact sub_nil | refine sub_cons rfl ?_) subH_nil)) (subH_same rfl (subH_same rfl (subH_same rfl (subH_same rfl subH_nil))))))
      try dsimp only
      all_goals trivial
    ·refine ol_alloc 9 z41 rfl fun b9 => ?_
     refine ol_nil (to_k0 (fun _ _ h => h) (hK4 _ _ ⟨.inr (by repeat' first | exact subH_nil | refine subH_same rfl ?_ | (refine subH_blk rfl (by repeat' first | exact sub_nil | refine sub_cons rfl ?_) ?_)), trivial⟩ ?_))
     clear hK4
     refine aq_two (i := 3) (j := 4) (by kernel_rfl) rfl rfl (fun K5 hK5 => ?_) (fun K5 hK5 => ?_)
     ·refine ol_call rfl rfl cb55 rfl (fun w1 hb1 hs1 hB1 => Calls.mono (match_pointOf _ _) ?_)
      rintro e w2 ⟨rfl, hb2⟩
      refine After.below rfl hb1 hs1 hB1 hb2 ?_
      clear hb2 hB1 hs1 hb1 w2 w1
      refine ol_nil (to_k0 (fun _ _ h => h) (hK5 _ _ ⟨.inr (by repeat' first | exact subH_nil | refine subH_same rfl ?_ | (refine subH_blk rfl (by repeat' first | exact sub_nil | refine sub_cons rfl ?_) ?_)), trivial⟩ ?_))
      clear hK5
      refine aq_one (i := 4) (by kernel_rfl) rfl fun K6 hK6 => ?_
      refine ol_alloc 8 z41 rfl fun b8 => ?_
      refine ol_nil (to_k0 (fun _ _ h => h) (hK6 _ _ ⟨.inr (by repeat' first | exact subH_nil | refine subH_same rfl ?_ | (refine subH_blk rfl (by repeat' first | exact sub_nil | refine sub_cons rfl ?_) ?_)), trivial⟩ ?_))
      clear hK6
      refine aq_one (i := 6) (by kernel_rfl) rfl fun K7 hK7 => ?_
      refine ol_store (id := 8) rfl rfl rfl rfl sz41 rfl rfl (by first | decide | exact Nat.zero_lt_succ _ | simp) ?_
      refine ol_nil (to_k0 (fun _ _ h => h) (hK7 _ _ ⟨.inr (by repeat' first | exact subH_nil | refine subH_same rfl ?_ | (refine subH_blk rfl (by repeat' first | exact sub_nil | refine sub_cons rfl ?_) ?_)), trivial⟩ ?_))
      clear hK7
      refine aq_one (i := 7) (by kernel_rfl) rfl fun K8 hK8 => ?_
      refine ol_store (id := 9) rfl rfl rfl rfl sz41 rfl rfl (by first | decide | exact Nat.zero_lt_succ _ | simp) ?_
      refine ol_nil (to_k0 (fun _ _ h => h) (hK8 _ _ ⟨.inr (by repeat' first | exact subH_nil | refine subH_same rfl ?_ | (refine subH_blk rfl (by repeat' first | exact sub_nil | refine sub_cons rfl ?_) ?_)), trivial⟩ ?_))
      clear hK8
      refine aq_done (by kernel_rfl) ?_
      refine (to_k0 (fun _ _ h => h) (hK2 ((b8, b9)) _ _ ?_ (sub_cons rfl (sub_cons rfl sub_nil)) (sub_cons rfl (sub_cons rfl (sub_cons rfl sub_nil))) (subH_blk rfl (by repeat' first | exact sub_nil | refine sub_cons rfl ?_) (subH_blk rfl (by repeat' first | exact sub_nil | refine sub_cons rfl ?_) subH_nil)) (subH_same rfl (subH_same rfl (subH_same rfl (subH_same rfl subH_nil))))))
      try dsimp only
      all_goals trivial
     ·refine ol_alloc 8 z41 rfl fun b8 => ?_
      refine ol_nil (to_k0 (fun _ _ h => h) (hK5 _ _ ⟨.inr (by repeat' first | exact subH_nil | refine subH_same rfl ?_ | (refine subH_blk rfl (by repeat' first | exact sub_nil | refine sub_cons rfl ?_) ?_)), trivial⟩ ?_))
      clear hK5
      refine aq_one (i := 3) (by kernel_rfl) rfl fun K6 hK6 => ?_
      refine ol_call rfl rfl cb55 rfl (fun w1 hb1 hs1 hB1 => Calls.mono (match_pointOf _ _) ?_)
      rintro e w2 ⟨rfl, hb2⟩
      refine After.below rfl hb1 hs1 hB1 hb2 ?_
      clear hb2 hB1 hs1 hb1 w2 w1
      refine ol_nil (to_k0 (fun _ _ h => h) (hK6 _ _ ⟨.inr (by repeat' first | exact subH_nil | refine subH_same rfl ?_ | (refine subH_blk rfl (by repeat' first | exact sub_nil | refine sub_cons rfl ?_) ?_)), trivial⟩ ?_))
      clear hK6
      refine aq_one (i := 6) (by kernel_rfl) rfl fun K7 hK7 => ?_
      refine ol_store (id := 8) rfl rfl rfl rfl sz41 rfl rfl (by first | decide | exact Nat.zero_lt_succ _ | simp) ?_
      refine ol_nil (to_k0 (fun _ _ h => h) (hK7 _ _ ⟨.inr (by repeat' first | exact subH_nil | refine subH_same rfl ?_ | (refine subH_blk rfl (by repeat' first | exact sub_nil | refine sub_cons rfl ?_) ?_)), trivial⟩ ?_))
      clear hK7
      refine aq_one (i := 7) (by kernel_rfl) rfl fun K8 hK8 => ?_
      refine ol_store (id := 9) rfl rfl rfl rfl sz41 rfl rfl (by first | decide | exact Nat.zero_lt_succ _ | simp) ?_
      refine ol_nil (to_k0 (fun _ _ h => h) (hK8 _ _ ⟨.inr (by repeat' first | exact subH_nil | refine subH_same rfl ?_ | (refine subH_blk rfl (by repeat' first | exact sub_nil | refine sub_cons rfl ?_) ?_)), trivial⟩ ?_))
      clear hK8
      refine aq_done (by kernel_rfl) ?_
      refine (to_k0 (fun _ _ h => h) (hK2 ((b8, b9)) _ _ ?_ (sub_cons rfl (sub_cons rfl sub_nil)) (sub_cons rfl (sub_cons rfl (sub_cons rfl sub_nil))) (subH_blk rfl (by repeat' first | exact sub_nil | refine sub_cons rfl ?_) (subH_blk rfl (by repeat' first | exact sub_nil | refine sub_cons rfl ?_) subH_nil)) (subH_same rfl (subH_same rfl (subH_same rfl (subH_same rfl subH_nil))))))
      try dsimp only
      all_goals trivial
   ·refine ol_alloc 8 z41 rfl fun b8 => ?_
    refine ol_nil (to_k0 (fun _ _ h => h) (hK3 _ _ ⟨.inr (by repeat' first | exact subH_nil | refine subH_same rfl ?_ | (refine subH_blk rfl (by repeat' first | exact sub_nil | refine sub_cons rfl ?_) ?_)), trivial⟩ ?_))
    clear hK3
    refine aq_two (i := 1) (j := 5) (by kernel_rfl) rfl rfl (fun K4 hK4 => ?_) (fun K4 hK4 => ?_)
    ·refine ol_call rfl rfl cb55 rfl (fun w1 hb1 hs1 hB1 => Calls.mono (match_pointOf _ _) ?_)
     rintro e w2 ⟨rfl, hb2⟩
     refine After.below rfl hb1 hs1 hB1 hb2 ?_
     clear hb2 hB1 hs1 hb1 w2 w1
     refine ol_nil (to_k0 (fun _ _ h => h) (hK4 _ _ ⟨.inr (by repeat' first | exact subH_nil | refine subH_same rfl ?_ | (refine subH_blk rfl (by repeat' first | exact sub_nil | refine sub_cons rfl ?_) ?_)), trivial⟩ ?_))
     clear hK4
     refine aq_two (i := 3) (j := 5) (by kernel_rfl) rfl rfl (fun K5 hK5 => ?_) (fun K5 hK5 => ?_)
     ·refine ol_call rfl rfl cb55 rfl (fun w1 hb1 hs1 hB1 => Calls.mono (match_pointOf _ _) ?_)
      rintro e w2 ⟨rfl, hb2⟩
      refine After.below rfl hb1 hs1 hB1 hb2 ?_
      clear hb2 hB1 hs1 hb1 w2 w1
      refine ol_nil (to_k0 (fun _ _ h => h) (hK5 _ _ ⟨.inr (by repeat' first | exact subH_nil | refine subH_same rfl ?_ | (refine subH_blk rfl (by repeat' first | exact sub_nil | refine sub_cons rfl ?_) ?_)), trivial⟩ ?_))
      clear hK5
      refine aq_one (i := 5) (by kernel_rfl) rfl fun K6 hK6 => ?_
      refine ol_alloc 9 z41 rfl fun b9 => ?_
      refine ol_nil (to_k0 (fun _ _ h => h) (hK6 _ _ ⟨.inr (by repeat' first | exact subH_nil | refine subH_same rfl ?_ | (refine subH_blk rfl (by repeat' first | exact sub_nil | refine sub_cons rfl ?_) ?_)), trivial⟩ ?_))
      clear hK6
      refine aq_one (i := 6) (by kernel_rfl) rfl fun K7 hK7 => ?_
      refine ol_store (id := 8) rfl rfl rfl rfl sz41 rfl rfl (by first | decide | exact Nat.zero_lt_succ _ | simp) ?_
      refine ol_nil (to_k0 (fun _ _ h => h) (hK7 _ _ ⟨.inr (by repeat' first | exact subH_nil | refine subH_same rfl ?_ | (refine subH_blk rfl (by repeat' first | exact sub_nil | refine sub_cons rfl ?_) ?_)), trivial⟩ ?_))
      clear hK7
      refine aq_one (i := 7) (by kernel_rfl) rfl fun K8 hK8 => ?_
      refine ol_store (id := 9) rfl rfl rfl rfl sz41 rfl rfl (by first | decide | exact Nat.zero_lt_succ _ | simp) ?_
      refine ol_nil (to_k0 (fun _ _ h => h) (hK8 _ _ ⟨.inr (by repeat' first | exact subH_nil | refine subH_same rfl ?_ | (refine subH_blk rfl (by repeat' first | exact sub_nil | refine sub_cons rfl ?_) ?_)), trivial⟩ ?_))
      clear hK8
      refine aq_done (by kernel_rfl) ?_
      refine (to_k0 (fun _ _ h => h) (hK2 ((b8, b9)) _ _ ?_ (sub_cons rfl (sub_cons rfl sub_nil)) (sub_cons rfl (sub_cons rfl (sub_cons rfl sub_nil))) (subH_blk rfl (by repeat' first | exact sub_nil | refine sub_cons rfl ?_) (subH_blk rfl (by repeat' first | exact sub_nil | refine sub_cons rfl ?_) subH_nil)) (subH_same rfl (subH_same rfl (subH_same rfl (subH_same rfl subH_nil))))))
      try dsimp only
      all_goals trivial
     ·refine ol_alloc 9 z41 rfl fun b9 => ?_
      refine ol_nil (to_k0 (fun _ _ h => h) (hK5 _ _ ⟨.inr (by repeat' first | exact subH_nil | refine subH_same rfl ?_ | (refine subH_blk rfl (by repeat' first | exact sub_nil | refine sub_cons rfl ?_) ?_)), trivial⟩ ?_))
      clear hK5
      refine aq_one (i := 3) (by kernel_rfl) rfl fun K6 hK6 => ?_
      refine ol_call rfl rfl cb55 rfl (fun w1 hb1 hs1 hB1 => Calls.mono (match_pointOf _ _) ?_)
      rintro e w2 ⟨rfl, hb2⟩
      refine After.below rfl hb1 hs1 hB1 hb2 ?_
      clear hb2 hB1 hs1 hb1 w2 w1
      refine ol_nil (to_k0 (fun _ _ h => h) (hK6 _ _ ⟨.inr (by repeat' first | exact subH_nil | refine subH_same rfl ?_ | (refine subH_blk rfl (by repeat' first | exact sub_nil | refine sub_cons rfl ?_) ?_)), trivial⟩ ?_))
      clear hK6
      refine aq_one (i := 6) (by kernel_rfl) rfl fun K7 hK7 => ?_
      refine ol_store (id := 8) rfl rfl rfl rfl sz41 rfl rfl (by first | decide | exact Nat.zero_lt_succ _ | simp) ?_
      refine ol_nil (to_k0 (fun _ _ h => h) (hK7 _ _ ⟨.inr (by repeat' first | exact subH_nil | refine subH_same rfl ?_ | (refine subH_blk rfl (by repeat' first | exact sub_nil | refine sub_cons rfl ?_) ?_)), trivial⟩ ?_))
      clear hK7
      refine aq_one (i := 7) (by kernel_rfl) rfl fun K8 hK8 => ?_
      refine ol_store (id := 9) rfl rfl rfl rfl sz41 rfl rfl (by first | decide | exact Nat.zero_lt_succ _ | simp) ?_
      refine ol_nil (to_k0 (fun _ _ h => h) (hK8 _ _ ⟨.inr (by repeat' first | exact subH_nil | refine subH_same rfl ?_ | (refine subH_blk rfl (by repeat' first | exact sub_nil | refine sub_cons rfl ?_) ?_)), trivial⟩ ?_))
      clear hK8
      refine aq_done (by kernel_rfl) ?_
      refine (to_k0 (fun _ _ h => h) (hK2 ((b8, b9)) _ _ ?_ (sub_cons rfl (sub_cons rfl sub_nil)) (sub_cons rfl (sub_cons rfl (sub_cons rfl sub_nil))) (subH_blk rfl (by repeat' first | exact sub_nil | refine sub_cons rfl ?_) (subH_blk rfl (by repeat' first | exact sub_nil | refine sub_cons rfl ?_) subH_nil)) (subH_same rfl (subH_same rfl (subH_same rfl (subH_same rfl subH_nil))))))
      try dsimp only
      all_goals trivial
    ·refine ol_alloc 9 z41 rfl fun b9 => ?_
     refine ol_nil (to_k0 (fun _ _ h => h) (hK4 _ _ ⟨.inr (by repeat' first | exact subH_nil | refine subH_same rfl ?_ | (refine subH_blk rfl (by repeat' first | exact sub_nil | refine sub_cons rfl ?_) ?_)), trivial⟩ ?_))
     clear hK4
     refine aq_one (i := 1) (by kernel_rfl) rfl fun K5 hK5 => ?_
     refine ol_call rfl rfl cb55 rfl (fun w1 hb1 hs1 hB1 => Calls.mono (match_pointOf _ _) ?_)
     rintro e w2 ⟨rfl, hb2⟩
     refine After.below rfl hb1 hs1 hB1 hb2 ?_
     clear hb2 hB1 hs1 hb1 w2 w1
     refine ol_nil (to_k0 (fun _ _ h => h) (hK5 _ _ ⟨.inr (by repeat' first | exact subH_nil | refine subH_same rfl ?_ | (refine subH_blk rfl (by repeat' first | exact sub_nil | refine sub_cons rfl ?_) ?_)), trivial⟩ ?_))
     clear hK5
     refine aq_one (i := 3) (by kernel_rfl) rfl fun K6 hK6 => ?_
     refine ol_call rfl rfl cb55 rfl (fun w1 hb1 hs1 hB1 => Calls.mono (match_pointOf _ _) ?_)
     rintro e w2 ⟨rfl, hb2⟩
     refine After.below rfl hb1 hs1 hB1 hb2 ?_
     clear hb2 hB1 hs1 hb1 w2 w1
     refine ol_nil (to_k0 (fun _ _ h => h) (hK6 _ _ ⟨.inr (by repeat' first | exact subH_nil | refine subH_same rfl ?_ | (refine subH_blk rfl (by repeat' first | exact sub_nil | refine sub_cons rfl ?_) ?_)), trivial⟩ ?_))
     clear hK6
     refine aq_one (i := 6) (by kernel_rfl) rfl fun K7 hK7 => ?_
     refine ol_store (id := 8) rfl rfl rfl rfl sz41 rfl rfl (by first | decide | exact Nat.zero_lt_succ _ | simp) ?_
     refine ol_nil (to_k0 (fun _ _ h => h) (hK7 _ _ ⟨.inr (by repeat' first | exact subH_nil | refine subH_same rfl ?_ | (refine subH_blk rfl (by repeat' first | exact sub_nil | refine sub_cons rfl ?_) ?_)), trivial⟩ ?_))
     clear hK7
     refine aq_one (i := 7) (by kernel_rfl) rfl fun K8 hK8 => ?_
     refine ol_store (id := 9) rfl rfl rfl rfl sz41 rfl rfl (by first | decide | exact Nat.zero_lt_succ _ | simp) ?_
     refine ol_nil (to_k0 (fun _ _ h => h) (hK8 _ _ ⟨.inr (by repeat' first | exact subH_nil | refine subH_same rfl ?_ | (refine subH_blk rfl (by repeat' first | exact sub_nil | refine sub_cons rfl ?_) ?_)), trivial⟩ ?_))
     clear hK8
     refine aq_done (by kernel_rfl) ?_
     refine (to_k0 (fun _ _ h => h) (hK2 ((b8, b9)) _ _ ?_ (sub_cons rfl (sub_cons rfl sub_nil)) (sub_cons rfl (sub_cons rfl (sub_cons rfl sub_nil))) (subH_blk rfl (by repeat' first | exact sub_nil | refine sub_cons rfl ?_) (subH_blk rfl (by repeat' first | exact sub_nil | refine sub_cons rfl ?_) subH_nil)) (subH_same rfl (subH_same rfl (subH_same rfl (subH_same rfl subH_nil))))))
     try dsimp only
     all_goals trivial
   ·refine ol_alloc 9 z41 rfl fun b9 => ?_
    refine ol_nil (to_k0 (fun _ _ h => h) (hK3 _ _ ⟨.inr (by repeat' first | exact subH_nil | refine subH_same rfl ?_ | (refine subH_blk rfl (by repeat' first | exact sub_nil | refine sub_cons rfl ?_) ?_)), trivial⟩ ?_))
    clear hK3
    refine aq_two (i := 1) (j := 4) (by kernel_rfl) rfl rfl (fun K4 hK4 => ?_) (fun K4 hK4 => ?_)
    ·refine ol_call rfl rfl cb55 rfl (fun w1 hb1 hs1 hB1 => Calls.mono (match_pointOf _ _) ?_)
     rintro e w2 ⟨rfl, hb2⟩
     refine After.below rfl hb1 hs1 hB1 hb2 ?_
     clear hb2 hB1 hs1 hb1 w2 w1
     refine ol_nil (to_k0 (fun _ _ h => h) (hK4 _ _ ⟨.inr (by repeat' first | exact subH_nil | refine subH_same rfl ?_ | (refine subH_blk rfl (by repeat' first | exact sub_nil | refine sub_cons rfl ?_) ?_)), trivial⟩ ?_))
     clear hK4
     refine aq_two (i := 3) (j := 4) (by kernel_rfl) rfl rfl (fun K5 hK5 => ?_) (fun K5 hK5 => ?_)
     ·refine ol_call rfl rfl cb55 rfl (fun w1 hb1 hs1 hB1 => Calls.mono (match_pointOf _ _) ?_)
      rintro e w2 ⟨rfl, hb2⟩
      refine After.below rfl hb1 hs1 hB1 hb2 ?_
      clear hb2 hB1 hs1 hb1 w2 w1
      refine ol_nil (to_k0 (fun _ _ h => h) (hK5 _ _ ⟨.inr (by repeat' first | exact subH_nil | refine subH_same rfl ?_ | (refine subH_blk rfl (by repeat' first | exact sub_nil | refine sub_cons rfl ?_) ?_)), trivial⟩ ?_))
      clear hK5
      refine aq_one (i := 4) (by kernel_rfl) rfl fun K6 hK6 => ?_
      refine ol_alloc 8 z41 rfl fun b8 => ?_
      refine ol_nil (to_k0 (fun _ _ h => h) (hK6 _ _ ⟨.inr (by repeat' first | exact subH_nil | refine subH_same rfl ?_ | (refine subH_blk rfl (by repeat' first | exact sub_nil | refine sub_cons rfl ?_) ?_)), trivial⟩ ?_))
      clear hK6
      refine aq_one (i := 6) (by kernel_rfl) rfl fun K7 hK7 => ?_
      refine ol_store (id := 8) rfl rfl rfl rfl sz41 rfl rfl (by first | decide | exact Nat.zero_lt_succ _ | simp) ?_
      refine ol_nil (to_k0 (fun _ _ h => h) (hK7 _ _ ⟨.inr (by repeat' first | exact subH_nil | refine subH_same rfl ?_ | (refine subH_blk rfl (by repeat' first | exact sub_nil | refine sub_cons rfl ?_) ?_)), trivial⟩ ?_))
      clear hK7
      refine aq_one (i := 7) (by kernel_rfl) rfl fun K8 hK8 => ?_
      refine ol_store (id := 9) rfl rfl rfl rfl sz41 rfl rfl (by first | decide | exact Nat.zero_lt_succ _ | simp) ?_
      refine ol_nil (to_k0 (fun _ _ h => h) (hK8 _ _ ⟨.inr (by repeat' first | exact subH_nil | refine subH_same rfl ?_ | (refine subH_blk rfl (by repeat' first | exact sub_nil | refine sub_cons rfl ?_) ?_)), trivial⟩ ?_))
      clear hK8
      refine aq_done (by kernel_rfl) ?_
      refine (to_k0 (fun _ _ h => h) (hK2 ((b8, b9)) _ _ ?_ (sub_cons rfl (sub_cons rfl sub_nil)) (sub_cons rfl (sub_cons rfl (sub_cons rfl sub_nil))) (subH_blk rfl (by repeat' first | exact sub_nil | refine sub_cons rfl ?_) (subH_blk rfl (by repeat' first | exact sub_nil | refine sub_cons rfl ?_) subH_nil)) (subH_same rfl (subH_same rfl (subH_same rfl (subH_same rfl subH_nil))))))
      try dsimp only
      all_goals trivial
     ·refine ol_alloc 8 z41 rfl fun b8 => ?_
      refine ol_nil (to_k0 (fun _ _ h => h) (hK5 _ _ ⟨.inr (by repeat' first | exact subH_nil | refine subH_same rfl ?_ | (refine subH_blk rfl (by repeat' first | exact sub_nil | refine sub_cons rfl ?_) ?_)), trivial⟩ ?_))
      clear hK5
      refine aq_one (i := 3) (by kernel_rfl) rfl fun K6 hK6 => ?_
      refine ol_call rfl rfl cb55 rfl (fun w1 hb1 hs1 hB1 => Calls.mono (match_pointOf _ _) ?_)
      rintro e w2 ⟨rfl, hb2⟩
      refine After.below rfl hb1 hs1 hB1 hb2 ?_
      clear hb2 hB1 hs1 hb1 w2 w1
      refine ol_nil (to_k0 (fun _ _ h => h) (hK6 _ _ ⟨.inr (by repeat' first | exact subH_nil | refine subH_same rfl ?_ | (refine subH_blk rfl (by repeat' first | exact sub_nil | refine sub_cons rfl ?_) ?_)), trivial⟩ ?_))
      clear hK6
      refine aq_one (i := 6) (by kernel_rfl) rfl fun K7 hK7 => ?_
      refine ol_store (id := 8) rfl rfl rfl rfl sz41 rfl rfl (by first | decide | exact Nat.zero_lt_succ _ | simp) ?_
      refine ol_nil (to_k0 (fun _ _ h => h) (hK7 _ _ ⟨.inr (by repeat' first | exact subH_nil | refine subH_same rfl ?_ | (refine subH_blk rfl (by repeat' first | exact sub_nil | refine sub_cons rfl ?_) ?_)), trivial⟩ ?_))
      clear hK7
      refine aq_one (i := 7) (by kernel_rfl) rfl fun K8 hK8 => ?_
      refine ol_store (id := 9) rfl rfl rfl rfl sz41 rfl rfl (by first | decide | exact Nat.zero_lt_succ _ | simp) ?_
      refine ol_nil (to_k0 (fun _ _ h => h) (hK8 _ _ ⟨.inr (by repeat' first | exact subH_nil | refine subH_same rfl ?_ | (refine subH_blk rfl (by repeat' first | exact sub_nil | refine sub_cons rfl ?_) ?_)), trivial⟩ ?_))
      clear hK8
      refine aq_done (by kernel_rfl) ?_
      refine (to_k0 (fun _ _ h => h) (hK2 ((b8, b9)) _ _ ?_ (sub_cons rfl (sub_cons rfl sub_nil)) (sub_cons rfl (sub_cons rfl (sub_cons rfl sub_nil))) (subH_blk rfl (by repeat' first | exact sub_nil | refine sub_cons rfl ?_) (subH_blk rfl (by repeat' first | exact sub_nil | refine sub_cons rfl ?_) subH_nil)) (subH_same rfl (subH_same rfl (subH_same rfl (subH_same rfl subH_nil))))))
      try dsimp only
      all_goals trivial
    ·refine ol_alloc 8 z41 rfl fun b8 => ?_
     refine ol_nil (to_k0 (fun _ _ h => h) (hK4 _ _ ⟨.inr (by repeat' first | exact subH_nil | refine subH_same rfl ?_ | (refine subH_blk rfl (by repeat' first | exact sub_nil | refine sub_cons rfl ?_) ?_)), trivial⟩ ?_))
     clear hK4
     refine aq_one (i := 1) (by kernel_rfl) rfl fun K5 hK5 => ?_
     refine ol_call rfl rfl cb55 rfl (fun w1 hb1 hs1 hB1 => Calls.mono (match_pointOf _ _) ?_)
     rintro e w2 ⟨rfl, hb2⟩
     refine After.below rfl hb1 hs1 hB1 hb2 ?_
     clear hb2 hB1 hs1 hb1 w2 w1
     refine ol_nil (to_k0 (fun _ _ h => h) (hK5 _ _ ⟨.inr (by repeat' first | exact subH_nil | refine subH_same rfl ?_ | (refine subH_blk rfl (by repeat' first | exact sub_nil | refine sub_cons rfl ?_) ?_)), trivial⟩ ?_))
     clear hK5
     refine aq_one (i := 3) (by kernel_rfl) rfl fun K6 hK6 => ?_
     refine ol_call rfl rfl cb55 rfl (fun w1 hb1 hs1 hB1 => Calls.mono (match_pointOf _ _) ?_)
     rintro e w2 ⟨rfl, hb2⟩
     refine After.below rfl hb1 hs1 hB1 hb2 ?_
     clear hb2 hB1 hs1 hb1 w2 w1
     refine ol_nil (to_k0 (fun _ _ h => h) (hK6 _ _ ⟨.inr (by repeat' first | exact subH_nil | refine subH_same rfl ?_ | (refine subH_blk rfl (by repeat' first | exact sub_nil | refine sub_cons rfl ?_) ?_)), trivial⟩ ?_))
     clear hK6
     refine aq_one (i := 6) (by kernel_rfl) rfl fun K7 hK7 => ?_
     refine ol_store (id := 8) rfl rfl rfl rfl sz41 rfl rfl (by first | decide | exact Nat.zero_lt_succ _ | simp) ?_
     refine ol_nil (to_k0 (fun _ _ h => h) (hK7 _ _ ⟨.inr (by repeat' first | exact subH_nil | refine subH_same rfl ?_ | (refine subH_blk rfl (by repeat' first | exact sub_nil | refine sub_cons rfl ?_) ?_)), trivial⟩ ?_))
     clear hK7
     refine aq_one (i := 7) (by kernel_rfl) rfl fun K8 hK8 => ?_
     refine ol_store (id := 9) rfl rfl rfl rfl sz41 rfl rfl (by first | decide | exact Nat.zero_lt_succ _ | simp) ?_
     refine ol_nil (to_k0 (fun _ _ h => h) (hK8 _ _ ⟨.inr (by repeat' first | exact subH_nil | refine subH_same rfl ?_ | (refine subH_blk rfl (by repeat' first | exact sub_nil | refine sub_cons rfl ?_) ?_)), trivial⟩ ?_))
     clear hK8
     refine aq_done (by kernel_rfl) ?_
     refine (to_k0 (fun _ _ h => h) (hK2 ((b8, b9)) _ _ ?_ (sub_cons rfl (sub_cons rfl sub_nil)) (sub_cons rfl (sub_cons rfl (sub_cons rfl sub_nil))) (subH_blk rfl (by repeat' first | exact sub_nil | refine sub_cons rfl ?_) (subH_blk rfl (by repeat' first | exact sub_nil | refine sub_cons rfl ?_) subH_nil)) (subH_same rfl (subH_same rfl (subH_same rfl (subH_same rfl subH_nil))))))
     try dsimp only
     all_goals trivial
  ·rintro ⟨b8, b9⟩ _
   dsimp only
   refine wp_seq' fun K9 hK9 => ?_
   refine wp_regq (by kernel_rfl) (by kernel_rfl) ?_
   refine ql_r (r_fa (o' := 0) rfl fl79_0 rfl) rfl ?_
   refine ql_r (r_lda (id := 3) (n := 2) rfl rfl rfl ag41) rfl ?_
   refine ql_r (r_fa (o' := 2) rfl fl79_1 rfl) rfl ?_
   refine ql_r (r_lda (id := 3) (n := 2) rfl rfl rfl ag41) rfl ?_
   refine ql_r (r_lda (id := 8) (n := 2) rfl rfl rfl ag41) rfl ?_
   refine ql_call rfl rfl cb128 rfl (fun w1 hb1 hs1 hB1 => match_sideOf _ _ _ _ _ _ _ (by assumption) (by assumption) (by assumption) (by assumption) (by assumption) (by assumption)) ?_
   refine ql_r (r_fa (o' := 0) rfl fl79_0 rfl) rfl ?_
   refine ql_r (r_lda (id := 3) (n := 2) rfl rfl rfl ag41) rfl ?_
   refine ql_r (r_fa (o' := 2) rfl fl79_1 rfl) rfl ?_
   refine ql_r (r_lda (id := 3) (n := 2) rfl rfl rfl ag41) rfl ?_
   refine ql_r (r_lda (id := 9) (n := 2) rfl rfl rfl ag41) rfl ?_
   refine ql_call rfl rfl cb128 rfl (fun w1 hb1 hs1 hB1 => match_sideOf _ _ _ _ _ _ _ (by assumption) (by assumption) (by assumption) (by assumption) (by assumption) (by assumption)) ?_
   refine ql_r (r_assign rfl) rfl ?_
   refine ql_r (r_assign rfl) rfl ?_
   refine ql_nil (to_k0 (fun _ _ h => h) (hK9 _ _ _ _ _ ?_))
   clear hK9
   refine wp_seq' fun K10 hK10 => ?_
   refine wp_seq' fun K11 hK11 => ?_
   refine wp_reg ?_
   refine ol_r (r_move rfl) rfl ?_
   refine ol_r (r_geq rfl rfl) rfl ?_
   refine ol_r (r_move rfl) rfl ?_
   refine ol_split (d := 32) rfl (fun hs32 => ?_) (fun hs32 => ?_)
   ·have phs32 := hs32; try simp only [decide_eq_true_eq, decide_eq_false_iff_not, Bool.not_eq_true', Bool.not_eq_false', Bool.not_true, Bool.not_false] at phs32
    refine ol_s rfl rfl hs32 rfl ?_
    refine ol_s rfl rfl hs32 rfl ?_
    refine ol_r (r_pickT rfl hs32 rfl) rfl ?_
    refine ol_nil (to_k0 (fun _ _ h => h) (hK11 _ _ _ _ _ ?_))
    clear hK11
    refine wp_condT rfl ?_
    refine wp_seq' fun K12 hK12 => ?_
    refine wp_reg ?_
    refine ol_r (r_build rfl (fun _ => bd152 _)) rfl ?_
    refine ol_store (id := 6) rfl rfl rfl rfl sz152 rfl rfl (by first | decide | exact Nat.zero_lt_succ _ | simp) ?_
    refine ol_r (r_assign rfl) rfl ?_
    refine ol_nil (to_k0 (fun _ _ h => h) (hK12 _ _ _ _ _ ?_))
    clear hK12
    refine hQ.ret (rvs2 (rv_c (id := 6) (n := 2) rfl rfl ag152 rfl) (rv_t rfl)) (fun _ _ h => h) fun w hb hs hB hkd => ?_
    first
      | (have hc : crB g p q = false := by
           unfold crB gSide
           simp only [Bool.and_eq_false_iff, Bool.not_eq_false', Bool.or_eq_true, Bool.and_eq_true, decide_eq_true_eq]
           omega
         exact ⟨by rw [partOf, hc]; rfl, hb⟩)
   ·have phs32 := hs32; try simp only [decide_eq_true_eq, decide_eq_false_iff_not, Bool.not_eq_true', Bool.not_eq_false', Bool.not_true, Bool.not_false] at phs32
    refine ol_g rfl rfl hs32 ?_
    refine ol_r (r_move rfl) rfl ?_
    refine ol_g rfl rfl hs32 ?_
    refine ol_r (r_lss rfl rfl) rfl ?_
    refine ol_r (r_pickF rfl hs32 rfl) rfl ?_
    refine ol_nil (to_k0 (fun _ _ h => h) (hK11 _ _ _ _ _ ?_))
    clear hK11
    refine wp_condD rfl (fun hc35 => ?_) (fun hc35 => ?_)
    ·refine wp_seq' fun K13 hK13 => ?_
     refine wp_reg ?_
     refine ol_r (r_build rfl (fun _ => bd152 _)) rfl ?_
     refine ol_store (id := 6) rfl rfl rfl rfl sz152 rfl rfl (by first | decide | exact Nat.zero_lt_succ _ | simp) ?_
     refine ol_r (r_assign rfl) rfl ?_
     refine ol_nil (to_k0 (fun _ _ h => h) (hK13 _ _ _ _ _ ?_))
     clear hK13
     refine hQ.ret (rvs2 (rv_c (id := 6) (n := 2) rfl rfl ag152 rfl) (rv_t rfl)) (fun _ _ h => h) fun w hb hs hB hkd => ?_
     first
       | (have hc : crB g p q = false := by
            unfold crB gSide
            simp only [Bool.and_eq_false_iff, Bool.not_eq_false', Bool.or_eq_true, Bool.and_eq_true, decide_eq_true_eq]
            omega
          exact ⟨by rw [partOf, hc]; rfl, hb⟩)
    ·refine wp_skip' (to_k0 (fun _ _ h => h) (hK10 _ _ _ _ _ ?_))
     clear hK10
     refine wp_seq' fun K14 hK14 => ?_
     refine wp_regq (by kernel_rfl) (by kernel_rfl) ?_
     refine ql_r (r_lda (id := 8) (n := 2) rfl rfl rfl ag41) rfl ?_
     refine ql_r (r_lda (id := 9) (n := 2) rfl rfl rfl ag41) rfl ?_
     refine ql_r (r_fa (o' := 0) rfl fl79_0 rfl) rfl ?_
     refine ql_r (r_lda (id := 3) (n := 2) rfl rfl rfl ag41) rfl ?_
     refine ql_call rfl rfl cb128 rfl (fun w1 hb1 hs1 hB1 => match_sideOf _ _ _ _ _ _ _ (by assumption) (by assumption) (by assumption) (by assumption) (by assumption) (by assumption)) ?_
     refine ql_r (r_lda (id := 8) (n := 2) rfl rfl rfl ag41) rfl ?_
     refine ql_r (r_lda (id := 9) (n := 2) rfl rfl rfl ag41) rfl ?_
     refine ql_r (r_fa (o' := 2) rfl fl79_1 rfl) rfl ?_
     refine ql_r (r_lda (id := 3) (n := 2) rfl rfl rfl ag41) rfl ?_
     refine ql_call rfl rfl cb128 rfl (fun w1 hb1 hs1 hB1 => match_sideOf _ _ _ _ _ _ _ (by assumption) (by assumption) (by assumption) (by assumption) (by assumption) (by assumption)) ?_
     refine ql_r (r_assign rfl) rfl ?_
     refine ql_r (r_assign rfl) rfl ?_
     refine ql_nil (to_k0 (fun _ _ h => h) (hK14 _ _ _ _ _ ?_))
     clear hK14
     refine wp_seq' fun K15 hK15 => ?_
     refine wp_seq' fun K16 hK16 => ?_
     refine wp_reg ?_
     refine ol_r (r_move rfl) rfl ?_
     refine ol_r (r_gtr rfl rfl) rfl ?_
     refine ol_r (r_move rfl) rfl ?_
     refine ol_split (d := 49) rfl (fun hs49 => ?_) (fun hs49 => ?_)
     ·have phs49 := hs49; try simp only [decide_eq_true_eq, decide_eq_false_iff_not, Bool.not_eq_true', Bool.not_eq_false', Bool.not_true, Bool.not_false] at phs49
      refine ol_g rfl rfl hs49 ?_
      refine ol_r (r_move rfl) rfl ?_
      refine ol_g rfl rfl hs49 ?_
      refine ol_r (r_gtr rfl rfl) rfl ?_
      refine ol_r (r_pickT rfl hs49 rfl) rfl ?_
      refine ol_r (r_move rfl) rfl ?_
      refine ol_split (d := 53) rfl (fun hs53 => ?_) (fun hs53 => ?_)
      ·have phs53 := hs53; try simp only [decide_eq_true_eq, decide_eq_false_iff_not, Bool.not_eq_true', Bool.not_eq_false', Bool.not_true, Bool.not_false] at phs53
       refine ol_s rfl rfl hs53 rfl ?_
       refine ol_s rfl rfl hs53 rfl ?_
       refine ol_s rfl rfl hs53 rfl ?_
       refine ol_u rfl rfl rfl ?_
       refine ol_u rfl rfl rfl ?_
       refine ol_s rfl rfl hs53 rfl ?_
       refine ol_r (r_pickT rfl hs53 rfl) rfl ?_
       refine ol_nil (to_k0 (fun _ _ h => h) (hK16 _ _ _ _ _ ?_))
       clear hK16
       refine wp_condT rfl ?_
       refine wp_seq' fun K17 hK17 => ?_
       refine wp_reg ?_
       refine ol_r (r_build rfl (fun _ => bd152 _)) rfl ?_
       refine ol_store (id := 6) rfl rfl rfl rfl sz152 rfl rfl (by first | decide | exact Nat.zero_lt_succ _ | simp) ?_
       refine ol_r (r_assign rfl) rfl ?_
       refine ol_nil (to_k0 (fun _ _ h => h) (hK17 _ _ _ _ _ ?_))
       clear hK17
       refine hQ.ret (rvs2 (rv_c (id := 6) (n := 2) rfl rfl ag152 rfl) (rv_t rfl)) (fun _ _ h => h) fun w hb hs hB hkd => ?_
       first
         | (have hc : crB g p q = false := by
              unfold crB gSide
              simp only [Bool.and_eq_false_iff, Bool.not_eq_false', Bool.or_eq_true, Bool.and_eq_true, decide_eq_true_eq]
              omega
            exact ⟨by rw [partOf, hc]; rfl, hb⟩)
      ·have phs53 := hs53; try simp only [decide_eq_true_eq, decide_eq_false_iff_not, Bool.not_eq_true', Bool.not_eq_false', Bool.not_true, Bool.not_false] at phs53
       refine ol_g rfl rfl hs53 ?_
       refine ol_r (r_move rfl) rfl ?_
       refine ol_g rfl rfl hs53 ?_
       refine ol_r (r_lss rfl rfl) rfl ?_
       refine ol_g rfl rfl hs53 ?_
       refine ol_r (r_move rfl) rfl ?_
       refine ol_split (d := 56) rfl (fun hs56 => ?_) (fun hs56 => ?_)
       ·have phs56 := hs56; try simp only [decide_eq_true_eq, decide_eq_false_iff_not, Bool.not_eq_true', Bool.not_eq_false', Bool.not_true, Bool.not_false] at phs56
        refine ol_g rfl rfl hs56 ?_
        refine ol_r (r_move rfl) rfl ?_
        refine ol_g rfl rfl hs56 ?_
        refine ol_r (r_lss rfl rfl) rfl ?_
        refine ol_g rfl rfl hs53 ?_
        refine ol_r (r_pickT rfl hs56 rfl) rfl ?_
        refine ol_r (r_pickF rfl hs53 rfl) rfl ?_
        refine ol_nil (to_k0 (fun _ _ h => h) (hK16 _ _ _ _ _ ?_))
        clear hK16
        refine wp_condD rfl (fun hc60 => ?_) (fun hc60 => ?_)
        ·refine wp_seq' fun K18 hK18 => ?_
         refine wp_reg ?_
         refine ol_r (r_build rfl (fun _ => bd152 _)) rfl ?_
         refine ol_store (id := 6) rfl rfl rfl rfl sz152 rfl rfl (by first | decide | exact Nat.zero_lt_succ _ | simp) ?_
         refine ol_r (r_assign rfl) rfl ?_
         refine ol_nil (to_k0 (fun _ _ h => h) (hK18 _ _ _ _ _ ?_))
         clear hK18
         refine hQ.ret (rvs2 (rv_c (id := 6) (n := 2) rfl rfl ag152 rfl) (rv_t rfl)) (fun _ _ h => h) fun w hb hs hB hkd => ?_
         first
           | (have hc : crB g p q = false := by
                unfold crB gSide
                simp only [Bool.and_eq_false_iff, Bool.not_eq_false', Bool.or_eq_true, Bool.and_eq_true, decide_eq_true_eq]
                omega
              exact ⟨by rw [partOf, hc]; rfl, hb⟩)
        ·refine wp_skip' (to_k0 (fun _ _ h => h) (hK15 _ _ _ _ _ ?_))
         clear hK15
         refine wp_seq' fun K19 hK19 => ?_
         refine wp_reg ?_
         refine ol_r (r_move rfl) rfl ?_
         refine ol_r (r_neg rfl (by omega)) rfl ?_
         refine ol_r (r_move rfl) rfl ?_
         refine ol_r (r_move rfl) rfl ?_
         refine ol_r (r_sub rfl rfl (by omega)) rfl ?_
         refine ol_r (r_build rfl (fun _ => bd152_0_1 _ _ _)) rfl ?_
         refine ol_store (id := 6) rfl rfl rfl rfl sz152 rfl rfl (by first | decide | exact Nat.zero_lt_succ _ | simp) ?_
         refine ol_r (r_assign rfl) rfl ?_
         refine ol_nil (to_k0 (fun _ _ h => h) (hK19 _ _ _ _ _ ?_))
         clear hK19
         refine hQ.ret (rvs2 (rv_c (id := 6) (n := 2) rfl rfl ag152 rfl) (rv_t rfl)) (fun _ _ h => h) fun w hb hs hB hkd => ?_
         first
           | (have hc : crB g p q = true := by
                unfold crB gSide
                simp only [Bool.and_eq_true, Bool.not_eq_true', Bool.or_eq_false_iff, Bool.and_eq_false_iff, decide_eq_false_iff_not]
                omega
              exact ⟨by rw [partOf, hc]; rfl, hb⟩)
       ·have phs56 := hs56; try simp only [decide_eq_true_eq, decide_eq_false_iff_not, Bool.not_eq_true', Bool.not_eq_false', Bool.not_true, Bool.not_false] at phs56
        refine ol_s rfl rfl hs56 rfl ?_
        refine ol_s rfl rfl hs56 rfl ?_
        refine ol_g rfl rfl hs53 ?_
        refine ol_r (r_pickF rfl hs56 rfl) rfl ?_
        refine ol_r (r_pickF rfl hs53 rfl) rfl ?_
        refine ol_nil (to_k0 (fun _ _ h => h) (hK16 _ _ _ _ _ ?_))
        clear hK16
        refine wp_condF rfl ?_
        refine wp_skip' (to_k0 (fun _ _ h => h) (hK15 _ _ _ _ _ ?_))
        clear hK15
        refine wp_seq' fun K20 hK20 => ?_
        refine wp_reg ?_
        refine ol_r (r_move rfl) rfl ?_
        refine ol_r (r_neg rfl (by omega)) rfl ?_
        refine ol_r (r_move rfl) rfl ?_
        refine ol_r (r_move rfl) rfl ?_
        refine ol_r (r_sub rfl rfl (by omega)) rfl ?_
        refine ol_r (r_build rfl (fun _ => bd152_0_1 _ _ _)) rfl ?_
        refine ol_store (id := 6) rfl rfl rfl rfl sz152 rfl rfl (by first | decide | exact Nat.zero_lt_succ _ | simp) ?_
        refine ol_r (r_assign rfl) rfl ?_
        refine ol_nil (to_k0 (fun _ _ h => h) (hK20 _ _ _ _ _ ?_))
        clear hK20
        refine hQ.ret (rvs2 (rv_c (id := 6) (n := 2) rfl rfl ag152 rfl) (rv_t rfl)) (fun _ _ h => h) fun w hb hs hB hkd => ?_
        first
          | (have hc : crB g p q = true := by
               unfold crB gSide
               simp only [Bool.and_eq_true, Bool.not_eq_true', Bool.or_eq_false_iff, Bool.and_eq_false_iff, decide_eq_false_iff_not]
               omega
             exact ⟨by rw [partOf, hc]; rfl, hb⟩)
     ·have phs49 := hs49; try simp only [decide_eq_true_eq, decide_eq_false_iff_not, Bool.not_eq_true', Bool.not_eq_false', Bool.not_true, Bool.not_false] at phs49
      refine ol_s rfl rfl hs49 rfl ?_
      refine ol_s rfl rfl hs49 rfl ?_
      refine ol_r (r_pickF rfl hs49 rfl) rfl ?_
      refine ol_r (r_move rfl) rfl ?_
      refine ol_g rfl rfl rfl ?_
      refine ol_r (r_move rfl) rfl ?_
      refine ol_g rfl rfl rfl ?_
      refine ol_r (r_lss rfl rfl) rfl ?_
      refine ol_g rfl rfl rfl ?_
      refine ol_r (r_move rfl) rfl ?_
      refine ol_split (d := 56) rfl (fun hs56 => ?_) (fun hs56 => ?_)
      ·have phs56 := hs56; try simp only [decide_eq_true_eq, decide_eq_false_iff_not, Bool.not_eq_true', Bool.not_eq_false', Bool.not_true, Bool.not_false] at phs56
       refine ol_g rfl rfl hs56 ?_
       refine ol_r (r_move rfl) rfl ?_
       refine ol_g rfl rfl hs56 ?_
       refine ol_r (r_lss rfl rfl) rfl ?_
       refine ol_g rfl rfl rfl ?_
       refine ol_r (r_pickT rfl hs56 rfl) rfl ?_
       refine ol_r (r_pickF rfl rfl rfl) rfl ?_
       refine ol_nil (to_k0 (fun _ _ h => h) (hK16 _ _ _ _ _ ?_))
       clear hK16
       refine wp_condD rfl (fun hc60 => ?_) (fun hc60 => ?_)
       ·refine wp_seq' fun K21 hK21 => ?_
        refine wp_reg ?_
        refine ol_r (r_build rfl (fun _ => bd152 _)) rfl ?_
        refine ol_store (id := 6) rfl rfl rfl rfl sz152 rfl rfl (by first | decide | exact Nat.zero_lt_succ _ | simp) ?_
        refine ol_r (r_assign rfl) rfl ?_
        refine ol_nil (to_k0 (fun _ _ h => h) (hK21 _ _ _ _ _ ?_))
        clear hK21
        refine hQ.ret (rvs2 (rv_c (id := 6) (n := 2) rfl rfl ag152 rfl) (rv_t rfl)) (fun _ _ h => h) fun w hb hs hB hkd => ?_
        first
          | (have hc : crB g p q = false := by
               unfold crB gSide
               simp only [Bool.and_eq_false_iff, Bool.not_eq_false', Bool.or_eq_true, Bool.and_eq_true, decide_eq_true_eq]
               omega
             exact ⟨by rw [partOf, hc]; rfl, hb⟩)
       ·refine wp_skip' (to_k0 (fun _ _ h => h) (hK15 _ _ _ _ _ ?_))
        clear hK15
        refine wp_seq' fun K22 hK22 => ?_
        refine wp_reg ?_
        refine ol_r (r_move rfl) rfl ?_
        refine ol_r (r_neg rfl (by omega)) rfl ?_
        refine ol_r (r_move rfl) rfl ?_
        refine ol_r (r_move rfl) rfl ?_
        refine ol_r (r_sub rfl rfl (by omega)) rfl ?_
        refine ol_r (r_build rfl (fun _ => bd152_0_1 _ _ _)) rfl ?_
        refine ol_store (id := 6) rfl rfl rfl rfl sz152 rfl rfl (by first | decide | exact Nat.zero_lt_succ _ | simp) ?_
        refine ol_r (r_assign rfl) rfl ?_
        refine ol_nil (to_k0 (fun _ _ h => h) (hK22 _ _ _ _ _ ?_))
        clear hK22
        refine hQ.ret (rvs2 (rv_c (id := 6) (n := 2) rfl rfl ag152 rfl) (rv_t rfl)) (fun _ _ h => h) fun w hb hs hB hkd => ?_
        first
          | (have hc : crB g p q = true := by
               unfold crB gSide
               simp only [Bool.and_eq_true, Bool.not_eq_true', Bool.or_eq_false_iff, Bool.and_eq_false_iff, decide_eq_false_iff_not]
               omega
             exact ⟨by rw [partOf, hc]; rfl, hb⟩)
      ·have phs56 := hs56; try simp only [decide_eq_true_eq, decide_eq_false_iff_not, Bool.not_eq_true', Bool.not_eq_false', Bool.not_true, Bool.not_false] at phs56
       refine ol_s rfl rfl hs56 rfl ?_
       refine ol_s rfl rfl hs56 rfl ?_
       refine ol_g rfl rfl rfl ?_
       refine ol_r (r_pickF rfl hs56 rfl) rfl ?_
       refine ol_r (r_pickF rfl rfl rfl) rfl ?_
       refine ol_nil (to_k0 (fun _ _ h => h) (hK16 _ _ _ _ _ ?_))
       clear hK16
       refine wp_condF rfl ?_
       refine wp_skip' (to_k0 (fun _ _ h => h) (hK15 _ _ _ _ _ ?_))
       clear hK15
       refine wp_seq' fun K23 hK23 => ?_
       refine wp_reg ?_
       refine ol_r (r_move rfl) rfl ?_
       refine ol_r (r_neg rfl (by omega)) rfl ?_
       refine ol_r (r_move rfl) rfl ?_
       refine ol_r (r_move rfl) rfl ?_
       refine ol_r (r_sub rfl rfl (by omega)) rfl ?_
       refine ol_r (r_build rfl (fun _ => bd152_0_1 _ _ _)) rfl ?_
       refine ol_store (id := 6) rfl rfl rfl rfl sz152 rfl rfl (by first | decide | exact Nat.zero_lt_succ _ | simp) ?_
       refine ol_r (r_assign rfl) rfl ?_
       refine ol_nil (to_k0 (fun _ _ h => h) (hK23 _ _ _ _ _ ?_))
       clear hK23
       refine hQ.ret (rvs2 (rv_c (id := 6) (n := 2) rfl rfl ag152 rfl) (rv_t rfl)) (fun _ _ h => h) fun w hb hs hB hkd => ?_
       first
         | (have hc : crB g p q = true := by
              unfold crB gSide
              simp only [Bool.and_eq_true, Bool.not_eq_true', Bool.or_eq_false_iff, Bool.and_eq_false_iff, decide_eq_false_iff_not]
              omega
            exact ⟨by rw [partOf, hc]; rfl, hb⟩)
theorem crossOf_eq {gs : List GateR} {p q : SmpR} {st i : Nat} {g : GateR} (h : gs[i]? = some g) : crossOf gs p q st (i : Int) = ⟨i, st, 1000 * p.at_ + (partOf g p q).num * (1000 * (q.at_ - p.at_)) / (partOf g p q).den⟩ := by unfold crossOf; rw [Int.toNat_natCast, h]
end Go.Proofs.Ytjflbnbofedlkaa

/-
  The example of harrierlaw5, and checks of both arguments.
-/

namespace Go.Proofs.Ytjflbnbofedlkaa
open Go Go.RowKit Hx
set_option linter.unusedVariables false
set_option linter.unusedSimpArgs false
set_option maxRecDepth 8000
def orL : List Int → Int
  | [] => 0
  | x :: r => if x ≠ 0 then x else orL r
theorem orL_next {xs : List Int} {k : Nat} (h : ∀ x ∈ xs.take k, x = 0) : orL xs = orL (xs.drop k) := by
  induction k generalizing xs with
  | zero => rfl
  | succ k ih =>
    cases xs with
    | nil => rfl
    | cons x r =>
      have hx := h x (by simp)
      rw [orL, if_neg (by simp [hx]), List.drop_succ_cons]
      exact ih fun y hy => h y (by simp [hy])
theorem cmp_OrE (a : Option Addr) (n c : Nat) (xs : List Int) (w : World) (hl : Rd encI w.heap.size w a n c xs) :
    Calls Try.prog 71 #[.slice a n c] w fun e w' => e = .returned (.int .i64 (orL xs)) ∧ Below w.heap.size w w' := by
  have hn := hl.len
  have hf := hl.fit
  refine enterQ (N := 18) (C := fun _ => True) (H := []) (B := w.heap.size) (args := [_]) Try.func71 rfl rfl rfl (Nat.le_refl _) (Sat.nil _ _) fun Q hQ => ?_
  refine wp_seq' fun K1 hK1 => ?_
  refine wp_reg ?_
  refine ol_r (r_assign rfl) rfl ?_
  refine ol_nil (to_k0 (fun _ _ h => h) (hK1 _ _ _ _ _ ?_))
  clear hK1
  refine wp_seq' fun K2 hK2 => ?_
  refine wp_reg ?_
  refine ol_r (r_assign rfl) rfl ?_
  refine ol_nil (to_k0 (fun _ _ h => h) (hK2 _ _ _ _ _ ?_))
  clear hK2
  refine wp_seq' fun K3 hK3 => ?_
  refine wp_seq' fun K4 hK4 => ?_
  refine wp_reg ?_
  refine ol_r (r_move rfl) rfl ?_
  refine ol_r (r_len rfl sl144) rfl ?_
  refine ol_r (r_move rfl) rfl ?_
  refine ol_nil (to_k0 (fun _ _ h => h) (hK4 _ _ _ _ _ ?_))
  clear hK4
  refine wp_block' ?_
  apply wp_loopM (σ := Nat) (fun s => s ≤ n ∧ ∀ x ∈ xs.take s, x = 0) (fun s => [(8, .int .i64 s)]) [(3, _), (6, _), (7, _)] (fun s => []) [] (fun s => n - s) (0)
  ·try dsimp only
   exact ⟨Nat.zero_le _, fun x hx => by simp at hx⟩
  ·exact (sub_cons rfl sub_nil)
  ·exact (sub_cons rfl (sub_cons rfl (sub_cons rfl sub_nil)))
  ·exact subH_nil
  ·exact subH_nil
  ·rintro k ⟨hk, hP⟩
   intro K5 hK5
   refine wp_seq' fun K6 hK6 => ?_
   refine wp_reg ?_
   refine ol_r (r_lss rfl rfl) rfl ?_
   refine ol_nil (to_k0 (fun _ _ h => h) (hK6 _ _ _ _ _ ?_))
   clear hK6
   refine wp_seq' fun K7 hK7 => ?_
   refine wp_condD rfl (fun hc9 => ?_) (fun hc9 => ?_)
   ·refine wp_skip' (to_k0 (fun _ _ h => h) (hK7 _ _ _ _ _ ?_))
    clear hK7
    refine wp_seq' fun K8 hK8 => ?_
    refine wp_block' ?_
    refine wp_seq' fun K9 hK9 => ?_
    refine wp_reg ?_
    refine ol_ixr hl rfl rfl sl144 (by omega) rfl fun x10 hx10 => ?_
    try simp only [Int.toNat_natCast] at hx10
    refine ol_r (r_ldw rfl (fun w1 hb1 hs1 hB1 => show Loads _ _ _ _ (.int .i64 x10) from Rd.loads hl ty26 hx10 hb1)) rfl ?_
    refine ol_r (r_assign rfl) rfl ?_
    refine ol_nil (to_k0 (fun _ _ h => h) (hK9 _ _ _ _ _ ?_))
    clear hK9
    refine wp_seq' fun K10 hK10 => ?_
    refine wp_reg ?_
    refine ol_r (r_move rfl) rfl ?_
    refine ol_r (r_move rfl) rfl ?_
    refine ol_r (r_neq rfl rfl) rfl ?_
    refine ol_nil (to_k0 (fun _ _ h => h) (hK10 _ _ _ _ _ ?_))
    clear hK10
    refine wp_condD rfl (fun hc14 => ?_) (fun hc14 => ?_)
    ·refine wp_seq' fun K11 hK11 => ?_
     refine wp_reg ?_
     refine ol_r (r_move rfl) rfl ?_
     refine ol_r (r_assign rfl) rfl ?_
     refine ol_nil (to_k0 (fun _ _ h => h) (hK11 _ _ _ _ _ ?_))
     clear hK11
     refine hQ.ret (rvs1 (rv_t rfl)) (fun _ _ h => h) fun w hb hs hB hkd => ?_
     rw [orL_next hP, drop_cons_get hx10, orL, if_pos hc14]
     exact ⟨rfl, hb⟩
    ·refine wp_skip' (to_k0 (fun _ _ h => h) (hK8 _ _ _ _ _ ?_))
     clear hK8
     refine wp_reg ?_
     refine ol_r (r_add rfl rfl (by omega)) rfl ?_
     refine ol_r (r_move rfl) rfl ?_
     refine ol_nil (to_k0 (fun _ _ h => h) (hK5 (k + 1) _ _ ?_ ?_ (sub_cons rfl sub_nil) (sub_cons rfl (sub_cons rfl (sub_cons rfl sub_nil))) (by exact subH_nil) subH_nil))
     ·try dsimp only
      refine ⟨by omega, fun x hx => ?_⟩
      rw [take_succ_get hx10] at hx
      rcases List.mem_append.1 hx with h | h
      · exact hP x h
      · simp at h; omega
     ·try dsimp only
      omega
   ·refine wp_exit' (to_k0 (fun _ _ h => h) (hK3 _ _ _ _ _ ?_))
    clear hK3
    refine wp_seq' fun K12 hK12 => ?_
    refine wp_reg ?_
    refine ol_r (r_move rfl) rfl ?_
    refine ol_r (r_assign rfl) rfl ?_
    refine ol_nil (to_k0 (fun _ _ h => h) (hK12 _ _ _ _ _ ?_))
    clear hK12
    refine hQ.ret (rvs1 (rv_t rfl)) (fun _ _ h => h) fun w hb hs hB hkd => ?_
    rw [orL_next hP, List.drop_eq_nil_of_le (by omega)]
    exact ⟨rfl, hb⟩
theorem match_checkRun (nm : ByteArray) (ga : Option Addr) (gn gc : Nat) (gs : List GateR) (A : ActV) (w : World) (hn : nm.size ≤ 9223372036854775807) (hS : Rd encGate w.heap.size w ga gn gc gs) (hA : A.Ok w.heap.size w) :
    Calls Try.prog 80 #[.agg #[.string nm, .slice ga gn gc], .agg #[.string A.name, .int .i64 A.sport, .int .i64 A.start, .slice A.sa A.sn A.sc, .slice A.la A.ln A.lc, .slice A.ta A.tn A.tc]] w fun e w' => e = .returned (.int .i64 (orL [chkSeg nm gs, chkA A.d])) ∧ Below w.heap.size w w' := by
  refine enterQ (N := 11) (C := fun _ => True) (H := []) (B := w.heap.size) (args := [_, _]) Try.func80 rfl rfl rfl (Nat.le_refl _) (Sat.nil _ _) fun Q hQ => ?_
  refine wp_seq' fun K1 hK1 => ?_
  refine wp_reg ?_
  refine ol_box 2 rfl rfl rfl fun b2 => ?_
  refine ol_box 3 rfl rfl rfl fun b3 => ?_
  refine ol_r (r_assign rfl) rfl ?_
  refine ol_nil (to_k0 (fun _ _ h => h) (hK1 _ _ _ _ _ ?_))
  clear hK1
  refine wp_seq' fun K2 hK2 => ?_
  refine wp_rega [(999, [(2, _), (3, _)])] (by kernel_rfl) ⟨.inr (subH_same rfl (subH_same rfl subH_nil)), trivial⟩ ?_
  refine aq_r 0 999 rfl (by kernel_rfl) (by kernel_rfl) (by kernel_rfl) (.head _) (by kernel_rfl) (by kernel_rfl) rfl (r_lda (id := 2) (n := 2) rfl rfl rfl ag82) ?_
  refine aq_r 2 999 rfl (by kernel_rfl) (by kernel_rfl) (by kernel_rfl) (.head _) (by kernel_rfl) (by kernel_rfl) rfl (r_lda (id := 3) (n := 6) rfl rfl rfl ag39) ?_
  refine aq_one (i := 1) (by kernel_rfl) rfl fun K3 hK3 => ?_
  refine ol_call rfl rfl cb101 rfl (fun w1 hb1 hs1 hB1 => Calls.mono (match_CheckSegment nm _ _ _ gs _ hn (hS.at hb1 hB1)) ?_)
  rintro e w2 ⟨rfl, hb2⟩
  refine After.below rfl hb1 hs1 hB1 hb2 ?_
  clear hb2 hB1 hs1 hb1 w2 w1
  refine ol_nil (to_k0 (fun _ _ h => h) (hK3 _ _ ⟨.inr (by repeat' first | exact subH_nil | refine subH_same rfl ?_ | (refine subH_blk rfl (by repeat' first | exact sub_nil | refine sub_cons rfl ?_) ?_)), trivial⟩ ?_))
  clear hK3
  refine aq_one (i := 3) (by kernel_rfl) rfl fun K4 hK4 => ?_
  refine ol_call rfl rfl cb54 rfl (fun w1 hb1 hs1 hB1 => Calls.mono (record_Check A _ (hA.at hb1 hB1)) ?_)
  rintro e w2 ⟨rfl, hb2⟩
  refine After.below rfl hb1 hs1 hB1 hb2 ?_
  clear hb2 hB1 hs1 hb1 w2 w1
  refine ol_nil (to_k0 (fun _ _ h => h) (hK4 _ _ ⟨.inr (by repeat' first | exact subH_nil | refine subH_same rfl ?_ | (refine subH_blk rfl (by repeat' first | exact sub_nil | refine sub_cons rfl ?_) ?_)), trivial⟩ ?_))
  clear hK4
  refine aq_one (i := 4) (by kernel_rfl) rfl fun K5 hK5 => ?_
  refine ol_bsN 9 rfl rw144 rfl rfl (fun _ => by kernel_rfl) rfl fun a9 => ?_
  refine ol_nil (to_k0 (fun _ _ h => h) (hK5 _ _ ⟨.inr (by repeat' first | exact subH_nil | refine subH_same rfl ?_ | (refine subH_blk rfl (by repeat' first | exact sub_nil | refine sub_cons rfl ?_) ?_)), trivial⟩ ?_))
  clear hK5
  refine aq_one (i := 5) (by kernel_rfl) rfl fun K6 hK6 => ?_
  refine ol_call rfl rfl cb71 rfl (fun w1 hb1 hs1 hB1 => Calls.mono (cmp_OrE _ _ _ [chkSeg nm gs, chkA A.d] _ (Sat.rd hs1 (E := encI) (xs := [chkSeg nm gs, chkA A.d]) (id := 9) rfl rfl)) ?_)
  rintro e w2 ⟨rfl, hb2⟩
  refine After.below rfl hb1 hs1 hB1 hb2 ?_
  clear hb2 hB1 hs1 hb1 w2 w1
  refine ol_nil (to_k0 (fun _ _ h => h) (hK6 _ _ ⟨.inr (by repeat' first | exact subH_nil | refine subH_same rfl ?_ | (refine subH_blk rfl (by repeat' first | exact sub_nil | refine sub_cons rfl ?_) ?_)), trivial⟩ ?_))
  clear hK6
  refine aq_r 6 999 rfl (by kernel_rfl) (by kernel_rfl) (by kernel_rfl) (.head _) (by kernel_rfl) (by kernel_rfl) rfl (r_assign rfl) ?_
  refine aq_done (by kernel_rfl) ?_
  refine (to_k0 (fun _ _ h => h) (hK2 _ _ _ _ _ ?_))
  clear hK2
  refine hQ.ret (rvs1 (rv_t rfl)) (fun _ _ h => h) fun w hb hs hB hkd => ?_
  exact ⟨rfl, hb⟩
theorem equal_cr_same (a b : Option Addr) (n c1 c2 : Nat) (xs : List CrossR) (w : World) (hx : Rd encCr w.heap.size w a n c1 xs) (hy : Rd encCr w.heap.size w b n c2 xs) :
    Calls Try.prog 49 #[.slice a n c1, .slice b n c2] w fun e w' => e = .returned (.bool true) ∧ Below w.heap.size w w' := by
  have hn := hx.len
  have hfit := hx.fit
  refine enterQ (N := 26) (C := fun _ => True) (H := []) (B := w.heap.size) (args := [_, _]) Try.func49 rfl rfl rfl (Nat.le_refl _) (Sat.nil _ _) fun Q hQ => ?_
  refine wp_seq' fun K1 hK1 => ?_
  refine wp_reg ?_
  refine ol_r (r_assign rfl) rfl ?_
  refine ol_nil (to_k0 (fun _ _ h => h) (hK1 _ _ _ _ _ ?_))
  clear hK1
  refine wp_seq' fun K2 hK2 => ?_
  refine wp_seq' fun K3 hK3 => ?_
  refine wp_reg ?_
  refine ol_r (r_move rfl) rfl ?_
  refine ol_r (r_len rfl sl83) rfl ?_
  refine ol_r (r_move rfl) rfl ?_
  refine ol_r (r_len rfl sl83) rfl ?_
  refine ol_r (r_neq rfl rfl) rfl ?_
  refine ol_nil (to_k0 (fun _ _ h => h) (hK3 _ _ _ _ _ ?_))
  clear hK3
  refine wp_condD rfl (fun hc10 => ?_) (fun hc10 => ?_)
  ·exfalso
   exact hc10 rfl
  ·refine wp_skip' (to_k0 (fun _ _ h => h) (hK2 _ _ _ _ _ ?_))
   clear hK2
   refine wp_seq' fun K4 hK4 => ?_
   refine wp_seq' fun K5 hK5 => ?_
   refine wp_reg ?_
   refine ol_r (r_move rfl) rfl ?_
   refine ol_r (r_len rfl sl83) rfl ?_
   refine ol_r (r_move rfl) rfl ?_
   refine ol_nil (to_k0 (fun _ _ h => h) (hK5 _ _ _ _ _ ?_))
   clear hK5
   refine wp_block' ?_
   apply wp_loopM (σ := Nat) (fun s => s ≤ n) (fun s => [(13, .int .i64 s)]) [(0, _), (1, _), (12, _)] (fun s => []) [] (fun s => n - s) (0)
   ·try dsimp only
    exact Nat.zero_le _
   ·exact (sub_cons rfl sub_nil)
   ·exact (sub_cons rfl (sub_cons rfl (sub_cons rfl sub_nil)))
   ·exact subH_nil
   ·exact subH_nil
   ·rintro k hk
    intro K6 hK6
    refine wp_seq' fun K7 hK7 => ?_
    refine wp_reg ?_
    refine ol_r (r_lss rfl rfl) rfl ?_
    refine ol_nil (to_k0 (fun _ _ h => h) (hK7 _ _ _ _ _ ?_))
    clear hK7
    refine wp_seq' fun K8 hK8 => ?_
    refine wp_condD rfl (fun hc14 => ?_) (fun hc14 => ?_)
    ·refine wp_skip' (to_k0 (fun _ _ h => h) (hK8 _ _ _ _ _ ?_))
     clear hK8
     refine wp_seq' fun K9 hK9 => ?_
     refine wp_block' ?_
     refine wp_seq' fun K10 hK10 => ?_
     refine wp_reg ?_
     refine ol_r (r_move rfl) rfl ?_
     refine ol_r (r_assign rfl) rfl ?_
     refine ol_nil (to_k0 (fun _ _ h => h) (hK10 _ _ _ _ _ ?_))
     clear hK10
     refine wp_seq' fun K11 hK11 => ?_
     refine wp_regq (by kernel_rfl) (by kernel_rfl) ?_
     refine ql_r (r_move rfl) rfl ?_
     refine ql_r (r_move rfl) rfl ?_
     refine ql_ixr hx rfl rfl sl83 (by omega) rfl fun x18 hx18 => ?_
     try simp only [Int.toNat_natCast] at hx18
     refine ql_r (r_ldw rfl (fun w1 hb1 hs1 hB1 => Rd.loads hx ty88 hx18 hb1)) rfl ?_
     refine ql_r (r_move rfl) rfl ?_
     refine ql_r (r_move rfl) rfl ?_
     refine ql_ixr hy rfl rfl sl83 (by omega) rfl fun x22 hx22 => ?_
     try simp only [Int.toNat_natCast] at hx22
     obtain rfl : x18 = x22 := Option.some.inj (hx18.symm.trans hx22)
     refine ql_r (r_ldw rfl (fun w1 hb1 hs1 hB1 => Rd.loads hy ty88 hx22 hb1)) rfl ?_
     refine ql_r (r_nes rfl rfl (by kernel_rfl) (fun w => run_eqs (by kernel_rfl) (by kernel_rfl) w)) rfl ?_
     refine ql_nil (to_k0 (fun _ _ h => h) (hK11 _ _ _ _ _ ?_))
     clear hK11
     refine wp_condNB rfl (fun hc24 => ?_) (fun hc24 => ?_)
     ·refine wp_seq' fun K12 hK12 => ?_
      refine wp_reg ?_
      refine ol_r (r_assign rfl) rfl ?_
      refine ol_nil (to_k0 (fun _ _ h => h) (hK12 _ _ _ _ _ ?_))
      clear hK12
      refine hQ.ret (rvs1 (rv_t rfl)) (fun _ _ h => h) fun w hb hs hB hkd => ?_
      first
        | (exfalso; simp [eqs, eqV] at hc24; done)
     ·refine wp_skip' (to_k0 (fun _ _ h => h) (hK9 _ _ _ _ _ ?_))
      clear hK9
      refine wp_reg ?_
      refine ol_r (r_add rfl rfl (by omega)) rfl ?_
      refine ol_r (r_move rfl) rfl ?_
      refine ol_nil (to_k0 (fun _ _ h => h) (hK6 (k + 1) _ _ ?_ ?_ (sub_cons rfl sub_nil) (sub_cons rfl (sub_cons rfl (sub_cons rfl sub_nil))) (by exact subH_nil) subH_nil))
      ·try dsimp only
       omega
      ·try dsimp only
       omega
    ·refine wp_exit' (to_k0 (fun _ _ h => h) (hK4 _ _ _ _ _ ?_))
     clear hK4
     refine wp_seq' fun K13 hK13 => ?_
     refine wp_reg ?_
     refine ol_r (r_assign rfl) rfl ?_
     refine ol_nil (to_k0 (fun _ _ h => h) (hK13 _ _ _ _ _ ?_))
     clear hK13
     refine hQ.ret (rvs1 (rv_t rfl)) (fun _ _ h => h) fun w hb hs hB hkd => ?_
     first
       | exact ⟨rfl, hb⟩
def toldG : List GateR := [⟨0, 10, 0, -10⟩, ⟨100, 10, 100, -10⟩]
def toldS : List SmpR := [⟨0, -5, 0, 0, -1, -1, -1⟩, ⟨10, 5, 0, 0, -1, -1, -1⟩]
def toldA (a : Option Addr) (c : Nat) : ActV := ⟨⟨#[97]⟩, 1, 0, a, 2, c, none, 0, 0, none, 0, 0, toldS, [], []⟩
def toldD : ActD := ⟨⟨#[97]⟩, 1, 0, toldS, [], []⟩
theorem toldA_ok {C : Nat} {w : World} {a : Option Addr} {c : Nat} (h : Rd encSmp C w a 2 c toldS) : (toldA a c).Ok C w :=
  { s := h, l := Rd.nil, t := Rd.nil, nm := by show 1 ≤ _; decide, lm := fun x hx => by simp [toldA] at hx, tm := fun x hx => by simp [toldA] at hx,
    lo := fun x hx => by simp [toldA, toldS] at hx; rcases hx with rfl | rfl <;> decide }
end Go.Proofs.Ytjflbnbofedlkaa

/-
  Numbers of any kind: sums, products, quotients, masks and shifts whose value is told.
-/



namespace Go.Proofs.Ytjflbnbofedlkaa
namespace Hx
open Go Go.RowKit
set_option linter.unusedVariables false
set_option linter.unusedSimpArgs false
section
variable {P : Program} {N : Fr} {B : Nat} {w0 : World} {al : AL} {H : HL} {ty : TypeId} {x y : Operand} {t t' : TypeId} {m n : Int} {k : IntKind}
theorem r_addg (v : Int) (hx : ev al x = some (.int k m)) (hy : ev al y = some (.int k n)) (hw : k.wrap (m + n) = v) : Runs P N B w0 (.binOp .add t x y t') ty al H (.int k v) := fun a w hst => by
  simp [execOp, hst.regs.eval hx, hst.regs.eval hy, eqGuard_add, binOp_add, Op.intArith, hw]
theorem r_subg (v : Int) (hx : ev al x = some (.int k m)) (hy : ev al y = some (.int k n)) (hw : k.wrap (m - n) = v) : Runs P N B w0 (.binOp .sub t x y t') ty al H (.int k v) := fun a w hst => by
  simp [execOp, hst.regs.eval hx, hst.regs.eval hy, eqGuard_sub, binOp_sub, Op.intArith, hw]
theorem r_mulg (v : Int) (hx : ev al x = some (.int k m)) (hy : ev al y = some (.int k n)) (hw : k.wrap (m * n) = v) : Runs P N B w0 (.binOp .mul t x y t') ty al H (.int k v) := fun a w hst => by
  simp [execOp, hst.regs.eval hx, hst.regs.eval hy, eqGuard_mul, binOp_mul, Op.intArith, hw]
theorem r_quog (hx : ev al x = some (.int k m)) (hy : ev al y = some (.int k n)) (h0 : 0 ≤ m) (h1 : 0 < n) (hw : k.wrap (m / n) = m / n) : Runs P N B w0 (.binOp .quo t x y t') ty al H (.int k (m / n)) := fun a w hst => by
  have h3 : m.tdiv n = m / n := Int.tdiv_eq_ediv_of_nonneg h0
  simp [execOp, hst.regs.eval hx, hst.regs.eval hy, eqGuard_quo, binOp_quo, Op.intDiv, show n ≠ 0 by omega, h3, hw]
theorem r_remg (hx : ev al x = some (.int k m)) (hy : ev al y = some (.int k n)) (h0 : 0 ≤ m) (h1 : 0 < n) (hw : k.wrap (m % n) = m % n) : Runs P N B w0 (.binOp .rem t x y t') ty al H (.int k (m % n)) := fun a w hst => by
  have h3 : m.tmod n = m % n := Int.tmod_eq_emod_of_nonneg h0
  simp [execOp, hst.regs.eval hx, hst.regs.eval hy, eqGuard_rem, binOp_rem, Op.intDiv, show n ≠ 0 by omega, h3, hw]
theorem mask32 {m : Int} (h0 : 0 ≤ m) (h1 : m < 18446744073709551616) : bits .and .u64 m 4294967295 = m % 4294967296 := by
  obtain ⟨a, rfl⟩ := Int.eq_ofNat_of_zero_le h0
  have h := bits_and_u64_nat a 4294967295 (by omega) (by omega)
  have e : a &&& 4294967295 = a % 4294967296 := Nat.and_two_pow_sub_one_eq_mod a 32
  rw [e] at h
  exact h
theorem r_and32 (v : Int) (hx : ev al x = some (.int .u64 m)) (hy : ev al y = some (.int .u64 4294967295)) (h0 : 0 ≤ m) (h1 : m < 18446744073709551616) (hv : m % 4294967296 = v) : Runs P N B w0 (.binOp .and t x y t') ty al H (.int .u64 v) := fun a w hst => by
  simp only [execOp, hst.regs.eval hx, hst.regs.eval hy, eqGuard_and, binOp_and, intBits_and, mask32 h0 h1, hv, Sem.run_bind, Sem.run_pure, Result.andThen_ok]
theorem r_shr32 (v : Int) (hx : ev al x = some (.int .u64 m)) (hy : ev al y = some (.int .u64 32)) (h0 : 0 ≤ m) (hv : m / 4294967296 = v) : Runs P N B w0 (.binOp .shr t x y t') ty al H (.int .u64 v) := fun a w hst => by
  have h2 : m.fdiv (2 ^ 32) = m / 4294967296 := Int.fdiv_eq_ediv_of_nonneg m (by decide)
  simp [execOp, hst.regs.eval hx, hst.regs.eval hy, binOp_shr, Op.shift, eqGuard_shr]
  have h3 : min 32 IntKind.u64.bits = 32 := rfl
  rw [h3, h2, hv]
theorem r_convg {src dst : TypeId} {k1 k2 : IntKind} (v : Int) (hx : ev al x = some (.int k1 m)) (hs : (P.underlying src).isSome = true) (hd : P.underlying dst = some (.int k2)) (hw : k2.wrap m = v) :
    Runs P N B w0 (.convert src dst x) ty al H (.int k2 v) := fun a w hst => by
  obtain ⟨d1, h1⟩ := Option.isSome_iff_exists.1 hs
  simp only [execOp, hst.regs.eval hx, convert, Sem.run_bind, run_underlying h1, run_underlying hd, Result.andThen_ok, Conv.intToInt, Sem.run_pure]
  cases d1 <;> simp [hw]
end
/-- A literal of some elements of any size. -/
theorem ol_bsG {P : Program} {N : Fr} {B : Nat} {w0 : World} {al : AL} {H : HL} {ops rest : List Oper} {Q : Exit → Act → World → Prop} {ty : TypeId} {pos : String} {after : Array Edge} {d : Nat} {t e : TypeId} {bytes len size : Nat} {parts : List (Nat × Operand)} {pv : List (Nat × Value)} (cs : List Value) (id : Nat) (hp : evp al parts = some pv) (hT : RowT P t e size bytes) (hl : Nat.beq cs.length (len * size) = true) (hsm : Nat.ble len 9223372036854775807 = true)
    (hrun : ∀ w, (Instr.buildSlice t len pv.toArray).run P w = .ok (.slice (some ⟨w.heap.size, 0, none⟩) len len) (w.alloc (.cells cs.toArray e))) (hd : Nat.blt d N.n = true)
    (k : ∀ a', OL P N B w0 ops rest Q ((d, .slice a' len len) :: al) ((id, .row a' len len cs e size) :: H)) :
    OL P N B w0 ops ({ dst := some d, op := .buildSlice t len parts.toArray, type := ty, pos, after, guard := none } :: rest) Q al H := by
  intro a w hst
  refine wpList_plain rfl fun K hK => ?_
  have hl' : cs.length = len * size := Nat.eq_of_beq_eq_true hl
  have hsm' : len ≤ 9223372036854775807 := by simpa using hsm
  have hev := evp_eval hst.regs hp
  have hrun' : (execOp a.eval { dst := some d, op := .buildSlice t len parts.toArray, type := ty, pos, after, guard := none }).run P w = .ok (.value (.slice (some ⟨w.heap.size, 0, none⟩) len len)) (w.alloc (.cells cs.toArray e)) := by
    simp only [execOp, List.map_toArray, hev, Sem.run_bind, hrun w, Result.andThen_ok, Sem.run_pure]
  unfold Oper.wp
  rw [hrun', Oper.upon_value]
  refine hK _ _ (k _ _ _ (hst.step (hst.regs.put (by simpa using hd) _) (hst.below.alloc hst.base _) ?_ (by have := hst.base; simp; omega) (Kd.alloc w _)))
  refine hst.sat.new id (e := .row (some ⟨w.heap.size, 0, none⟩) len len cs e size) ?_ (fun k hk => Below.heap_alloc w _ k hk) (fun b hb => by simp [Ent.own] at hb; omega)
  exact ⟨by simp [hl'], .inr ⟨w.heap.size, len, cs.toArray, rfl, hst.base, heap_alloc_new w _, Nat.le_refl _, by unfold maxLen; omega, by simp [hl'], by rw [List.take_of_length_le (by simp [hl'])]⟩⟩
end Hx
end Go.Proofs.Ytjflbnbofedlkaa

/-
  Quotients that are rounded up, and splits: plain part.
-/

namespace Go.Proofs.Ytjflbnbofedlkaa
open Go Go.RowKit Hx
set_option linter.unusedVariables false
set_option linter.unusedSimpArgs false
/-- A quotient, rounded up. -/
def upD (x d : Int) : Int := (x + d - 1) / d
structure SplitR where
  way : Int
  at_ : Int
section
variable (ss : List SmpR) (way : Int)
noncomputable def spN (k : Nat) : Nat := (wayN ss k / way).toNat
noncomputable def splJ (k j : Nat) : SplitR := match ss[k]?, ss[k + 1]? with
  | some p, some q => ⟨((j : Int) + 1) * way, 1000 * p.at_ + upD ((((j : Int) + 1) * way - wayN ss k) * (1000 * (q.at_ - p.at_))) (wayN ss (k + 1) - wayN ss k)⟩
  | _, _ => ⟨0, 0⟩
noncomputable def splK : Nat → List SplitR
  | 0 => []
  | k + 1 => splK k ++ (List.range' (spN ss way k) (spN ss way (k + 1) - spN ss way k)).map (splJ ss way k)
noncomputable def midK (k m : Nat) : List SplitR := splK ss way k ++ (List.range' (spN ss way k) m).map (splJ ss way k)
variable {ss way}
variable {st : Int} (hok : SmpOk st ss) (hw : 1 ≤ way)
include hok hw
end
def SpOk (way : Int) (l : List SplitR) (T : Int) : Prop := ∀ (i : Nat) (x : SplitR), l[i]? = some x → x.way = ((i : Int) + 1) * way ∧ 0 ≤ x.at_ ∧ x.at_ ≤ T ∧ ∀ y, 1 ≤ i → l[i - 1]? = some y → y.at_ ≤ x.at_
theorem SpOk.le {way T T' : Int} {l : List SplitR} (h : SpOk way l T) (hT : T ≤ T') : SpOk way l T' := fun i x hx => by
  obtain ⟨h1, h2, h3, h4⟩ := h i x hx
  exact ⟨h1, h2, Int.le_trans h3 hT, h4⟩
noncomputable def splitsR (a : ActD) (way : Int) : List SplitR × Int :=
  if chkA a ≠ 0 then ([], chkA a) else if ¬(1 ≤ way ∧ way ≤ 1000000000) then ([], 9) else if 10000 < wayN a.ss (a.ss.length - 1) / way then ([], 3) else (splK a.ss way (a.ss.length - 1), 0)
end Go.Proofs.Ytjflbnbofedlkaa

/-
  slices.IndexFunc and ContainsFunc, at any function that only reads.
-/


namespace Go.Proofs.Ytjflbnbofedlkaa
open Go Go.RowKit Hx
set_option linter.unusedVariables false
set_option linter.unusedSimpArgs false
/-- The first place at which p holds, or -1. -/
def idxP {α : Type} (p : α → Bool) (xs : List α) : Int := match xs.findIdx? p with | some i => i | none => -1
theorem idxP_at {α : Type} {p : α → Bool} {xs : List α} {k : Nat} {x : α} (h : xs[k]? = some x) (hp : p x = true) (h2 : ∀ y ∈ xs.take k, p y = false) : idxP p xs = k := by
  have : xs.findIdx? p = some k := by
    rw [List.findIdx?_eq_some_iff_getElem]
    obtain ⟨hk, rfl⟩ := List.getElem?_eq_some_iff.1 h
    refine ⟨hk, hp, fun j hj => ?_⟩
    have : xs[j]'(by omega) ∈ xs.take k := by
      rw [List.mem_take_iff_getElem]
      exact ⟨j, by omega, rfl⟩
    simp [h2 _ this]
  simp [idxP, this]
theorem idxP_no {α : Type} {p : α → Bool} {xs : List α} (h2 : ∀ y ∈ xs, p y = false) : idxP p xs = -1 := by
  have : xs.findIdx? p = none := by
    rw [List.findIdx?_eq_none_iff]
    intro y hy
    simp [h2 y hy]
  simp [idxP, this]
end Go.Proofs.Ytjflbnbofedlkaa

/-
  Root, squares, lengths of steps: program and reference.
-/


namespace Go.Proofs.Ytjflbnbofedlkaa
open Go Go.RowKit Hx
set_option linter.unusedVariables false
set_option linter.unusedSimpArgs false
set_option maxRecDepth 8000
/-- What Step returns. -/
noncomputable def stepD (p q : SmpR) : Int × Int := open Classical in if PlaceOk p ∧ PlaceOk q then (lenD p q, 0) else (0, 9)
end Go.Proofs.Ytjflbnbofedlkaa
