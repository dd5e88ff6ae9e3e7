/-
  TrackJoinMatchesSpec: for all pairs of activities, Join returns what is specified.
-/
import Derived.Test.YtogcclagmobkiaaJoin
import Derived.Test.YtogcclagmobkiaaJoinR
namespace Go.Proofs.Ytogcclagmobkiaa
open Go Go.RowKit Hx
set_option linter.unusedVariables false
set_option linter.unusedSimpArgs false
set_option maxRecDepth 8000
theorem law_join (A D : ActV) (w : World) (hA : A.Ok w.heap.size w) (hD : D.Ok w.heap.size w) :
    Calls Try.prog 7 #[.agg #[.string A.name, .int .i64 A.sport, .int .i64 A.start, .slice A.sa A.sn A.sc, .slice A.la A.ln A.lc, .slice A.ta A.tn A.tc], .agg #[.string D.name, .int .i64 D.sport, .int .i64 D.start, .slice D.sa D.sn D.sc, .slice D.la D.ln D.lc, .slice D.ta D.tn D.tc]] w fun e w' => e = .returned (.bool true) ∧ Below w.heap.size w w' := by
  refine enterQ (N := 32) (C := fun _ => True) (H := []) (B := w.heap.size) (args := [_, _]) Try.func7 rfl rfl rfl (Nat.le_refl _) (Sat.nil _ _) fun Q hQ => ?_
  refine wp_seq' fun K1 hK1 => ?_
  refine wp_reg ?_
  refine ol_box 2 rfl rfl rfl fun b2 => ?_
  refine ol_box 3 rfl rfl rfl fun b3 => ?_
  refine ol_r (r_assign rfl) rfl ?_
  refine ol_nil (to_k0 (fun _ _ h => h) (hK1 _ _ _ _ _ ?_))
  clear hK1
  refine wp_seq' fun K2 hK2 => ?_
  refine wp_reg ?_
  refine ol_r (r_lda (id := 2) (n := 6) rfl rfl rfl ag26) rfl ?_
  refine ol_r (r_lda (id := 3) (n := 6) rfl rfl rfl ag26) rfl ?_
  refine ol_call rfl rfl cb25 rfl (fun w1 hb1 hs1 hB1 => ?_)
  refine Calls.mono (track_Join A D _ (hA.at hb1 hB1) (hD.at hb1 hB1)) ?_
  rintro e w2 ⟨⟨sa1, sn1, sc1, la1, ln1, lc1, ta1, tn1, tc1, rfl, hs2⟩, hb2⟩
  refine After.more rfl hb1 hs1 hB1 hb2 (hs2.three 1001 1002 1003 1011 1012 1013 (by decide) (by decide) (by decide) rfl rfl rfl (Ent.le_refl _) (Ent.le_refl _) (Ent.le_refl _)) ?_
  clear hs2 hb2 hB1 hs1 hb1 w2 w1
  refine ol_r (r_move rfl) rfl ?_
  refine ol_r (r_extract rfl rfl) rfl ?_
  refine ol_r (r_extract rfl rfl) rfl ?_
  refine ol_alloc 5 z26 rfl fun b5 => ?_
  refine ol_store (id := 5) rfl rfl rfl rfl sz26 rfl rfl (by first | decide | exact Nat.zero_lt_succ _ | simp) ?_
  refine ol_r (r_assign rfl) rfl ?_
  refine ol_nil (to_k0 (fun _ _ h => h) (hK2 _ _ _ _ _ ?_))
  clear hK2
  refine wp_seq' fun K3 hK3 => ?_
  refine wp_reg ?_
  refine ol_r (r_lda (id := 2) (n := 6) rfl rfl rfl ag26) rfl ?_
  refine ol_r (r_lda (id := 3) (n := 6) rfl rfl rfl ag26) rfl ?_
  refine ol_call rfl rfl cb26 rfl (fun w1 hb1 hs1 hB1 => ?_)
  refine Calls.mono (ref3_Join A D _ (hA.at hb1 hB1) (hD.at hb1 hB1)) ?_
  rintro e w2 ⟨⟨sa2, sn2, sc2, la2, ln2, lc2, ta2, tn2, tc2, rfl, hs2⟩, hb2⟩
  refine After.more rfl hb1 hs1 hB1 hb2 (hs2.three 1001 1002 1003 1021 1022 1023 (by decide) (by decide) (by decide) rfl rfl rfl (Ent.le_refl _) (Ent.le_refl _) (Ent.le_refl _)) ?_
  clear hs2 hb2 hB1 hs1 hb1 w2 w1
  refine ol_r (r_move rfl) rfl ?_
  refine ol_r (r_extract rfl rfl) rfl ?_
  refine ol_r (r_extract rfl rfl) rfl ?_
  refine ol_alloc 7 z26 rfl fun b7 => ?_
  refine ol_store (id := 7) rfl rfl rfl rfl sz26 rfl rfl (by first | decide | exact Nat.zero_lt_succ _ | simp) ?_
  refine ol_r (r_assign rfl) rfl ?_
  refine ol_nil (to_k0 (fun _ _ h => h) (hK3 _ _ _ _ _ ?_))
  clear hK3
  refine wp_seq' fun K4 hK4 => ?_
  refine wp_reg ?_
  refine ol_r (r_lda (id := 5) (n := 6) rfl rfl rfl ag26) rfl ?_
  refine ol_r (r_lda (id := 7) (n := 6) rfl rfl rfl ag26) rfl ?_
  refine ol_call rfl rfl cb15 rfl (fun w1 hb1 hs1 hB1 => Calls.mono (record_Same (joinR A.d D.d).1 _ _ _ _ _ _ _ _ _ _ _ _ _ _ _ _ _ _ _ (Sat.rd hs1 (id := 1011) rfl rfl) (Sat.rd hs1 (id := 1012) rfl rfl) (Sat.rd hs1 (id := 1013) rfl rfl) (Sat.rd hs1 (id := 1021) rfl rfl) (Sat.rd hs1 (id := 1022) rfl rfl) (Sat.rd hs1 (id := 1023) rfl rfl)) ?_)
  rintro e w2 ⟨rfl, hb2⟩
  refine After.below rfl hb1 hs1 hB1 hb2 ?_
  clear hb2 hB1 hs1 hb1 w2 w1
  refine ol_r (r_move rfl) rfl ?_
  refine ol_split (d := 24) rfl (fun hs24 => ?_) (fun hs24 => ?_)
  ·have phs24 := hs24; try simp only [decide_eq_true_eq, decide_eq_false_iff_not, Bool.not_eq_true', Bool.not_eq_false', Bool.not_true, Bool.not_false] at phs24
   refine ol_g rfl rfl hs24 ?_
   refine ol_r (r_move rfl) rfl ?_
   refine ol_g rfl rfl hs24 ?_
   refine ol_r (r_move rfl) rfl ?_
   refine ol_g rfl rfl hs24 ?_
   refine ol_r (r_eql rfl rfl) rfl ?_
   refine ol_r (r_pickT rfl hs24 rfl) rfl ?_
   refine ol_r (r_move rfl) rfl ?_
   refine ol_split (d := 29) rfl (fun hs29 => ?_) (fun hs29 => ?_)
   ·have phs29 := hs29; try simp only [decide_eq_true_eq, decide_eq_false_iff_not, Bool.not_eq_true', Bool.not_eq_false', Bool.not_true, Bool.not_false] at phs29
    refine ol_g rfl rfl hs29 ?_
    refine ol_call rfl rfl cb16 rfl (fun w1 hb1 hs1 hB1 => Calls.mono (law3_told _) ?_)
    rintro e w2 ⟨rfl, hb2⟩
    refine After.below rfl hb1 hs1 hB1 hb2 ?_
    clear hb2 hB1 hs1 hb1 w2 w1
    refine ol_r (r_pickT rfl hs29 rfl) rfl ?_
    refine ol_r (r_assign rfl) rfl ?_
    refine ol_nil (to_k0 (fun _ _ h => h) (hK4 _ _ _ _ _ ?_))
    clear hK4
    refine hQ.ret (rvs1 (rv_t rfl)) (fun _ _ h => h) fun w hb hs hB hkd => ?_
    first
      | exact ⟨rfl, hb⟩
      | (exfalso; exact phs29 trivial)
      | (exfalso; cases phs24; done)
   ·have phs29 := hs29; try simp only [decide_eq_true_eq, decide_eq_false_iff_not, Bool.not_eq_true', Bool.not_eq_false', Bool.not_true, Bool.not_false] at phs29
    refine ol_s rfl rfl hs29 rfl ?_
    refine ol_r (r_pickF rfl hs29 rfl) rfl ?_
    refine ol_r (r_assign rfl) rfl ?_
    refine ol_nil (to_k0 (fun _ _ h => h) (hK4 _ _ _ _ _ ?_))
    clear hK4
    refine hQ.ret (rvs1 (rv_t rfl)) (fun _ _ h => h) fun w hb hs hB hkd => ?_
    first
      | exact ⟨rfl, hb⟩
      | (exfalso; exact phs29 trivial)
      | (exfalso; cases phs24; done)
  ·have phs24 := hs24; try simp only [decide_eq_true_eq, decide_eq_false_iff_not, Bool.not_eq_true', Bool.not_eq_false', Bool.not_true, Bool.not_false] at phs24
   refine ol_s rfl rfl hs24 rfl ?_
   refine ol_s rfl rfl hs24 rfl ?_
   refine ol_s rfl rfl hs24 rfl ?_
   refine ol_r (r_pickF rfl hs24 rfl) rfl ?_
   refine ol_r (r_move rfl) rfl ?_
   refine ol_s rfl rfl rfl rfl ?_
   refine ol_r (r_pickF rfl rfl rfl) rfl ?_
   refine ol_r (r_assign rfl) rfl ?_
   refine ol_nil (to_k0 (fun _ _ h => h) (hK4 _ _ _ _ _ ?_))
   clear hK4
   refine hQ.ret (rvs1 (rv_t rfl)) (fun _ _ h => h) fun w hb hs hB hkd => ?_
   first
     | exact ⟨rfl, hb⟩
     | (exfalso; exact phs29 trivial)
     | (exfalso; cases phs24; done)
end Go.Proofs.Ytogcclagmobkiaa
