/-
  TrackMendsMatchSpec: for all activities, Level and Fill return what is specified.
-/
import Derived.Test.YtogcclagmobkiaaLevel
import Derived.Test.YtogcclagmobkiaaFillR
namespace Go.Proofs.Ytogcclagmobkiaa
open Go Go.RowKit Hx
set_option linter.unusedVariables false
set_option linter.unusedSimpArgs false
set_option maxRecDepth 8000
theorem law_mend (A : ActV) (width gap : Int) (w : World) (hA : A.Ok w.heap.size w) :
    Calls Try.prog 9 #[.agg #[.string A.name, .int .i64 A.sport, .int .i64 A.start, .slice A.sa A.sn A.sc, .slice A.la A.ln A.lc, .slice A.ta A.tn A.tc], .int .i64 width, .int .i64 gap] w fun e w' => e = .returned (.bool true) ∧ Below w.heap.size w w' := by
  refine enterQ (N := 60) (C := fun _ => True) (H := []) (B := w.heap.size) (args := [_, _, _]) Try.func9 rfl rfl rfl (Nat.le_refl _) (Sat.nil _ _) fun Q hQ => ?_
  refine wp_seq' fun K1 hK1 => ?_
  refine wp_reg ?_
  refine ol_box 3 rfl rfl rfl fun b3 => ?_
  refine ol_r (r_assign rfl) rfl ?_
  refine ol_nil (to_k0 (fun _ _ h => h) (hK1 _ _ _ _ _ ?_))
  clear hK1
  refine wp_seq' fun K2 hK2 => ?_
  refine wp_reg ?_
  refine ol_r (r_lda (id := 3) (n := 6) rfl rfl rfl ag26) rfl ?_
  refine ol_r (r_move rfl) rfl ?_
  refine ol_call rfl rfl cb34 rfl (fun w1 hb1 hs1 hB1 => ?_)
  refine Calls.mono (track_Level A width _ (hA.at hb1 hB1)) ?_
  rintro e w2 ⟨⟨sa1, sn1, sc1, la1, ln1, lc1, ta1, tn1, tc1, rfl, hs2⟩, hb2⟩
  refine After.more rfl hb1 hs1 hB1 hb2 (hs2.three 1001 1002 1003 1011 1012 1013 (by decide) (by decide) (by decide) rfl rfl rfl (Ent.le_refl _) (Ent.le_refl _) (Ent.le_refl _)) ?_
  clear hs2 hb2 hB1 hs1 hb1 w2 w1
  refine ol_r (r_move rfl) rfl ?_
  refine ol_r (r_extract rfl rfl) rfl ?_
  refine ol_r (r_extract rfl rfl) rfl ?_
  refine ol_alloc 7 z26 rfl fun b7 => ?_
  refine ol_store (id := 7) rfl rfl rfl rfl sz26 rfl rfl (by first | decide | exact Nat.zero_lt_succ _ | simp) ?_
  refine ol_r (r_assign rfl) rfl ?_
  refine ol_nil (to_k0 (fun _ _ h => h) (hK2 _ _ _ _ _ ?_))
  clear hK2
  refine wp_seq' fun K3 hK3 => ?_
  refine wp_reg ?_
  refine ol_r (r_lda (id := 3) (n := 6) rfl rfl rfl ag26) rfl ?_
  refine ol_r (r_move rfl) rfl ?_
  refine ol_call rfl rfl cb35 rfl (fun w1 hb1 hs1 hB1 => ?_)
  refine Calls.mono (ref3_Level A width _ (hA.at hb1 hB1)) ?_
  rintro e w2 ⟨⟨sa2, sn2, sc2, la2, ln2, lc2, ta2, tn2, tc2, rfl, hs2⟩, hb2⟩
  refine After.more rfl hb1 hs1 hB1 hb2 (hs2.three 1001 1002 1003 1021 1022 1023 (by decide) (by decide) (by decide) rfl rfl rfl (Ent.le_refl _) (Ent.le_refl _) (Ent.le_refl _)) ?_
  clear hs2 hb2 hB1 hs1 hb1 w2 w1
  refine ol_r (r_move rfl) rfl ?_
  refine ol_r (r_extract rfl rfl) rfl ?_
  refine ol_r (r_extract rfl rfl) rfl ?_
  refine ol_alloc 9 z26 rfl fun b9 => ?_
  refine ol_store (id := 9) rfl rfl rfl rfl sz26 rfl rfl (by first | decide | exact Nat.zero_lt_succ _ | simp) ?_
  refine ol_r (r_assign rfl) rfl ?_
  refine ol_nil (to_k0 (fun _ _ h => h) (hK3 _ _ _ _ _ ?_))
  clear hK3
  refine wp_seq' fun K4 hK4 => ?_
  refine wp_reg ?_
  refine ol_r (r_lda (id := 3) (n := 6) rfl rfl rfl ag26) rfl ?_
  refine ol_r (r_move rfl) rfl ?_
  refine ol_call rfl rfl cb36 rfl (fun w1 hb1 hs1 hB1 => ?_)
  refine Calls.mono (track_Fill A gap _ (hA.at hb1 hB1)) ?_
  rintro e w2 ⟨⟨sa3, sn3, sc3, la3, ln3, lc3, ta3, tn3, tc3, rfl, hs2⟩, hb2⟩
  refine After.more rfl hb1 hs1 hB1 hb2 (hs2.three 1001 1002 1003 1031 1032 1033 (by decide) (by decide) (by decide) rfl rfl rfl (Ent.le_refl _) (Ent.le_refl _) (Ent.le_refl _)) ?_
  clear hs2 hb2 hB1 hs1 hb1 w2 w1
  refine ol_r (r_move rfl) rfl ?_
  refine ol_r (r_extract rfl rfl) rfl ?_
  refine ol_r (r_extract rfl rfl) rfl ?_
  refine ol_alloc 11 z26 rfl fun b11 => ?_
  refine ol_store (id := 11) rfl rfl rfl rfl sz26 rfl rfl (by first | decide | exact Nat.zero_lt_succ _ | simp) ?_
  refine ol_r (r_assign rfl) rfl ?_
  refine ol_nil (to_k0 (fun _ _ h => h) (hK4 _ _ _ _ _ ?_))
  clear hK4
  refine wp_seq' fun K5 hK5 => ?_
  refine wp_reg ?_
  refine ol_r (r_lda (id := 3) (n := 6) rfl rfl rfl ag26) rfl ?_
  refine ol_r (r_move rfl) rfl ?_
  refine ol_call rfl rfl cb37 rfl (fun w1 hb1 hs1 hB1 => ?_)
  refine Calls.mono (ref3_Fill A gap _ (hA.at hb1 hB1)) ?_
  rintro e w2 ⟨⟨sa4, sn4, sc4, la4, ln4, lc4, ta4, tn4, tc4, rfl, hs2⟩, hb2⟩
  refine After.more rfl hb1 hs1 hB1 hb2 (hs2.three 1001 1002 1003 1041 1042 1043 (by decide) (by decide) (by decide) rfl rfl rfl (Ent.le_refl _) (Ent.le_refl _) (Ent.le_refl _)) ?_
  clear hs2 hb2 hB1 hs1 hb1 w2 w1
  refine ol_r (r_move rfl) rfl ?_
  refine ol_r (r_extract rfl rfl) rfl ?_
  refine ol_r (r_extract rfl rfl) rfl ?_
  refine ol_alloc 13 z26 rfl fun b13 => ?_
  refine ol_store (id := 13) rfl rfl rfl rfl sz26 rfl rfl (by first | decide | exact Nat.zero_lt_succ _ | simp) ?_
  refine ol_r (r_assign rfl) rfl ?_
  refine ol_nil (to_k0 (fun _ _ h => h) (hK5 _ _ _ _ _ ?_))
  clear hK5
  refine wp_seq' fun K6 hK6 => ?_
  refine wp_reg ?_
  refine ol_r (r_lda (id := 7) (n := 6) rfl rfl rfl ag26) rfl ?_
  refine ol_r (r_lda (id := 9) (n := 6) rfl rfl rfl ag26) rfl ?_
  refine ol_call rfl rfl cb15 rfl (fun w1 hb1 hs1 hB1 => Calls.mono (record_Same (levelR A.d width).1 _ _ _ _ _ _ _ _ _ _ _ _ _ _ _ _ _ _ _ (Sat.rd hs1 (id := 1011) rfl rfl) (Sat.rd hs1 (id := 1012) rfl rfl) (Sat.rd hs1 (id := 1013) rfl rfl) (Sat.rd hs1 (id := 1021) rfl rfl) (Sat.rd hs1 (id := 1022) rfl rfl) (Sat.rd hs1 (id := 1023) rfl rfl)) ?_)
  rintro e w2 ⟨rfl, hb2⟩
  refine After.below rfl hb1 hs1 hB1 hb2 ?_
  clear hb2 hB1 hs1 hb1 w2 w1
  refine ol_r (r_move rfl) rfl ?_
  refine ol_split (d := 42) rfl (fun hs42 => ?_) (fun hs42 => ?_)
  ·have phs42 := hs42; try simp only [decide_eq_true_eq, decide_eq_false_iff_not, Bool.not_eq_true', Bool.not_eq_false', Bool.not_true, Bool.not_false] at phs42
   refine ol_g rfl rfl hs42 ?_
   refine ol_r (r_move rfl) rfl ?_
   refine ol_g rfl rfl hs42 ?_
   refine ol_r (r_move rfl) rfl ?_
   refine ol_g rfl rfl hs42 ?_
   refine ol_r (r_eql rfl rfl) rfl ?_
   refine ol_r (r_pickT rfl hs42 rfl) rfl ?_
   refine ol_r (r_move rfl) rfl ?_
   refine ol_split (d := 47) rfl (fun hs47 => ?_) (fun hs47 => ?_)
   ·have phs47 := hs47; try simp only [decide_eq_true_eq, decide_eq_false_iff_not, Bool.not_eq_true', Bool.not_eq_false', Bool.not_true, Bool.not_false] at phs47
    refine ol_g rfl rfl hs47 ?_
    refine ol_r (r_lda (id := 11) (n := 6) rfl rfl rfl ag26) rfl ?_
    refine ol_g rfl rfl hs47 ?_
    refine ol_r (r_lda (id := 13) (n := 6) rfl rfl rfl ag26) rfl ?_
    refine ol_g rfl rfl hs47 ?_
    refine ol_call rfl rfl cb15 rfl (fun w1 hb1 hs1 hB1 => Calls.mono (record_Same (fillR A.d gap).1 _ _ _ _ _ _ _ _ _ _ _ _ _ _ _ _ _ _ _ (Sat.rd hs1 (id := 1031) rfl rfl) (Sat.rd hs1 (id := 1032) rfl rfl) (Sat.rd hs1 (id := 1033) rfl rfl) (Sat.rd hs1 (id := 1041) rfl rfl) (Sat.rd hs1 (id := 1042) rfl rfl) (Sat.rd hs1 (id := 1043) rfl rfl)) ?_)
    rintro e w2 ⟨rfl, hb2⟩
    refine After.below rfl hb1 hs1 hB1 hb2 ?_
    clear hb2 hB1 hs1 hb1 w2 w1
    refine ol_r (r_pickT rfl hs47 rfl) rfl ?_
    refine ol_r (r_move rfl) rfl ?_
    refine ol_split (d := 52) rfl (fun hs52 => ?_) (fun hs52 => ?_)
    ·have phs52 := hs52; try simp only [decide_eq_true_eq, decide_eq_false_iff_not, Bool.not_eq_true', Bool.not_eq_false', Bool.not_true, Bool.not_false] at phs52
     refine ol_g rfl rfl hs52 ?_
     refine ol_r (r_move rfl) rfl ?_
     refine ol_g rfl rfl hs52 ?_
     refine ol_r (r_move rfl) rfl ?_
     refine ol_g rfl rfl hs52 ?_
     refine ol_r (r_eql rfl rfl) rfl ?_
     refine ol_r (r_pickT rfl hs52 rfl) rfl ?_
     refine ol_r (r_move rfl) rfl ?_
     refine ol_split (d := 57) rfl (fun hs57 => ?_) (fun hs57 => ?_)
     ·have phs57 := hs57; try simp only [decide_eq_true_eq, decide_eq_false_iff_not, Bool.not_eq_true', Bool.not_eq_false', Bool.not_true, Bool.not_false] at phs57
      refine ol_g rfl rfl hs57 ?_
      refine ol_call rfl rfl cb16 rfl (fun w1 hb1 hs1 hB1 => Calls.mono (law3_told _) ?_)
      rintro e w2 ⟨rfl, hb2⟩
      refine After.below rfl hb1 hs1 hB1 hb2 ?_
      clear hb2 hB1 hs1 hb1 w2 w1
      refine ol_r (r_pickT rfl hs57 rfl) rfl ?_
      refine ol_r (r_assign rfl) rfl ?_
      refine ol_nil (to_k0 (fun _ _ h => h) (hK6 _ _ _ _ _ ?_))
      clear hK6
      refine hQ.ret (rvs1 (rv_t rfl)) (fun _ _ h => h) fun w hb hs hB hkd => ?_
      first
        | exact ⟨rfl, hb⟩
        | (exfalso; first | exact phs57 trivial | exact Bool.noConfusion hs52 | exact phs47 trivial | exact Bool.noConfusion hs42)
     ·have phs57 := hs57; try simp only [decide_eq_true_eq, decide_eq_false_iff_not, Bool.not_eq_true', Bool.not_eq_false', Bool.not_true, Bool.not_false] at phs57
      refine ol_s rfl rfl hs57 rfl ?_
      refine ol_r (r_pickF rfl hs57 rfl) rfl ?_
      refine ol_r (r_assign rfl) rfl ?_
      refine ol_nil (to_k0 (fun _ _ h => h) (hK6 _ _ _ _ _ ?_))
      clear hK6
      refine hQ.ret (rvs1 (rv_t rfl)) (fun _ _ h => h) fun w hb hs hB hkd => ?_
      first
        | exact ⟨rfl, hb⟩
        | (exfalso; first | exact phs57 trivial | exact Bool.noConfusion hs52 | exact phs47 trivial | exact Bool.noConfusion hs42)
    ·have phs52 := hs52; try simp only [decide_eq_true_eq, decide_eq_false_iff_not, Bool.not_eq_true', Bool.not_eq_false', Bool.not_true, Bool.not_false] at phs52
     refine ol_s rfl rfl hs52 rfl ?_
     refine ol_s rfl rfl hs52 rfl ?_
     refine ol_s rfl rfl hs52 rfl ?_
     refine ol_r (r_pickF rfl hs52 rfl) rfl ?_
     refine ol_r (r_move rfl) rfl ?_
     refine ol_s rfl rfl rfl rfl ?_
     refine ol_r (r_pickF rfl rfl rfl) rfl ?_
     refine ol_r (r_assign rfl) rfl ?_
     refine ol_nil (to_k0 (fun _ _ h => h) (hK6 _ _ _ _ _ ?_))
     clear hK6
     refine hQ.ret (rvs1 (rv_t rfl)) (fun _ _ h => h) fun w hb hs hB hkd => ?_
     first
       | exact ⟨rfl, hb⟩
       | (exfalso; first | exact phs57 trivial | exact Bool.noConfusion hs52 | exact phs47 trivial | exact Bool.noConfusion hs42)
   ·have phs47 := hs47; try simp only [decide_eq_true_eq, decide_eq_false_iff_not, Bool.not_eq_true', Bool.not_eq_false', Bool.not_true, Bool.not_false] at phs47
    refine ol_s rfl rfl hs47 rfl ?_
    refine ol_s rfl rfl hs47 rfl ?_
    refine ol_s rfl rfl hs47 rfl ?_
    refine ol_r (r_pickF rfl hs47 rfl) rfl ?_
    refine ol_r (r_move rfl) rfl ?_
    refine ol_s rfl rfl rfl rfl ?_
    refine ol_s rfl rfl rfl rfl ?_
    refine ol_s rfl rfl rfl rfl ?_
    refine ol_r (r_pickF rfl rfl rfl) rfl ?_
    refine ol_r (r_move rfl) rfl ?_
    refine ol_s rfl rfl rfl rfl ?_
    refine ol_r (r_pickF rfl rfl rfl) rfl ?_
    refine ol_r (r_assign rfl) rfl ?_
    refine ol_nil (to_k0 (fun _ _ h => h) (hK6 _ _ _ _ _ ?_))
    clear hK6
    refine hQ.ret (rvs1 (rv_t rfl)) (fun _ _ h => h) fun w hb hs hB hkd => ?_
    first
      | exact ⟨rfl, hb⟩
      | (exfalso; first | exact phs57 trivial | exact Bool.noConfusion hs52 | exact phs47 trivial | exact Bool.noConfusion hs42)
  ·have phs42 := hs42; try simp only [decide_eq_true_eq, decide_eq_false_iff_not, Bool.not_eq_true', Bool.not_eq_false', Bool.not_true, Bool.not_false] at phs42
   refine ol_s rfl rfl hs42 rfl ?_
   refine ol_s rfl rfl hs42 rfl ?_
   refine ol_s rfl rfl hs42 rfl ?_
   refine ol_r (r_pickF rfl hs42 rfl) rfl ?_
   refine ol_r (r_move rfl) rfl ?_
   refine ol_s rfl rfl rfl rfl ?_
   refine ol_s rfl rfl rfl rfl ?_
   refine ol_s rfl rfl rfl rfl ?_
   refine ol_r (r_pickF rfl rfl rfl) rfl ?_
   refine ol_r (r_move rfl) rfl ?_
   refine ol_s rfl rfl rfl rfl ?_
   refine ol_s rfl rfl rfl rfl ?_
   refine ol_s rfl rfl rfl rfl ?_
   refine ol_r (r_pickF rfl rfl rfl) rfl ?_
   refine ol_r (r_move rfl) rfl ?_
   refine ol_s rfl rfl rfl rfl ?_
   refine ol_r (r_pickF rfl rfl rfl) rfl ?_
   refine ol_r (r_assign rfl) rfl ?_
   refine ol_nil (to_k0 (fun _ _ h => h) (hK6 _ _ _ _ _ ?_))
   clear hK6
   refine hQ.ret (rvs1 (rv_t rfl)) (fun _ _ h => h) fun w hb hs hB hkd => ?_
   first
     | exact ⟨rfl, hb⟩
     | (exfalso; first | exact phs57 trivial | exact Bool.noConfusion hs52 | exact phs47 trivial | exact Bool.noConfusion hs42)
end Go.Proofs.Ytogcclagmobkiaa
