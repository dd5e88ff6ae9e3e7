/-
  TrackRestsMatchSpec: for all activities, Idle, Still and Moving return what is specified.
-/
import Derived.Test.YtogcclagmobkiaaMoveR
import Derived.Test.YtogcclagmobkiaaHill
namespace Go.Proofs.Ytogcclagmobkiaa
open Go Go.RowKit Hx
set_option linter.unusedVariables false
set_option linter.unusedSimpArgs false
set_option maxRecDepth 8000
theorem law_rests (A : ActV) (gap slow least : Int) (w : World) (hA : A.Ok w.heap.size w) :
    Calls Try.prog 8 #[.agg #[.string A.name, .int .i64 A.sport, .int .i64 A.start, .slice A.sa A.sn A.sc, .slice A.la A.ln A.lc, .slice A.ta A.tn A.tc], .int .i64 gap, .int .i64 slow, .int .i64 least] w fun e w' => e = .returned (.bool true) ∧ Below w.heap.size w w' := by
  refine enterQ (N := 94) (C := fun _ => True) (H := []) (B := w.heap.size) (args := [_, _, _, _]) Try.func8 rfl rfl rfl (Nat.le_refl _) (Sat.nil _ _) fun Q hQ => ?_
  refine wp_seq' fun K1 hK1 => ?_
  refine wp_reg ?_
  refine ol_box 4 rfl rfl rfl fun b4 => ?_
  refine ol_r (r_assign rfl) rfl ?_
  refine ol_nil (to_k0 (fun _ _ h => h) (hK1 _ _ _ _ _ ?_))
  clear hK1
  refine wp_seq' fun K2 hK2 => ?_
  refine wp_reg ?_
  refine ol_r (r_lda (id := 4) (n := 6) rfl rfl rfl ag26) rfl ?_
  refine ol_r (r_move rfl) rfl ?_
  refine ol_call rfl rfl cb27 rfl (fun w1 hb1 hs1 hB1 => ?_)
  refine Calls.mono (track_Idle A gap _ (hA.at hb1 hB1)) ?_
  rintro e w2 ⟨⟨a1, c1, rfl, hs2⟩, hb2⟩
  refine After.more rfl hb1 hs1 hB1 hb2 (hs2.kle [(1001, 1011)] (kle_cons rfl (Ent.le_refl _) kle_nil) (by decide)) ?_
  clear hs2 hb2 hB1 hs1 hb1 w2 w1
  refine ol_r (r_move rfl) rfl ?_
  refine ol_r (r_extract rfl rfl) rfl ?_
  refine ol_r (r_extract rfl rfl) rfl ?_
  refine ol_r (r_assign rfl) rfl ?_
  refine ol_r (r_assign rfl) rfl ?_
  refine ol_nil (to_k0 (fun _ _ h => h) (hK2 _ _ _ _ _ ?_))
  clear hK2
  refine wp_seq' fun K3 hK3 => ?_
  refine wp_reg ?_
  refine ol_r (r_lda (id := 4) (n := 6) rfl rfl rfl ag26) rfl ?_
  refine ol_r (r_move rfl) rfl ?_
  refine ol_call rfl rfl cb28 rfl (fun w1 hb1 hs1 hB1 => ?_)
  refine Calls.mono (ref3_Idle A gap _ (hA.at hb1 hB1)) ?_
  rintro e w2 ⟨⟨a2, c2, rfl, hs2⟩, hb2⟩
  refine After.more rfl hb1 hs1 hB1 hb2 (hs2.kle [(1001, 1012)] (kle_cons rfl (Ent.le_refl _) kle_nil) (by decide)) ?_
  clear hs2 hb2 hB1 hs1 hb1 w2 w1
  refine ol_r (r_move rfl) rfl ?_
  refine ol_r (r_extract rfl rfl) rfl ?_
  refine ol_r (r_extract rfl rfl) rfl ?_
  refine ol_r (r_assign rfl) rfl ?_
  refine ol_r (r_assign rfl) rfl ?_
  refine ol_nil (to_k0 (fun _ _ h => h) (hK3 _ _ _ _ _ ?_))
  clear hK3
  refine wp_seq' fun K4 hK4 => ?_
  refine wp_reg ?_
  refine ol_r (r_lda (id := 4) (n := 6) rfl rfl rfl ag26) rfl ?_
  refine ol_r (r_move rfl) rfl ?_
  refine ol_r (r_move rfl) rfl ?_
  refine ol_call rfl rfl cb29 rfl (fun w1 hb1 hs1 hB1 => ?_)
  refine Calls.mono (track_Still A slow least _ (hA.at hb1 hB1)) ?_
  rintro e w2 ⟨⟨a3, c3, rfl, hs2⟩, hb2⟩
  refine After.more rfl hb1 hs1 hB1 hb2 (hs2.kle [(1001, 1013)] (kle_cons rfl (Ent.le_refl _) kle_nil) (by decide)) ?_
  clear hs2 hb2 hB1 hs1 hb1 w2 w1
  refine ol_r (r_move rfl) rfl ?_
  refine ol_r (r_extract rfl rfl) rfl ?_
  refine ol_r (r_extract rfl rfl) rfl ?_
  refine ol_r (r_assign rfl) rfl ?_
  refine ol_r (r_assign rfl) rfl ?_
  refine ol_nil (to_k0 (fun _ _ h => h) (hK4 _ _ _ _ _ ?_))
  clear hK4
  refine wp_seq' fun K5 hK5 => ?_
  refine wp_reg ?_
  refine ol_r (r_lda (id := 4) (n := 6) rfl rfl rfl ag26) rfl ?_
  refine ol_r (r_move rfl) rfl ?_
  refine ol_r (r_move rfl) rfl ?_
  refine ol_call rfl rfl cb30 rfl (fun w1 hb1 hs1 hB1 => ?_)
  refine Calls.mono (ref3_Still A slow least _ (hA.at hb1 hB1)) ?_
  rintro e w2 ⟨⟨a4, c4, rfl, hs2⟩, hb2⟩
  refine After.more rfl hb1 hs1 hB1 hb2 (hs2.kle [(1001, 1014)] (kle_cons rfl (Ent.le_refl _) kle_nil) (by decide)) ?_
  clear hs2 hb2 hB1 hs1 hb1 w2 w1
  refine ol_r (r_move rfl) rfl ?_
  refine ol_r (r_extract rfl rfl) rfl ?_
  refine ol_r (r_extract rfl rfl) rfl ?_
  refine ol_r (r_assign rfl) rfl ?_
  refine ol_r (r_assign rfl) rfl ?_
  refine ol_nil (to_k0 (fun _ _ h => h) (hK5 _ _ _ _ _ ?_))
  clear hK5
  refine wp_seq' fun K6 hK6 => ?_
  refine wp_reg ?_
  refine ol_r (r_lda (id := 4) (n := 6) rfl rfl rfl ag26) rfl ?_
  refine ol_r (r_move rfl) rfl ?_
  refine ol_r (r_move rfl) rfl ?_
  refine ol_r (r_move rfl) rfl ?_
  refine ol_call rfl rfl cb31 rfl (fun w1 hb1 hs1 hB1 => Calls.mono (track_Moving A gap slow least _ (hA.at hb1 hB1)) ?_)
  rintro e w2 ⟨rfl, hb2⟩
  refine After.below rfl hb1 hs1 hB1 hb2 ?_
  clear hb2 hB1 hs1 hb1 w2 w1
  refine ol_r (r_move rfl) rfl ?_
  refine ol_r (r_extract rfl rfl) rfl ?_
  refine ol_r (r_extract rfl rfl) rfl ?_
  refine ol_r (r_assign rfl) rfl ?_
  refine ol_r (r_assign rfl) rfl ?_
  refine ol_nil (to_k0 (fun _ _ h => h) (hK6 _ _ _ _ _ ?_))
  clear hK6
  refine wp_seq' fun K7 hK7 => ?_
  refine wp_reg ?_
  refine ol_r (r_lda (id := 4) (n := 6) rfl rfl rfl ag26) rfl ?_
  refine ol_r (r_move rfl) rfl ?_
  refine ol_r (r_move rfl) rfl ?_
  refine ol_r (r_move rfl) rfl ?_
  refine ol_call rfl rfl cb32 rfl (fun w1 hb1 hs1 hB1 => Calls.mono (ref3_Moving A gap slow least _ (hA.at hb1 hB1)) ?_)
  rintro e w2 ⟨rfl, hb2⟩
  refine After.below rfl hb1 hs1 hB1 hb2 ?_
  clear hb2 hB1 hs1 hb1 w2 w1
  refine ol_r (r_move rfl) rfl ?_
  refine ol_r (r_extract rfl rfl) rfl ?_
  refine ol_r (r_extract rfl rfl) rfl ?_
  refine ol_r (r_assign rfl) rfl ?_
  refine ol_r (r_assign rfl) rfl ?_
  refine ol_nil (to_k0 (fun _ _ h => h) (hK7 _ _ _ _ _ ?_))
  clear hK7
  refine wp_seq' fun K8 hK8 => ?_
  refine wp_reg ?_
  refine ol_r (r_move rfl) rfl ?_
  refine ol_r (r_move rfl) rfl ?_
  refine ol_call rfl rfl cb33 rfl (fun w1 hb1 hs1 hB1 => Calls.mono (equal_span_same _ _ _ _ _ (idleR A.d gap).1 _ (hs1.rd (id := 1011) rfl rfl) (hs1.rd (id := 1012) rfl rfl)) ?_)
  rintro e w2 ⟨rfl, hb2⟩
  refine After.below rfl hb1 hs1 hB1 hb2 ?_
  clear hb2 hB1 hs1 hb1 w2 w1
  refine ol_r (r_move rfl) rfl ?_
  refine ol_split (d := 66) rfl (fun hs66 => ?_) (fun hs66 => ?_)
  ·have phs66 := hs66; try simp only [decide_eq_true_eq, decide_eq_false_iff_not, Bool.not_eq_true', Bool.not_eq_false', Bool.not_true, Bool.not_false] at phs66
   refine ol_g rfl rfl hs66 ?_
   refine ol_r (r_move rfl) rfl ?_
   refine ol_g rfl rfl hs66 ?_
   refine ol_r (r_move rfl) rfl ?_
   refine ol_g rfl rfl hs66 ?_
   refine ol_r (r_eql rfl rfl) rfl ?_
   refine ol_r (r_pickT rfl hs66 rfl) rfl ?_
   refine ol_r (r_move rfl) rfl ?_
   refine ol_split (d := 71) rfl (fun hs71 => ?_) (fun hs71 => ?_)
   ·have phs71 := hs71; try simp only [decide_eq_true_eq, decide_eq_false_iff_not, Bool.not_eq_true', Bool.not_eq_false', Bool.not_true, Bool.not_false] at phs71
    refine ol_g rfl rfl hs71 ?_
    refine ol_r (r_move rfl) rfl ?_
    refine ol_g rfl rfl hs71 ?_
    refine ol_r (r_move rfl) rfl ?_
    refine ol_g rfl rfl hs71 ?_
    refine ol_call rfl rfl cb33 rfl (fun w1 hb1 hs1 hB1 => Calls.mono (equal_span_same _ _ _ _ _ (stillR A.d slow least).1 _ (hs1.rd (id := 1013) rfl rfl) (hs1.rd (id := 1014) rfl rfl)) ?_)
    rintro e w2 ⟨rfl, hb2⟩
    refine After.below rfl hb1 hs1 hB1 hb2 ?_
    clear hb2 hB1 hs1 hb1 w2 w1
    refine ol_r (r_pickT rfl hs71 rfl) rfl ?_
    refine ol_r (r_move rfl) rfl ?_
    refine ol_split (d := 76) rfl (fun hs76 => ?_) (fun hs76 => ?_)
    ·have phs76 := hs76; try simp only [decide_eq_true_eq, decide_eq_false_iff_not, Bool.not_eq_true', Bool.not_eq_false', Bool.not_true, Bool.not_false] at phs76
     refine ol_g rfl rfl hs76 ?_
     refine ol_r (r_move rfl) rfl ?_
     refine ol_g rfl rfl hs76 ?_
     refine ol_r (r_move rfl) rfl ?_
     refine ol_g rfl rfl hs76 ?_
     refine ol_r (r_eql rfl rfl) rfl ?_
     refine ol_r (r_pickT rfl hs76 rfl) rfl ?_
     refine ol_r (r_move rfl) rfl ?_
     refine ol_split (d := 81) rfl (fun hs81 => ?_) (fun hs81 => ?_)
     ·have phs81 := hs81; try simp only [decide_eq_true_eq, decide_eq_false_iff_not, Bool.not_eq_true', Bool.not_eq_false', Bool.not_true, Bool.not_false] at phs81
      refine ol_g rfl rfl hs81 ?_
      refine ol_r (r_move rfl) rfl ?_
      refine ol_g rfl rfl hs81 ?_
      refine ol_r (r_move rfl) rfl ?_
      refine ol_g rfl rfl hs81 ?_
      refine ol_r (r_eql rfl rfl) rfl ?_
      refine ol_r (r_pickT rfl hs81 rfl) rfl ?_
      refine ol_r (r_move rfl) rfl ?_
      refine ol_split (d := 86) rfl (fun hs86 => ?_) (fun hs86 => ?_)
      ·have phs86 := hs86; try simp only [decide_eq_true_eq, decide_eq_false_iff_not, Bool.not_eq_true', Bool.not_eq_false', Bool.not_true, Bool.not_false] at phs86
       refine ol_g rfl rfl hs86 ?_
       refine ol_r (r_move rfl) rfl ?_
       refine ol_g rfl rfl hs86 ?_
       refine ol_r (r_move rfl) rfl ?_
       refine ol_g rfl rfl hs86 ?_
       refine ol_r (r_eql rfl rfl) rfl ?_
       refine ol_r (r_pickT rfl hs86 rfl) rfl ?_
       refine ol_r (r_move rfl) rfl ?_
       refine ol_split (d := 91) rfl (fun hs91 => ?_) (fun hs91 => ?_)
       ·have phs91 := hs91; try simp only [decide_eq_true_eq, decide_eq_false_iff_not, Bool.not_eq_true', Bool.not_eq_false', Bool.not_true, Bool.not_false] at phs91
        refine ol_g rfl rfl hs91 ?_
        refine ol_call rfl rfl cb16 rfl (fun w1 hb1 hs1 hB1 => Calls.mono (law3_told _) ?_)
        rintro e w2 ⟨rfl, hb2⟩
        refine After.below rfl hb1 hs1 hB1 hb2 ?_
        clear hb2 hB1 hs1 hb1 w2 w1
        refine ol_r (r_pickT rfl hs91 rfl) rfl ?_
        refine ol_r (r_assign rfl) rfl ?_
        refine ol_nil (to_k0 (fun _ _ h => h) (hK8 _ _ _ _ _ ?_))
        clear hK8
        refine hQ.ret (rvs1 (rv_t rfl)) (fun _ _ h => h) fun w hb hs hB hkd => ?_
        exact ⟨rfl, hb⟩
       ·have phs91 := hs91; try simp only [decide_eq_true_eq, decide_eq_false_iff_not, Bool.not_eq_true', Bool.not_eq_false', Bool.not_true, Bool.not_false] at phs91
        exfalso
        exact phs91 trivial
      ·have phs86 := hs86; try simp only [decide_eq_true_eq, decide_eq_false_iff_not, Bool.not_eq_true', Bool.not_eq_false', Bool.not_true, Bool.not_false] at phs86
       exfalso
       exact phs86 trivial
     ·have phs81 := hs81; try simp only [decide_eq_true_eq, decide_eq_false_iff_not, Bool.not_eq_true', Bool.not_eq_false', Bool.not_true, Bool.not_false] at phs81
      exfalso
      exact phs81 trivial
    ·have phs76 := hs76; try simp only [decide_eq_true_eq, decide_eq_false_iff_not, Bool.not_eq_true', Bool.not_eq_false', Bool.not_true, Bool.not_false] at phs76
     exfalso
     exact Bool.noConfusion hs76
   ·have phs71 := hs71; try simp only [decide_eq_true_eq, decide_eq_false_iff_not, Bool.not_eq_true', Bool.not_eq_false', Bool.not_true, Bool.not_false] at phs71
    exfalso
    exact phs71 trivial
  ·have phs66 := hs66; try simp only [decide_eq_true_eq, decide_eq_false_iff_not, Bool.not_eq_true', Bool.not_eq_false', Bool.not_true, Bool.not_false] at phs66
   exfalso
   exact Bool.noConfusion hs66
end Go.Proofs.Ytogcclagmobkiaa
