/-
  EffortPartsAddUp: the walk of the law.
-/
import Derived.Test.YtafkojlccknicaaPartsAM
import Derived.Test.YtafkojlccknicaaBest
namespace Go.Proofs.Ytafkojlccknicaa
open Go Go.RowKit Hx
set_option linter.unusedVariables false
set_option linter.unusedSimpArgs false
set_option maxRecDepth 8000
theorem law_partsAdd (A : ActV) (f m t : Int) (w : World) (hA : A.Ok w.heap.size w) :
    Calls Try.prog 8 #[.agg #[.string A.name, .int .i64 A.sport, .int .i64 A.start, .slice A.sa A.sn A.sc, .slice A.la A.ln A.lc, .slice A.ta A.tn A.tc], .int .i64 f, .int .i64 m, .int .i64 t] w fun e w' => e = .returned (.bool true) ∧ Below w.heap.size w w' := by
  refine enterQ (N := 142) (C := fun _ => True) (H := []) (B := w.heap.size) (args := [_, _, _, _]) Try.func8 rfl rfl rfl (Nat.le_refl _) (Sat.nil _ _) fun Q hQ => ?_
  refine wp_seq' fun K1 hK1 => ?_
  refine wp_reg ?_
  refine ol_box 4 rfl rfl rfl fun b4 => ?_
  refine ol_r (r_assign rfl) rfl ?_
  refine ol_nil (to_k0 (fun _ _ h => h) (hK1 _ _ _ _ _ ?_))
  clear hK1
  refine wp_seq' fun K2 hK2 => ?_
  refine wp_reg ?_
  refine ol_r (r_lda (id := 4) (n := 6) rfl rfl rfl ag51) rfl ?_
  refine ol_r (r_move rfl) rfl ?_
  refine ol_r (r_move rfl) rfl ?_
  refine ol_call rfl rfl cb38 rfl (fun w1 hb1 hs1 hB1 => Calls.mono (effort_PartOf A f m _ (hA.at hb1 hB1)) ?_)
  rintro e w2 ⟨rfl, hb2⟩
  refine After.below rfl hb1 hs1 hB1 hb2 ?_
  clear hb2 hB1 hs1 hb1 w2 w1
  refine ol_r (r_move rfl) rfl ?_
  refine ol_r (r_extract rfl rfl) rfl ?_
  refine ol_r (r_extract rfl rfl) rfl ?_
  refine ol_alloc 9 z55 rfl fun b9 => ?_
  refine ol_store (id := 9) rfl rfl rfl rfl sz55 rfl rfl (by first | decide | exact Nat.zero_lt_succ _ | simp) ?_
  refine ol_r (r_assign rfl) rfl ?_
  refine ol_nil (to_k0 (fun _ _ h => h) (hK2 _ _ _ _ _ ?_))
  clear hK2
  refine wp_seq' fun K3 hK3 => ?_
  refine wp_reg ?_
  refine ol_r (r_lda (id := 4) (n := 6) rfl rfl rfl ag51) rfl ?_
  refine ol_r (r_move rfl) rfl ?_
  refine ol_r (r_move rfl) rfl ?_
  refine ol_call rfl rfl cb38 rfl (fun w1 hb1 hs1 hB1 => Calls.mono (effort_PartOf A m t _ (hA.at hb1 hB1)) ?_)
  rintro e w2 ⟨rfl, hb2⟩
  refine After.below rfl hb1 hs1 hB1 hb2 ?_
  clear hb2 hB1 hs1 hb1 w2 w1
  refine ol_r (r_move rfl) rfl ?_
  refine ol_r (r_extract rfl rfl) rfl ?_
  refine ol_r (r_extract rfl rfl) rfl ?_
  refine ol_alloc 11 z55 rfl fun b11 => ?_
  refine ol_store (id := 11) rfl rfl rfl rfl sz55 rfl rfl (by first | decide | exact Nat.zero_lt_succ _ | simp) ?_
  refine ol_r (r_assign rfl) rfl ?_
  refine ol_nil (to_k0 (fun _ _ h => h) (hK3 _ _ _ _ _ ?_))
  clear hK3
  refine wp_seq' fun K4 hK4 => ?_
  refine wp_reg ?_
  refine ol_r (r_lda (id := 4) (n := 6) rfl rfl rfl ag51) rfl ?_
  refine ol_r (r_move rfl) rfl ?_
  refine ol_r (r_move rfl) rfl ?_
  refine ol_call rfl rfl cb38 rfl (fun w1 hb1 hs1 hB1 => Calls.mono (effort_PartOf A f t _ (hA.at hb1 hB1)) ?_)
  rintro e w2 ⟨rfl, hb2⟩
  refine After.below rfl hb1 hs1 hB1 hb2 ?_
  clear hb2 hB1 hs1 hb1 w2 w1
  refine ol_r (r_move rfl) rfl ?_
  refine ol_r (r_extract rfl rfl) rfl ?_
  refine ol_r (r_extract rfl rfl) rfl ?_
  refine ol_alloc 13 z55 rfl fun b13 => ?_
  refine ol_store (id := 13) rfl rfl rfl rfl sz55 rfl rfl (by first | decide | exact Nat.zero_lt_succ _ | simp) ?_
  refine ol_r (r_assign rfl) rfl ?_
  refine ol_nil (to_k0 (fun _ _ h => h) (hK4 _ _ _ _ _ ?_))
  clear hK4
  refine wp_seq' fun K5 hK5 => ?_
  refine wp_seq' fun K6 hK6 => ?_
  refine wp_reg ?_
  refine ol_r (r_move rfl) rfl ?_
  refine ol_r (r_neq rfl rfl) rfl ?_
  refine ol_r (r_move rfl) rfl ?_
  refine ol_split (d := 40) rfl (fun hs40 => ?_) (fun hs40 => ?_)
  ·have phs40 := hs40; try simp only [decide_eq_true_eq, decide_eq_false_iff_not, Bool.not_eq_true', Bool.not_eq_false', Bool.not_true, Bool.not_false] at phs40
   refine ol_s rfl rfl hs40 rfl ?_
   refine ol_s rfl rfl hs40 rfl ?_
   refine ol_r (r_pickT rfl hs40 rfl) rfl ?_
   refine ol_r (r_move rfl) rfl ?_
   refine ol_s rfl rfl rfl rfl ?_
   refine ol_s rfl rfl rfl rfl ?_
   refine ol_r (r_pickT rfl rfl rfl) rfl ?_
   refine ol_nil (to_k0 (fun _ _ h => h) (hK6 _ _ _ _ _ ?_))
   clear hK6
   refine wp_condT rfl ?_
   refine wp_seq' fun K7 hK7 => ?_
   refine wp_reg ?_
   refine ol_r (r_lda (id := 4) (n := 6) rfl rfl rfl ag51) rfl ?_
   refine ol_r (r_move rfl) rfl ?_
   refine ol_r (r_move rfl) rfl ?_
   refine ol_call rfl rfl cb39 rfl (fun w1 hb1 hs1 hB1 => Calls.mono (ref4_PartOf A f t _ (hA.at hb1 hB1)) ?_)
   rintro e w2 ⟨rfl, hb2⟩
   refine After.below rfl hb1 hs1 hB1 hb2 ?_
   clear hb2 hB1 hs1 hb1 w2 w1
   refine ol_r (r_move rfl) rfl ?_
   refine ol_r (r_extract rfl rfl) rfl ?_
   refine ol_r (r_extract rfl rfl) rfl ?_
   refine ol_alloc 15 z55 rfl fun b15 => ?_
   refine ol_store (id := 15) rfl rfl rfl rfl sz55 rfl rfl (by first | decide | exact Nat.zero_lt_succ _ | simp) ?_
   refine ol_r (r_assign rfl) rfl ?_
   refine ol_nil (to_k0 (fun _ _ h => h) (hK7 _ _ _ _ _ ?_))
   clear hK7
   refine wp_seq' fun K8 hK8 => ?_
   refine wp_reg ?_
   refine ol_r (r_move rfl) rfl ?_
   refine ol_r (r_move rfl) rfl ?_
   refine ol_r (r_eql rfl rfl) rfl ?_
   refine ol_r (r_move rfl) rfl ?_
   refine ol_split (d := 58) rfl (fun hs58 => ?_) (fun hs58 => ?_)
   ·have phs58 := hs58; try simp only [decide_eq_true_eq, decide_eq_false_iff_not, Bool.not_eq_true', Bool.not_eq_false', Bool.not_true, Bool.not_false] at phs58
    refine ol_g rfl rfl hs58 ?_
    refine ol_call rfl rfl cb16 rfl (fun w1 hb1 hs1 hB1 => Calls.mono (effort_told _) ?_)
    rintro e w2 ⟨rfl, hb2⟩
    refine After.below rfl hb1 hs1 hB1 hb2 ?_
    clear hb2 hB1 hs1 hb1 w2 w1
    refine ol_r (r_pickT rfl hs58 rfl) rfl ?_
    refine ol_r (r_assign rfl) rfl ?_
    refine ol_nil (to_k0 (fun _ _ h => h) (hK8 _ _ _ _ _ ?_))
    clear hK8
    refine hQ.ret (rvs1 (rv_t rfl)) (fun _ _ h => h) fun w hb hs hB hkd => ?_
    first
      | exact ⟨rfl, hb⟩
      | (exfalso; simp at phs58; done)
      | (exfalso; first | exact phs69 p1 | exact phs79 p2 | exact phs89 p3 | exact phs99 p4 | exact phs109 p5 | exact phs119 p6 | exact phs129 p7 | exact phs139 p8)
   ·have phs58 := hs58; try simp only [decide_eq_true_eq, decide_eq_false_iff_not, Bool.not_eq_true', Bool.not_eq_false', Bool.not_true, Bool.not_false] at phs58
    refine ol_s rfl rfl hs58 rfl ?_
    refine ol_r (r_pickF rfl hs58 rfl) rfl ?_
    refine ol_r (r_assign rfl) rfl ?_
    refine ol_nil (to_k0 (fun _ _ h => h) (hK8 _ _ _ _ _ ?_))
    clear hK8
    refine hQ.ret (rvs1 (rv_t rfl)) (fun _ _ h => h) fun w hb hs hB hkd => ?_
    first
      | exact ⟨rfl, hb⟩
      | (exfalso; simp at phs58; done)
      | (exfalso; first | exact phs69 p1 | exact phs79 p2 | exact phs89 p3 | exact phs99 p4 | exact phs109 p5 | exact phs119 p6 | exact phs129 p7 | exact phs139 p8)
  ·have phs40 := hs40; try simp only [decide_eq_true_eq, decide_eq_false_iff_not, Bool.not_eq_true', Bool.not_eq_false', Bool.not_true, Bool.not_false] at phs40
   refine ol_g rfl rfl hs40 ?_
   refine ol_r (r_move rfl) rfl ?_
   refine ol_g rfl rfl hs40 ?_
   refine ol_r (r_neq rfl rfl) rfl ?_
   refine ol_r (r_pickF rfl hs40 rfl) rfl ?_
   refine ol_r (r_move rfl) rfl ?_
   refine ol_split (d := 44) rfl (fun hs44 => ?_) (fun hs44 => ?_)
   ·have phs44 := hs44; try simp only [decide_eq_true_eq, decide_eq_false_iff_not, Bool.not_eq_true', Bool.not_eq_false', Bool.not_true, Bool.not_false] at phs44
    refine ol_s rfl rfl hs44 rfl ?_
    refine ol_s rfl rfl hs44 rfl ?_
    refine ol_r (r_pickT rfl hs44 rfl) rfl ?_
    refine ol_nil (to_k0 (fun _ _ h => h) (hK6 _ _ _ _ _ ?_))
    clear hK6
    refine wp_condT rfl ?_
    refine wp_seq' fun K9 hK9 => ?_
    refine wp_reg ?_
    refine ol_r (r_lda (id := 4) (n := 6) rfl rfl rfl ag51) rfl ?_
    refine ol_r (r_move rfl) rfl ?_
    refine ol_r (r_move rfl) rfl ?_
    refine ol_call rfl rfl cb39 rfl (fun w1 hb1 hs1 hB1 => Calls.mono (ref4_PartOf A f t _ (hA.at hb1 hB1)) ?_)
    rintro e w2 ⟨rfl, hb2⟩
    refine After.below rfl hb1 hs1 hB1 hb2 ?_
    clear hb2 hB1 hs1 hb1 w2 w1
    refine ol_r (r_move rfl) rfl ?_
    refine ol_r (r_extract rfl rfl) rfl ?_
    refine ol_r (r_extract rfl rfl) rfl ?_
    refine ol_alloc 15 z55 rfl fun b15 => ?_
    refine ol_store (id := 15) rfl rfl rfl rfl sz55 rfl rfl (by first | decide | exact Nat.zero_lt_succ _ | simp) ?_
    refine ol_r (r_assign rfl) rfl ?_
    refine ol_nil (to_k0 (fun _ _ h => h) (hK9 _ _ _ _ _ ?_))
    clear hK9
    refine wp_seq' fun K10 hK10 => ?_
    refine wp_reg ?_
    refine ol_r (r_move rfl) rfl ?_
    refine ol_r (r_move rfl) rfl ?_
    refine ol_r (r_eql rfl rfl) rfl ?_
    refine ol_r (r_move rfl) rfl ?_
    refine ol_split (d := 58) rfl (fun hs58 => ?_) (fun hs58 => ?_)
    ·have phs58 := hs58; try simp only [decide_eq_true_eq, decide_eq_false_iff_not, Bool.not_eq_true', Bool.not_eq_false', Bool.not_true, Bool.not_false] at phs58
     refine ol_g rfl rfl hs58 ?_
     refine ol_call rfl rfl cb16 rfl (fun w1 hb1 hs1 hB1 => Calls.mono (effort_told _) ?_)
     rintro e w2 ⟨rfl, hb2⟩
     refine After.below rfl hb1 hs1 hB1 hb2 ?_
     clear hb2 hB1 hs1 hb1 w2 w1
     refine ol_r (r_pickT rfl hs58 rfl) rfl ?_
     refine ol_r (r_assign rfl) rfl ?_
     refine ol_nil (to_k0 (fun _ _ h => h) (hK10 _ _ _ _ _ ?_))
     clear hK10
     refine hQ.ret (rvs1 (rv_t rfl)) (fun _ _ h => h) fun w hb hs hB hkd => ?_
     first
       | exact ⟨rfl, hb⟩
       | (exfalso; simp at phs58; done)
       | (exfalso; first | exact phs69 p1 | exact phs79 p2 | exact phs89 p3 | exact phs99 p4 | exact phs109 p5 | exact phs119 p6 | exact phs129 p7 | exact phs139 p8)
    ·have phs58 := hs58; try simp only [decide_eq_true_eq, decide_eq_false_iff_not, Bool.not_eq_true', Bool.not_eq_false', Bool.not_true, Bool.not_false] at phs58
     refine ol_s rfl rfl hs58 rfl ?_
     refine ol_r (r_pickF rfl hs58 rfl) rfl ?_
     refine ol_r (r_assign rfl) rfl ?_
     refine ol_nil (to_k0 (fun _ _ h => h) (hK10 _ _ _ _ _ ?_))
     clear hK10
     refine hQ.ret (rvs1 (rv_t rfl)) (fun _ _ h => h) fun w hb hs hB hkd => ?_
     first
       | exact ⟨rfl, hb⟩
       | (exfalso; simp at phs58; done)
       | (exfalso; first | exact phs69 p1 | exact phs79 p2 | exact phs89 p3 | exact phs99 p4 | exact phs109 p5 | exact phs119 p6 | exact phs129 p7 | exact phs139 p8)
   ·have phs44 := hs44; try simp only [decide_eq_true_eq, decide_eq_false_iff_not, Bool.not_eq_true', Bool.not_eq_false', Bool.not_true, Bool.not_false] at phs44
    refine ol_g rfl rfl hs44 ?_
    refine ol_r (r_move rfl) rfl ?_
    refine ol_g rfl rfl hs44 ?_
    refine ol_r (r_neq rfl rfl) rfl ?_
    refine ol_r (r_pickF rfl hs44 rfl) rfl ?_
    refine ol_nil (to_k0 (fun _ _ h => h) (hK6 _ _ _ _ _ ?_))
    clear hK6
    first | refine wp_condD rfl (fun hc47 => ?_) (fun hc47 => ?_) | refine wp_condN rfl (fun hc47 => ?_) (fun hc47 => ?_) | refine wp_condNB rfl (fun hc47 => ?_) (fun hc47 => ?_) | refine wp_cond' rfl (fun hc47 => ?_) (fun hc47 => ?_)
    ·refine wp_seq' fun K11 hK11 => ?_
     refine wp_reg ?_
     refine ol_r (r_lda (id := 4) (n := 6) rfl rfl rfl ag51) rfl ?_
     refine ol_r (r_move rfl) rfl ?_
     refine ol_r (r_move rfl) rfl ?_
     refine ol_call rfl rfl cb39 rfl (fun w1 hb1 hs1 hB1 => Calls.mono (ref4_PartOf A f t _ (hA.at hb1 hB1)) ?_)
     rintro e w2 ⟨rfl, hb2⟩
     refine After.below rfl hb1 hs1 hB1 hb2 ?_
     clear hb2 hB1 hs1 hb1 w2 w1
     refine ol_r (r_move rfl) rfl ?_
     refine ol_r (r_extract rfl rfl) rfl ?_
     refine ol_r (r_extract rfl rfl) rfl ?_
     refine ol_alloc 15 z55 rfl fun b15 => ?_
     refine ol_store (id := 15) rfl rfl rfl rfl sz55 rfl rfl (by first | decide | exact Nat.zero_lt_succ _ | simp) ?_
     refine ol_r (r_assign rfl) rfl ?_
     refine ol_nil (to_k0 (fun _ _ h => h) (hK11 _ _ _ _ _ ?_))
     clear hK11
     refine wp_seq' fun K12 hK12 => ?_
     refine wp_reg ?_
     refine ol_r (r_move rfl) rfl ?_
     refine ol_r (r_move rfl) rfl ?_
     refine ol_r (r_eql rfl rfl) rfl ?_
     refine ol_r (r_move rfl) rfl ?_
     refine ol_split (d := 58) rfl (fun hs58 => ?_) (fun hs58 => ?_)
     ·have phs58 := hs58; try simp only [decide_eq_true_eq, decide_eq_false_iff_not, Bool.not_eq_true', Bool.not_eq_false', Bool.not_true, Bool.not_false] at phs58
      refine ol_g rfl rfl hs58 ?_
      refine ol_call rfl rfl cb16 rfl (fun w1 hb1 hs1 hB1 => Calls.mono (effort_told _) ?_)
      rintro e w2 ⟨rfl, hb2⟩
      refine After.below rfl hb1 hs1 hB1 hb2 ?_
      clear hb2 hB1 hs1 hb1 w2 w1
      refine ol_r (r_pickT rfl hs58 rfl) rfl ?_
      refine ol_r (r_assign rfl) rfl ?_
      refine ol_nil (to_k0 (fun _ _ h => h) (hK12 _ _ _ _ _ ?_))
      clear hK12
      refine hQ.ret (rvs1 (rv_t rfl)) (fun _ _ h => h) fun w hb hs hB hkd => ?_
      first
        | exact ⟨rfl, hb⟩
        | (exfalso; simp at phs58; done)
        | (exfalso; first | exact phs69 p1 | exact phs79 p2 | exact phs89 p3 | exact phs99 p4 | exact phs109 p5 | exact phs119 p6 | exact phs129 p7 | exact phs139 p8)
     ·have phs58 := hs58; try simp only [decide_eq_true_eq, decide_eq_false_iff_not, Bool.not_eq_true', Bool.not_eq_false', Bool.not_true, Bool.not_false] at phs58
      refine ol_s rfl rfl hs58 rfl ?_
      refine ol_r (r_pickF rfl hs58 rfl) rfl ?_
      refine ol_r (r_assign rfl) rfl ?_
      refine ol_nil (to_k0 (fun _ _ h => h) (hK12 _ _ _ _ _ ?_))
      clear hK12
      refine hQ.ret (rvs1 (rv_t rfl)) (fun _ _ h => h) fun w hb hs hB hkd => ?_
      first
        | exact ⟨rfl, hb⟩
        | (exfalso; simp at phs58; done)
        | (exfalso; first | exact phs69 p1 | exact phs79 p2 | exact phs89 p3 | exact phs99 p4 | exact phs109 p5 | exact phs119 p6 | exact phs129 p7 | exact phs139 p8)
    ·refine wp_skip' (to_k0 (fun _ _ h => h) (hK5 _ _ _ _ _ ?_))
     clear hK5
     refine wp_seq' fun K13 hK13 => ?_
     refine wp_reg ?_
     have q1 : (partOfR A.d f m).2 = 0 := by simpa using hs40
     have q2 : (partOfR A.d m t).2 = 0 := by simpa using hs44
     obtain ⟨⟨p1, p2, p3, p4, p5, p6, p7, p8⟩, ⟨b1, b2, b3, b4, b5, b6, b7, b8⟩, ⟨c1, c2, c3, c4, c5, c6, c7, c8⟩⟩ := parts_sum (a := A.d) (f := f) (m := m) (t := t) q1 q2
     refine ol_r (r_fa (o' := 2) rfl fl55_2 rfl) rfl ?_
     refine ol_r (r_ld (id := 9) rfl rfl rfl sc3) rfl ?_
     refine ol_r (r_fa (o' := 2) rfl fl55_2 rfl) rfl ?_
     refine ol_r (r_ld (id := 11) rfl rfl rfl sc3) rfl ?_
     refine ol_r (r_add rfl rfl (by omega)) rfl ?_
     refine ol_r (r_fa (o' := 2) rfl fl55_2 rfl) rfl ?_
     refine ol_r (r_ld (id := 13) rfl rfl rfl sc3) rfl ?_
     refine ol_r (r_eql rfl rfl) rfl ?_
     refine ol_r (r_move rfl) rfl ?_
     refine ol_split (d := 69) rfl (fun hs69 => ?_) (fun hs69 => ?_)
     ·have phs69 := hs69; try simp only [decide_eq_true_eq, decide_eq_false_iff_not, Bool.not_eq_true', Bool.not_eq_false', Bool.not_true, Bool.not_false] at phs69
      refine ol_g rfl rfl hs69 ?_
      refine ol_r (r_fa (o' := 3) rfl fl55_3 rfl) rfl ?_
      refine ol_g rfl rfl hs69 ?_
      refine ol_r (r_ld (id := 9) rfl rfl rfl sc3) rfl ?_
      refine ol_g rfl rfl hs69 ?_
      refine ol_r (r_fa (o' := 3) rfl fl55_3 rfl) rfl ?_
      refine ol_g rfl rfl hs69 ?_
      refine ol_r (r_ld (id := 11) rfl rfl rfl sc3) rfl ?_
      refine ol_g rfl rfl hs69 ?_
      refine ol_r (r_add rfl rfl (by omega)) rfl ?_
      refine ol_g rfl rfl hs69 ?_
      refine ol_r (r_fa (o' := 3) rfl fl55_3 rfl) rfl ?_
      refine ol_g rfl rfl hs69 ?_
      refine ol_r (r_ld (id := 13) rfl rfl rfl sc3) rfl ?_
      refine ol_g rfl rfl hs69 ?_
      refine ol_r (r_eql rfl rfl) rfl ?_
      refine ol_r (r_pickT rfl hs69 rfl) rfl ?_
      refine ol_r (r_move rfl) rfl ?_
      refine ol_split (d := 79) rfl (fun hs79 => ?_) (fun hs79 => ?_)
      ·have phs79 := hs79; try simp only [decide_eq_true_eq, decide_eq_false_iff_not, Bool.not_eq_true', Bool.not_eq_false', Bool.not_true, Bool.not_false] at phs79
       refine ol_g rfl rfl hs79 ?_
       refine ol_r (r_fa (o' := 4) rfl fl55_4 rfl) rfl ?_
       refine ol_g rfl rfl hs79 ?_
       refine ol_r (r_ld (id := 9) rfl rfl rfl sc3) rfl ?_
       refine ol_g rfl rfl hs79 ?_
       refine ol_r (r_fa (o' := 4) rfl fl55_4 rfl) rfl ?_
       refine ol_g rfl rfl hs79 ?_
       refine ol_r (r_ld (id := 11) rfl rfl rfl sc3) rfl ?_
       refine ol_g rfl rfl hs79 ?_
       refine ol_r (r_add rfl rfl (by omega)) rfl ?_
       refine ol_g rfl rfl hs79 ?_
       refine ol_r (r_fa (o' := 4) rfl fl55_4 rfl) rfl ?_
       refine ol_g rfl rfl hs79 ?_
       refine ol_r (r_ld (id := 13) rfl rfl rfl sc3) rfl ?_
       refine ol_g rfl rfl hs79 ?_
       refine ol_r (r_eql rfl rfl) rfl ?_
       refine ol_r (r_pickT rfl hs79 rfl) rfl ?_
       refine ol_r (r_move rfl) rfl ?_
       refine ol_split (d := 89) rfl (fun hs89 => ?_) (fun hs89 => ?_)
       ·have phs89 := hs89; try simp only [decide_eq_true_eq, decide_eq_false_iff_not, Bool.not_eq_true', Bool.not_eq_false', Bool.not_true, Bool.not_false] at phs89
        refine ol_g rfl rfl hs89 ?_
        refine ol_r (r_fa (o' := 5) rfl fl55_5 rfl) rfl ?_
        refine ol_g rfl rfl hs89 ?_
        refine ol_r (r_ld (id := 9) rfl rfl rfl sc3) rfl ?_
        refine ol_g rfl rfl hs89 ?_
        refine ol_r (r_fa (o' := 5) rfl fl55_5 rfl) rfl ?_
        refine ol_g rfl rfl hs89 ?_
        refine ol_r (r_ld (id := 11) rfl rfl rfl sc3) rfl ?_
        refine ol_g rfl rfl hs89 ?_
        refine ol_r (r_add rfl rfl (by omega)) rfl ?_
        refine ol_g rfl rfl hs89 ?_
        refine ol_r (r_fa (o' := 5) rfl fl55_5 rfl) rfl ?_
        refine ol_g rfl rfl hs89 ?_
        refine ol_r (r_ld (id := 13) rfl rfl rfl sc3) rfl ?_
        refine ol_g rfl rfl hs89 ?_
        refine ol_r (r_eql rfl rfl) rfl ?_
        refine ol_r (r_pickT rfl hs89 rfl) rfl ?_
        refine ol_r (r_move rfl) rfl ?_
        refine ol_split (d := 99) rfl (fun hs99 => ?_) (fun hs99 => ?_)
        ·have phs99 := hs99; try simp only [decide_eq_true_eq, decide_eq_false_iff_not, Bool.not_eq_true', Bool.not_eq_false', Bool.not_true, Bool.not_false] at phs99
         refine ol_g rfl rfl hs99 ?_
         refine ol_r (r_fa (o' := 6) rfl fl55_6 rfl) rfl ?_
         refine ol_g rfl rfl hs99 ?_
         refine ol_r (r_ld (id := 9) rfl rfl rfl sc3) rfl ?_
         refine ol_g rfl rfl hs99 ?_
         refine ol_r (r_fa (o' := 6) rfl fl55_6 rfl) rfl ?_
         refine ol_g rfl rfl hs99 ?_
         refine ol_r (r_ld (id := 11) rfl rfl rfl sc3) rfl ?_
         refine ol_g rfl rfl hs99 ?_
         refine ol_r (r_add rfl rfl (by omega)) rfl ?_
         refine ol_g rfl rfl hs99 ?_
         refine ol_r (r_fa (o' := 6) rfl fl55_6 rfl) rfl ?_
         refine ol_g rfl rfl hs99 ?_
         refine ol_r (r_ld (id := 13) rfl rfl rfl sc3) rfl ?_
         refine ol_g rfl rfl hs99 ?_
         refine ol_r (r_eql rfl rfl) rfl ?_
         refine ol_r (r_pickT rfl hs99 rfl) rfl ?_
         refine ol_r (r_move rfl) rfl ?_
         refine ol_split (d := 109) rfl (fun hs109 => ?_) (fun hs109 => ?_)
         ·have phs109 := hs109; try simp only [decide_eq_true_eq, decide_eq_false_iff_not, Bool.not_eq_true', Bool.not_eq_false', Bool.not_true, Bool.not_false] at phs109
          refine ol_g rfl rfl hs109 ?_
          refine ol_r (r_fa (o' := 7) rfl fl55_7 rfl) rfl ?_
          refine ol_g rfl rfl hs109 ?_
          refine ol_r (r_ld (id := 9) rfl rfl rfl sc3) rfl ?_
          refine ol_g rfl rfl hs109 ?_
          refine ol_r (r_fa (o' := 7) rfl fl55_7 rfl) rfl ?_
          refine ol_g rfl rfl hs109 ?_
          refine ol_r (r_ld (id := 11) rfl rfl rfl sc3) rfl ?_
          refine ol_g rfl rfl hs109 ?_
          refine ol_r (r_add rfl rfl (by omega)) rfl ?_
          refine ol_g rfl rfl hs109 ?_
          refine ol_r (r_fa (o' := 7) rfl fl55_7 rfl) rfl ?_
          refine ol_g rfl rfl hs109 ?_
          refine ol_r (r_ld (id := 13) rfl rfl rfl sc3) rfl ?_
          refine ol_g rfl rfl hs109 ?_
          refine ol_r (r_eql rfl rfl) rfl ?_
          refine ol_r (r_pickT rfl hs109 rfl) rfl ?_
          refine ol_r (r_move rfl) rfl ?_
          refine ol_split (d := 119) rfl (fun hs119 => ?_) (fun hs119 => ?_)
          ·have phs119 := hs119; try simp only [decide_eq_true_eq, decide_eq_false_iff_not, Bool.not_eq_true', Bool.not_eq_false', Bool.not_true, Bool.not_false] at phs119
           refine ol_g rfl rfl hs119 ?_
           refine ol_r (r_fa (o' := 8) rfl fl55_8 rfl) rfl ?_
           refine ol_g rfl rfl hs119 ?_
           refine ol_r (r_ld (id := 9) rfl rfl rfl sc3) rfl ?_
           refine ol_g rfl rfl hs119 ?_
           refine ol_r (r_fa (o' := 8) rfl fl55_8 rfl) rfl ?_
           refine ol_g rfl rfl hs119 ?_
           refine ol_r (r_ld (id := 11) rfl rfl rfl sc3) rfl ?_
           refine ol_g rfl rfl hs119 ?_
           refine ol_r (r_add rfl rfl (by omega)) rfl ?_
           refine ol_g rfl rfl hs119 ?_
           refine ol_r (r_fa (o' := 8) rfl fl55_8 rfl) rfl ?_
           refine ol_g rfl rfl hs119 ?_
           refine ol_r (r_ld (id := 13) rfl rfl rfl sc3) rfl ?_
           refine ol_g rfl rfl hs119 ?_
           refine ol_r (r_eql rfl rfl) rfl ?_
           refine ol_r (r_pickT rfl hs119 rfl) rfl ?_
           refine ol_r (r_move rfl) rfl ?_
           refine ol_split (d := 129) rfl (fun hs129 => ?_) (fun hs129 => ?_)
           ·have phs129 := hs129; try simp only [decide_eq_true_eq, decide_eq_false_iff_not, Bool.not_eq_true', Bool.not_eq_false', Bool.not_true, Bool.not_false] at phs129
            refine ol_g rfl rfl hs129 ?_
            refine ol_r (r_fa (o' := 9) rfl fl55_9 rfl) rfl ?_
            refine ol_g rfl rfl hs129 ?_
            refine ol_r (r_ld (id := 9) rfl rfl rfl sc3) rfl ?_
            refine ol_g rfl rfl hs129 ?_
            refine ol_r (r_fa (o' := 9) rfl fl55_9 rfl) rfl ?_
            refine ol_g rfl rfl hs129 ?_
            refine ol_r (r_ld (id := 11) rfl rfl rfl sc3) rfl ?_
            refine ol_g rfl rfl hs129 ?_
            refine ol_r (r_add rfl rfl (by omega)) rfl ?_
            refine ol_g rfl rfl hs129 ?_
            refine ol_r (r_fa (o' := 9) rfl fl55_9 rfl) rfl ?_
            refine ol_g rfl rfl hs129 ?_
            refine ol_r (r_ld (id := 13) rfl rfl rfl sc3) rfl ?_
            refine ol_g rfl rfl hs129 ?_
            refine ol_r (r_eql rfl rfl) rfl ?_
            refine ol_r (r_pickT rfl hs129 rfl) rfl ?_
            refine ol_r (r_move rfl) rfl ?_
            refine ol_split (d := 139) rfl (fun hs139 => ?_) (fun hs139 => ?_)
            ·have phs139 := hs139; try simp only [decide_eq_true_eq, decide_eq_false_iff_not, Bool.not_eq_true', Bool.not_eq_false', Bool.not_true, Bool.not_false] at phs139
             refine ol_g rfl rfl hs139 ?_
             refine ol_call rfl rfl cb16 rfl (fun w1 hb1 hs1 hB1 => Calls.mono (effort_told _) ?_)
             rintro e w2 ⟨rfl, hb2⟩
             refine After.below rfl hb1 hs1 hB1 hb2 ?_
             clear hb2 hB1 hs1 hb1 w2 w1
             refine ol_r (r_pickT rfl hs139 rfl) rfl ?_
             refine ol_r (r_assign rfl) rfl ?_
             refine ol_nil (to_k0 (fun _ _ h => h) (hK13 _ _ _ _ _ ?_))
             clear hK13
             refine hQ.ret (rvs1 (rv_t rfl)) (fun _ _ h => h) fun w hb hs hB hkd => ?_
             first
               | exact ⟨rfl, hb⟩
               | (exfalso; simp at phs58; done)
               | (exfalso; first | exact phs69 p1 | exact phs79 p2 | exact phs89 p3 | exact phs99 p4 | exact phs109 p5 | exact phs119 p6 | exact phs129 p7 | exact phs139 p8)
            ·have phs139 := hs139; try simp only [decide_eq_true_eq, decide_eq_false_iff_not, Bool.not_eq_true', Bool.not_eq_false', Bool.not_true, Bool.not_false] at phs139
             refine ol_s rfl rfl hs139 rfl ?_
             refine ol_r (r_pickF rfl hs139 rfl) rfl ?_
             refine ol_r (r_assign rfl) rfl ?_
             refine ol_nil (to_k0 (fun _ _ h => h) (hK13 _ _ _ _ _ ?_))
             clear hK13
             refine hQ.ret (rvs1 (rv_t rfl)) (fun _ _ h => h) fun w hb hs hB hkd => ?_
             first
               | exact ⟨rfl, hb⟩
               | (exfalso; simp at phs58; done)
               | (exfalso; first | exact phs69 p1 | exact phs79 p2 | exact phs89 p3 | exact phs99 p4 | exact phs109 p5 | exact phs119 p6 | exact phs129 p7 | exact phs139 p8)
           ·have phs129 := hs129; try simp only [decide_eq_true_eq, decide_eq_false_iff_not, Bool.not_eq_true', Bool.not_eq_false', Bool.not_true, Bool.not_false] at phs129
            refine ol_s rfl rfl hs129 rfl ?_
            refine ol_s rfl rfl hs129 rfl ?_
            refine ol_s rfl rfl hs129 rfl ?_
            refine ol_s rfl rfl hs129 rfl ?_
            refine ol_s rfl rfl hs129 rfl ?_
            refine ol_s rfl rfl hs129 rfl ?_
            refine ol_s rfl rfl hs129 rfl ?_
            refine ol_s rfl rfl hs129 rfl ?_
            refine ol_r (r_pickF rfl hs129 rfl) rfl ?_
            refine ol_r (r_move rfl) rfl ?_
            refine ol_s rfl rfl rfl rfl ?_
            refine ol_r (r_pickF rfl rfl rfl) rfl ?_
            refine ol_r (r_assign rfl) rfl ?_
            refine ol_nil (to_k0 (fun _ _ h => h) (hK13 _ _ _ _ _ ?_))
            clear hK13
            refine hQ.ret (rvs1 (rv_t rfl)) (fun _ _ h => h) fun w hb hs hB hkd => ?_
            first
              | exact ⟨rfl, hb⟩
              | (exfalso; simp at phs58; done)
              | (exfalso; first | exact phs69 p1 | exact phs79 p2 | exact phs89 p3 | exact phs99 p4 | exact phs109 p5 | exact phs119 p6 | exact phs129 p7 | exact phs139 p8)
          ·have phs119 := hs119; try simp only [decide_eq_true_eq, decide_eq_false_iff_not, Bool.not_eq_true', Bool.not_eq_false', Bool.not_true, Bool.not_false] at phs119
           refine ol_s rfl rfl hs119 rfl ?_
           refine ol_s rfl rfl hs119 rfl ?_
           refine ol_s rfl rfl hs119 rfl ?_
           refine ol_s rfl rfl hs119 rfl ?_
           refine ol_s rfl rfl hs119 rfl ?_
           refine ol_s rfl rfl hs119 rfl ?_
           refine ol_s rfl rfl hs119 rfl ?_
           refine ol_s rfl rfl hs119 rfl ?_
           refine ol_r (r_pickF rfl hs119 rfl) rfl ?_
           refine ol_r (r_move rfl) rfl ?_
           refine ol_s rfl rfl rfl rfl ?_
           refine ol_s rfl rfl rfl rfl ?_
           refine ol_s rfl rfl rfl rfl ?_
           refine ol_s rfl rfl rfl rfl ?_
           refine ol_s rfl rfl rfl rfl ?_
           refine ol_s rfl rfl rfl rfl ?_
           refine ol_s rfl rfl rfl rfl ?_
           refine ol_s rfl rfl rfl rfl ?_
           refine ol_r (r_pickF rfl rfl rfl) rfl ?_
           refine ol_r (r_move rfl) rfl ?_
           refine ol_s rfl rfl rfl rfl ?_
           refine ol_r (r_pickF rfl rfl rfl) rfl ?_
           refine ol_r (r_assign rfl) rfl ?_
           refine ol_nil (to_k0 (fun _ _ h => h) (hK13 _ _ _ _ _ ?_))
           clear hK13
           refine hQ.ret (rvs1 (rv_t rfl)) (fun _ _ h => h) fun w hb hs hB hkd => ?_
           first
             | exact ⟨rfl, hb⟩
             | (exfalso; simp at phs58; done)
             | (exfalso; first | exact phs69 p1 | exact phs79 p2 | exact phs89 p3 | exact phs99 p4 | exact phs109 p5 | exact phs119 p6 | exact phs129 p7 | exact phs139 p8)
         ·have phs109 := hs109; try simp only [decide_eq_true_eq, decide_eq_false_iff_not, Bool.not_eq_true', Bool.not_eq_false', Bool.not_true, Bool.not_false] at phs109
          refine ol_s rfl rfl hs109 rfl ?_
          refine ol_s rfl rfl hs109 rfl ?_
          refine ol_s rfl rfl hs109 rfl ?_
          refine ol_s rfl rfl hs109 rfl ?_
          refine ol_s rfl rfl hs109 rfl ?_
          refine ol_s rfl rfl hs109 rfl ?_
          refine ol_s rfl rfl hs109 rfl ?_
          refine ol_s rfl rfl hs109 rfl ?_
          refine ol_r (r_pickF rfl hs109 rfl) rfl ?_
          refine ol_r (r_move rfl) rfl ?_
          refine ol_s rfl rfl rfl rfl ?_
          refine ol_s rfl rfl rfl rfl ?_
          refine ol_s rfl rfl rfl rfl ?_
          refine ol_s rfl rfl rfl rfl ?_
          refine ol_s rfl rfl rfl rfl ?_
          refine ol_s rfl rfl rfl rfl ?_
          refine ol_s rfl rfl rfl rfl ?_
          refine ol_s rfl rfl rfl rfl ?_
          refine ol_r (r_pickF rfl rfl rfl) rfl ?_
          refine ol_r (r_move rfl) rfl ?_
          refine ol_s rfl rfl rfl rfl ?_
          refine ol_s rfl rfl rfl rfl ?_
          refine ol_s rfl rfl rfl rfl ?_
          refine ol_s rfl rfl rfl rfl ?_
          refine ol_s rfl rfl rfl rfl ?_
          refine ol_s rfl rfl rfl rfl ?_
          refine ol_s rfl rfl rfl rfl ?_
          refine ol_s rfl rfl rfl rfl ?_
          refine ol_r (r_pickF rfl rfl rfl) rfl ?_
          refine ol_r (r_move rfl) rfl ?_
          refine ol_s rfl rfl rfl rfl ?_
          refine ol_r (r_pickF rfl rfl rfl) rfl ?_
          refine ol_r (r_assign rfl) rfl ?_
          refine ol_nil (to_k0 (fun _ _ h => h) (hK13 _ _ _ _ _ ?_))
          clear hK13
          refine hQ.ret (rvs1 (rv_t rfl)) (fun _ _ h => h) fun w hb hs hB hkd => ?_
          first
            | exact ⟨rfl, hb⟩
            | (exfalso; simp at phs58; done)
            | (exfalso; first | exact phs69 p1 | exact phs79 p2 | exact phs89 p3 | exact phs99 p4 | exact phs109 p5 | exact phs119 p6 | exact phs129 p7 | exact phs139 p8)
        ·have phs99 := hs99; try simp only [decide_eq_true_eq, decide_eq_false_iff_not, Bool.not_eq_true', Bool.not_eq_false', Bool.not_true, Bool.not_false] at phs99
         refine ol_s rfl rfl hs99 rfl ?_
         refine ol_s rfl rfl hs99 rfl ?_
         refine ol_s rfl rfl hs99 rfl ?_
         refine ol_s rfl rfl hs99 rfl ?_
         refine ol_s rfl rfl hs99 rfl ?_
         refine ol_s rfl rfl hs99 rfl ?_
         refine ol_s rfl rfl hs99 rfl ?_
         refine ol_s rfl rfl hs99 rfl ?_
         refine ol_r (r_pickF rfl hs99 rfl) rfl ?_
         refine ol_r (r_move rfl) rfl ?_
         refine ol_s rfl rfl rfl rfl ?_
         refine ol_s rfl rfl rfl rfl ?_
         refine ol_s rfl rfl rfl rfl ?_
         refine ol_s rfl rfl rfl rfl ?_
         refine ol_s rfl rfl rfl rfl ?_
         refine ol_s rfl rfl rfl rfl ?_
         refine ol_s rfl rfl rfl rfl ?_
         refine ol_s rfl rfl rfl rfl ?_
         refine ol_r (r_pickF rfl rfl rfl) rfl ?_
         refine ol_r (r_move rfl) rfl ?_
         refine ol_s rfl rfl rfl rfl ?_
         refine ol_s rfl rfl rfl rfl ?_
         refine ol_s rfl rfl rfl rfl ?_
         refine ol_s rfl rfl rfl rfl ?_
         refine ol_s rfl rfl rfl rfl ?_
         refine ol_s rfl rfl rfl rfl ?_
         refine ol_s rfl rfl rfl rfl ?_
         refine ol_s rfl rfl rfl rfl ?_
         refine ol_r (r_pickF rfl rfl rfl) rfl ?_
         refine ol_r (r_move rfl) rfl ?_
         refine ol_s rfl rfl rfl rfl ?_
         refine ol_s rfl rfl rfl rfl ?_
         refine ol_s rfl rfl rfl rfl ?_
         refine ol_s rfl rfl rfl rfl ?_
         refine ol_s rfl rfl rfl rfl ?_
         refine ol_s rfl rfl rfl rfl ?_
         refine ol_s rfl rfl rfl rfl ?_
         refine ol_s rfl rfl rfl rfl ?_
         refine ol_r (r_pickF rfl rfl rfl) rfl ?_
         refine ol_r (r_move rfl) rfl ?_
         refine ol_s rfl rfl rfl rfl ?_
         refine ol_r (r_pickF rfl rfl rfl) rfl ?_
         refine ol_r (r_assign rfl) rfl ?_
         refine ol_nil (to_k0 (fun _ _ h => h) (hK13 _ _ _ _ _ ?_))
         clear hK13
         refine hQ.ret (rvs1 (rv_t rfl)) (fun _ _ h => h) fun w hb hs hB hkd => ?_
         first
           | exact ⟨rfl, hb⟩
           | (exfalso; simp at phs58; done)
           | (exfalso; first | exact phs69 p1 | exact phs79 p2 | exact phs89 p3 | exact phs99 p4 | exact phs109 p5 | exact phs119 p6 | exact phs129 p7 | exact phs139 p8)
       ·have phs89 := hs89; try simp only [decide_eq_true_eq, decide_eq_false_iff_not, Bool.not_eq_true', Bool.not_eq_false', Bool.not_true, Bool.not_false] at phs89
        refine ol_s rfl rfl hs89 rfl ?_
        refine ol_s rfl rfl hs89 rfl ?_
        refine ol_s rfl rfl hs89 rfl ?_
        refine ol_s rfl rfl hs89 rfl ?_
        refine ol_s rfl rfl hs89 rfl ?_
        refine ol_s rfl rfl hs89 rfl ?_
        refine ol_s rfl rfl hs89 rfl ?_
        refine ol_s rfl rfl hs89 rfl ?_
        refine ol_r (r_pickF rfl hs89 rfl) rfl ?_
        refine ol_r (r_move rfl) rfl ?_
        refine ol_s rfl rfl rfl rfl ?_
        refine ol_s rfl rfl rfl rfl ?_
        refine ol_s rfl rfl rfl rfl ?_
        refine ol_s rfl rfl rfl rfl ?_
        refine ol_s rfl rfl rfl rfl ?_
        refine ol_s rfl rfl rfl rfl ?_
        refine ol_s rfl rfl rfl rfl ?_
        refine ol_s rfl rfl rfl rfl ?_
        refine ol_r (r_pickF rfl rfl rfl) rfl ?_
        refine ol_r (r_move rfl) rfl ?_
        refine ol_s rfl rfl rfl rfl ?_
        refine ol_s rfl rfl rfl rfl ?_
        refine ol_s rfl rfl rfl rfl ?_
        refine ol_s rfl rfl rfl rfl ?_
        refine ol_s rfl rfl rfl rfl ?_
        refine ol_s rfl rfl rfl rfl ?_
        refine ol_s rfl rfl rfl rfl ?_
        refine ol_s rfl rfl rfl rfl ?_
        refine ol_r (r_pickF rfl rfl rfl) rfl ?_
        refine ol_r (r_move rfl) rfl ?_
        refine ol_s rfl rfl rfl rfl ?_
        refine ol_s rfl rfl rfl rfl ?_
        refine ol_s rfl rfl rfl rfl ?_
        refine ol_s rfl rfl rfl rfl ?_
        refine ol_s rfl rfl rfl rfl ?_
        refine ol_s rfl rfl rfl rfl ?_
        refine ol_s rfl rfl rfl rfl ?_
        refine ol_s rfl rfl rfl rfl ?_
        refine ol_r (r_pickF rfl rfl rfl) rfl ?_
        refine ol_r (r_move rfl) rfl ?_
        refine ol_s rfl rfl rfl rfl ?_
        refine ol_s rfl rfl rfl rfl ?_
        refine ol_s rfl rfl rfl rfl ?_
        refine ol_s rfl rfl rfl rfl ?_
        refine ol_s rfl rfl rfl rfl ?_
        refine ol_s rfl rfl rfl rfl ?_
        refine ol_s rfl rfl rfl rfl ?_
        refine ol_s rfl rfl rfl rfl ?_
        refine ol_r (r_pickF rfl rfl rfl) rfl ?_
        refine ol_r (r_move rfl) rfl ?_
        refine ol_s rfl rfl rfl rfl ?_
        refine ol_r (r_pickF rfl rfl rfl) rfl ?_
        refine ol_r (r_assign rfl) rfl ?_
        refine ol_nil (to_k0 (fun _ _ h => h) (hK13 _ _ _ _ _ ?_))
        clear hK13
        refine hQ.ret (rvs1 (rv_t rfl)) (fun _ _ h => h) fun w hb hs hB hkd => ?_
        first
          | exact ⟨rfl, hb⟩
          | (exfalso; simp at phs58; done)
          | (exfalso; first | exact phs69 p1 | exact phs79 p2 | exact phs89 p3 | exact phs99 p4 | exact phs109 p5 | exact phs119 p6 | exact phs129 p7 | exact phs139 p8)
      ·have phs79 := hs79; try simp only [decide_eq_true_eq, decide_eq_false_iff_not, Bool.not_eq_true', Bool.not_eq_false', Bool.not_true, Bool.not_false] at phs79
       refine ol_s rfl rfl hs79 rfl ?_
       refine ol_s rfl rfl hs79 rfl ?_
       refine ol_s rfl rfl hs79 rfl ?_
       refine ol_s rfl rfl hs79 rfl ?_
       refine ol_s rfl rfl hs79 rfl ?_
       refine ol_s rfl rfl hs79 rfl ?_
       refine ol_s rfl rfl hs79 rfl ?_
       refine ol_s rfl rfl hs79 rfl ?_
       refine ol_r (r_pickF rfl hs79 rfl) rfl ?_
       refine ol_r (r_move rfl) rfl ?_
       refine ol_s rfl rfl rfl rfl ?_
       refine ol_s rfl rfl rfl rfl ?_
       refine ol_s rfl rfl rfl rfl ?_
       refine ol_s rfl rfl rfl rfl ?_
       refine ol_s rfl rfl rfl rfl ?_
       refine ol_s rfl rfl rfl rfl ?_
       refine ol_s rfl rfl rfl rfl ?_
       refine ol_s rfl rfl rfl rfl ?_
       refine ol_r (r_pickF rfl rfl rfl) rfl ?_
       refine ol_r (r_move rfl) rfl ?_
       refine ol_s rfl rfl rfl rfl ?_
       refine ol_s rfl rfl rfl rfl ?_
       refine ol_s rfl rfl rfl rfl ?_
       refine ol_s rfl rfl rfl rfl ?_
       refine ol_s rfl rfl rfl rfl ?_
       refine ol_s rfl rfl rfl rfl ?_
       refine ol_s rfl rfl rfl rfl ?_
       refine ol_s rfl rfl rfl rfl ?_
       refine ol_r (r_pickF rfl rfl rfl) rfl ?_
       refine ol_r (r_move rfl) rfl ?_
       refine ol_s rfl rfl rfl rfl ?_
       refine ol_s rfl rfl rfl rfl ?_
       refine ol_s rfl rfl rfl rfl ?_
       refine ol_s rfl rfl rfl rfl ?_
       refine ol_s rfl rfl rfl rfl ?_
       refine ol_s rfl rfl rfl rfl ?_
       refine ol_s rfl rfl rfl rfl ?_
       refine ol_s rfl rfl rfl rfl ?_
       refine ol_r (r_pickF rfl rfl rfl) rfl ?_
       refine ol_r (r_move rfl) rfl ?_
       refine ol_s rfl rfl rfl rfl ?_
       refine ol_s rfl rfl rfl rfl ?_
       refine ol_s rfl rfl rfl rfl ?_
       refine ol_s rfl rfl rfl rfl ?_
       refine ol_s rfl rfl rfl rfl ?_
       refine ol_s rfl rfl rfl rfl ?_
       refine ol_s rfl rfl rfl rfl ?_
       refine ol_s rfl rfl rfl rfl ?_
       refine ol_r (r_pickF rfl rfl rfl) rfl ?_
       refine ol_r (r_move rfl) rfl ?_
       refine ol_s rfl rfl rfl rfl ?_
       refine ol_s rfl rfl rfl rfl ?_
       refine ol_s rfl rfl rfl rfl ?_
       refine ol_s rfl rfl rfl rfl ?_
       refine ol_s rfl rfl rfl rfl ?_
       refine ol_s rfl rfl rfl rfl ?_
       refine ol_s rfl rfl rfl rfl ?_
       refine ol_s rfl rfl rfl rfl ?_
       refine ol_r (r_pickF rfl rfl rfl) rfl ?_
       refine ol_r (r_move rfl) rfl ?_
       refine ol_s rfl rfl rfl rfl ?_
       refine ol_r (r_pickF rfl rfl rfl) rfl ?_
       refine ol_r (r_assign rfl) rfl ?_
       refine ol_nil (to_k0 (fun _ _ h => h) (hK13 _ _ _ _ _ ?_))
       clear hK13
       refine hQ.ret (rvs1 (rv_t rfl)) (fun _ _ h => h) fun w hb hs hB hkd => ?_
       first
         | exact ⟨rfl, hb⟩
         | (exfalso; simp at phs58; done)
         | (exfalso; first | exact phs69 p1 | exact phs79 p2 | exact phs89 p3 | exact phs99 p4 | exact phs109 p5 | exact phs119 p6 | exact phs129 p7 | exact phs139 p8)
     ·have phs69 := hs69; try simp only [decide_eq_true_eq, decide_eq_false_iff_not, Bool.not_eq_true', Bool.not_eq_false', Bool.not_true, Bool.not_false] at phs69
      refine ol_s rfl rfl hs69 rfl ?_
      refine ol_s rfl rfl hs69 rfl ?_
      refine ol_s rfl rfl hs69 rfl ?_
      refine ol_s rfl rfl hs69 rfl ?_
      refine ol_s rfl rfl hs69 rfl ?_
      refine ol_s rfl rfl hs69 rfl ?_
      refine ol_s rfl rfl hs69 rfl ?_
      refine ol_s rfl rfl hs69 rfl ?_
      refine ol_r (r_pickF rfl hs69 rfl) rfl ?_
      refine ol_r (r_move rfl) rfl ?_
      refine ol_s rfl rfl rfl rfl ?_
      refine ol_s rfl rfl rfl rfl ?_
      refine ol_s rfl rfl rfl rfl ?_
      refine ol_s rfl rfl rfl rfl ?_
      refine ol_s rfl rfl rfl rfl ?_
      refine ol_s rfl rfl rfl rfl ?_
      refine ol_s rfl rfl rfl rfl ?_
      refine ol_s rfl rfl rfl rfl ?_
      refine ol_r (r_pickF rfl rfl rfl) rfl ?_
      refine ol_r (r_move rfl) rfl ?_
      refine ol_s rfl rfl rfl rfl ?_
      refine ol_s rfl rfl rfl rfl ?_
      refine ol_s rfl rfl rfl rfl ?_
      refine ol_s rfl rfl rfl rfl ?_
      refine ol_s rfl rfl rfl rfl ?_
      refine ol_s rfl rfl rfl rfl ?_
      refine ol_s rfl rfl rfl rfl ?_
      refine ol_s rfl rfl rfl rfl ?_
      refine ol_r (r_pickF rfl rfl rfl) rfl ?_
      refine ol_r (r_move rfl) rfl ?_
      refine ol_s rfl rfl rfl rfl ?_
      refine ol_s rfl rfl rfl rfl ?_
      refine ol_s rfl rfl rfl rfl ?_
      refine ol_s rfl rfl rfl rfl ?_
      refine ol_s rfl rfl rfl rfl ?_
      refine ol_s rfl rfl rfl rfl ?_
      refine ol_s rfl rfl rfl rfl ?_
      refine ol_s rfl rfl rfl rfl ?_
      refine ol_r (r_pickF rfl rfl rfl) rfl ?_
      refine ol_r (r_move rfl) rfl ?_
      refine ol_s rfl rfl rfl rfl ?_
      refine ol_s rfl rfl rfl rfl ?_
      refine ol_s rfl rfl rfl rfl ?_
      refine ol_s rfl rfl rfl rfl ?_
      refine ol_s rfl rfl rfl rfl ?_
      refine ol_s rfl rfl rfl rfl ?_
      refine ol_s rfl rfl rfl rfl ?_
      refine ol_s rfl rfl rfl rfl ?_
      refine ol_r (r_pickF rfl rfl rfl) rfl ?_
      refine ol_r (r_move rfl) rfl ?_
      refine ol_s rfl rfl rfl rfl ?_
      refine ol_s rfl rfl rfl rfl ?_
      refine ol_s rfl rfl rfl rfl ?_
      refine ol_s rfl rfl rfl rfl ?_
      refine ol_s rfl rfl rfl rfl ?_
      refine ol_s rfl rfl rfl rfl ?_
      refine ol_s rfl rfl rfl rfl ?_
      refine ol_s rfl rfl rfl rfl ?_
      refine ol_r (r_pickF rfl rfl rfl) rfl ?_
      refine ol_r (r_move rfl) rfl ?_
      refine ol_s rfl rfl rfl rfl ?_
      refine ol_s rfl rfl rfl rfl ?_
      refine ol_s rfl rfl rfl rfl ?_
      refine ol_s rfl rfl rfl rfl ?_
      refine ol_s rfl rfl rfl rfl ?_
      refine ol_s rfl rfl rfl rfl ?_
      refine ol_s rfl rfl rfl rfl ?_
      refine ol_s rfl rfl rfl rfl ?_
      refine ol_r (r_pickF rfl rfl rfl) rfl ?_
      refine ol_r (r_move rfl) rfl ?_
      refine ol_s rfl rfl rfl rfl ?_
      refine ol_r (r_pickF rfl rfl rfl) rfl ?_
      refine ol_r (r_assign rfl) rfl ?_
      refine ol_nil (to_k0 (fun _ _ h => h) (hK13 _ _ _ _ _ ?_))
      clear hK13
      refine hQ.ret (rvs1 (rv_t rfl)) (fun _ _ h => h) fun w hb hs hB hkd => ?_
      first
        | exact ⟨rfl, hb⟩
        | (exfalso; simp at phs58; done)
        | (exfalso; first | exact phs69 p1 | exact phs79 p2 | exact phs89 p3 | exact phs99 p4 | exact phs109 p5 | exact phs119 p6 | exact phs129 p7 | exact phs139 p8)
end Go.Proofs.Ytafkojlccknicaa
