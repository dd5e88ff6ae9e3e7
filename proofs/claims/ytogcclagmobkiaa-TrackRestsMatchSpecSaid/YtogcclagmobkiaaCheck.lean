/-
  Check: the reference.
-/
import Derived.Test.YtogcclagmobkiaaCheckP
import Derived.Test.YtogcclagmobkiaaAct
namespace Go.Proofs.Ytogcclagmobkiaa
open Go Go.RowKit Hx
set_option linter.unusedVariables false
set_option linter.unusedSimpArgs false
set_option maxRecDepth 8000
theorem ref2_sampleFault (A : ActV) (k : Nat) (x : SmpR) (w : World) (hA : A.Ok w.heap.size w) (hx : A.ss[k]? = some x) (hst : 0 ≤ A.start ∧ A.start ≤ 86399999999) (hpos : ∀ j y, j < k → A.ss[j]? = some y → 0 ≤ y.at_) :
    Calls Try.prog 99 #[.agg #[.string A.name, .int .i64 A.sport, .int .i64 A.start, .slice A.sa A.sn A.sc, .slice A.la A.ln A.lc, .slice A.ta A.tn A.tc], .int .i64 k] w fun e w' => e = .returned (.int .i64 (fS A.start (ahead A.ss k) x)) ∧ Below w.heap.size w w' := by
  have hsn := hA.s.len
  have hsf := hA.s.fit
  have hlt := (List.getElem?_eq_some_iff.1 hx).1
  refine enterQ (N := 71) (C := fun _ => True) (H := []) (B := w.heap.size) (args := [_, _]) Try.func99 rfl rfl rfl (Nat.le_refl _) (Sat.nil _ _) fun Q hQ => ?_
  refine wp_seq' fun K1 hK1 => ?_
  refine wp_reg ?_
  refine ol_box 2 rfl rfl rfl fun b2 => ?_
  refine ol_r (r_assign rfl) rfl ?_
  refine ol_nil (to_k0 (fun _ _ h => h) (hK1 _ _ _ _ _ ?_))
  clear hK1
  refine wp_seq' fun K2 hK2 => ?_
  refine wp_reg ?_
  refine ol_r (r_fa (o' := 3) rfl fl26_3 rfl) rfl ?_
  refine ol_r (r_ld (id := 2) rfl rfl rfl sc22) rfl ?_
  refine ol_r (r_move rfl) rfl ?_
  refine ol_ixr hA.s rfl rfl sl22 (by omega) rfl fun x9 hx9 => ?_
  try simp only [Int.toNat_natCast] at hx9
  have h9 : x9 = x := by rw [hx] at hx9; cases hx9; rfl
  subst h9
  refine ol_r (r_ldw rfl (fun w1 hb1 hs1 hB1 => Rd.loads hA.s ty28 hx9 hb1)) rfl ?_
  refine ol_alloc 5 z28 rfl fun b5 => ?_
  refine ol_store (id := 5) rfl rfl rfl rfl sz28 rfl rfl (by first | decide | exact Nat.zero_lt_succ _ | simp) ?_
  refine ol_nil (to_k0 (fun _ _ h => h) (hK2 _ _ _ _ _ ?_))
  clear hK2
  refine wp_seq' fun K3 hK3 => ?_
  refine wp_seq' fun K4 hK4 => ?_
  refine wp_regq (by kernel_rfl) (by kernel_rfl) ?_
  refine ql_r (r_move rfl) rfl ?_
  refine ql_r (r_eql rfl rfl) rfl ?_
  refine ql_r (r_move rfl) rfl ?_
  refine ql_split (d := 13) rfl (fun hs13 => ?_) (fun hs13 => ?_)
  ·have phs13 := hs13; try simp only [decide_eq_true_eq, decide_eq_false_iff_not, Bool.not_eq_true', Bool.not_eq_false', Bool.not_true, Bool.not_false] at phs13
   refine ql_g rfl rfl hs13 ?_
   refine ql_r (r_fa (o' := 0) rfl fl28_0 rfl) rfl ?_
   refine ql_g rfl rfl hs13 ?_
   refine ql_r (r_ld (id := 5) rfl rfl rfl sc3) rfl ?_
   refine ql_g rfl rfl hs13 ?_
   refine ql_r (r_neq rfl rfl) rfl ?_
   refine ql_r (r_pickT rfl hs13 rfl) rfl ?_
   refine ql_r (r_move rfl) rfl ?_
   refine ql_split (d := 18) rfl (fun hs18 => ?_) (fun hs18 => ?_)
   ·have phs18 := hs18; try simp only [decide_eq_true_eq, decide_eq_false_iff_not, Bool.not_eq_true', Bool.not_eq_false', Bool.not_true, Bool.not_false] at phs18
    refine ql_s rfl rfl hs18 rfl ?_
    refine ql_s rfl rfl hs18 rfl ?_
    refine ql_s rfl rfl hs18 rfl ?_
    refine ql_u rfl rfl rfl ?_
    refine ql_u rfl rfl rfl ?_
    refine ql_u rfl rfl rfl ?_
    refine ql_u rfl rfl rfl ?_
    refine ql_u rfl rfl rfl ?_
    refine ql_u rfl rfl rfl ?_
    refine ql_u rfl rfl rfl ?_
    refine ql_u rfl rfl rfl ?_
    refine ql_u rfl rfl rfl ?_
    refine ql_u rfl rfl rfl ?_
    refine ql_s rfl rfl hs18 rfl ?_
    refine ql_r (r_pickT rfl hs18 rfl) rfl ?_
    refine ql_nil (to_k0 (fun _ _ h => h) (hK4 _ _ _ _ _ ?_))
    clear hK4
    refine wp_condT rfl ?_
    refine wp_seq' fun K5 hK5 => ?_
    refine wp_reg ?_
    refine ol_r (r_assign rfl) rfl ?_
    refine ol_nil (to_k0 (fun _ _ h => h) (hK5 _ _ _ _ _ ?_))
    clear hK5
    refine hQ.ret (rvs1 (rv_t rfl)) (fun _ _ h => h) fun w hb hs hB hkd => ?_
    first
      | (have ho : ordS (ahead A.ss k) x9 = true := by
           first
             | (rw [ordS_0 (by omega), decide_eq_true (by omega)]; done)
             | (rw [ordS_1 (by omega) hx28, decide_eq_true (by omega)]; done)
         have h := fS_10 (st := A.start) ho
         refine ⟨?_, hb⟩
         rw [h]
         done)
   ·have phs18 := hs18; try simp only [decide_eq_true_eq, decide_eq_false_iff_not, Bool.not_eq_true', Bool.not_eq_false', Bool.not_true, Bool.not_false] at phs18
    refine ql_g rfl rfl hs18 ?_
    refine ql_r (r_move rfl) rfl ?_
    refine ql_g rfl rfl hs18 ?_
    refine ql_r (r_gtr rfl rfl) rfl ?_
    refine ql_g rfl rfl hs18 ?_
    refine ql_r (r_move rfl) rfl ?_
    refine ql_split (d := 21) rfl (fun hs21 => ?_) (fun hs21 => ?_)
    ·have phs21 := hs21; try simp only [decide_eq_true_eq, decide_eq_false_iff_not, Bool.not_eq_true', Bool.not_eq_false', Bool.not_true, Bool.not_false] at phs21
     refine ql_g rfl rfl hs21 ?_
     refine ql_r (r_fa (o' := 0) rfl fl28_0 rfl) rfl ?_
     refine ql_g rfl rfl hs21 ?_
     refine ql_r (r_ld (id := 5) rfl rfl rfl sc3) rfl ?_
     refine ql_g rfl rfl hs21 ?_
     refine ql_r (r_fa (o' := 3) rfl fl26_3 rfl) rfl ?_
     refine ql_g rfl rfl hs21 ?_
     refine ql_r (r_ld (id := 2) rfl rfl rfl sc22) rfl ?_
     refine ql_g rfl rfl hs21 ?_
     refine ql_r (r_move rfl) rfl ?_
     refine ql_g rfl rfl hs21 ?_
     refine ql_r (r_sub rfl rfl (by omega)) rfl ?_
     refine ql_g rfl rfl hs21 ?_
     refine ql_ixr hA.s rfl rfl sl22 (by omega) rfl fun x28 hx28 => ?_
     try simp only [Int.toNat_natCast] at hx28
     refine ql_g rfl rfl hs21 ?_
     refine ql_r (r_faw rfl (ix_some hA.s (by omega)) fl28_0) rfl ?_
     refine ql_g rfl rfl hs21 ?_
     refine ql_r (r_ldw rfl (fun w1 hb1 hs1 hB1 => Rd.loadsF (o := 0) hA.s sc3 hx28 hb1 rfl)) rfl ?_
     refine ql_g rfl rfl hs21 ?_
     refine ql_r (r_leq rfl rfl) rfl ?_
     refine ql_g rfl rfl hs18 ?_
     refine ql_r (r_pickT rfl hs21 rfl) rfl ?_
     refine ql_r (r_pickF rfl hs18 rfl) rfl ?_
     refine ql_nil (to_k0 (fun _ _ h => h) (hK4 _ _ _ _ _ ?_))
     clear hK4
     refine wp_condD rfl (fun hc33 => ?_) (fun hc33 => ?_)
     ·refine wp_seq' fun K6 hK6 => ?_
      refine wp_reg ?_
      refine ol_r (r_assign rfl) rfl ?_
      refine ol_nil (to_k0 (fun _ _ h => h) (hK6 _ _ _ _ _ ?_))
      clear hK6
      refine hQ.ret (rvs1 (rv_t rfl)) (fun _ _ h => h) fun w hb hs hB hkd => ?_
      first
        | (exfalso; omega)
     ·refine wp_skip' (to_k0 (fun _ _ h => h) (hK3 _ _ _ _ _ ?_))
      clear hK3
      refine wp_seq' fun K7 hK7 => ?_
      refine wp_seq' fun K8 hK8 => ?_
      refine wp_reg ?_
      refine ol_r (r_fa (o' := 0) rfl fl28_0 rfl) rfl ?_
      refine ol_r (r_ld (id := 5) rfl rfl rfl sc3) rfl ?_
      refine ol_r (r_gtr rfl rfl) rfl ?_
      refine ol_r (r_move rfl) rfl ?_
      refine ol_split (d := 37) rfl (fun hs37 => ?_) (fun hs37 => ?_)
      ·have phs37 := hs37; try simp only [decide_eq_true_eq, decide_eq_false_iff_not, Bool.not_eq_true', Bool.not_eq_false', Bool.not_true, Bool.not_false] at phs37
       refine ol_s rfl rfl hs37 rfl ?_
       refine ol_s rfl rfl hs37 rfl ?_
       refine ol_s rfl rfl hs37 rfl ?_
       refine ol_s rfl rfl hs37 rfl ?_
       refine ol_s rfl rfl hs37 rfl ?_
       refine ol_s rfl rfl hs37 rfl ?_
       refine ol_r (r_pickT rfl hs37 rfl) rfl ?_
       refine ol_nil (to_k0 (fun _ _ h => h) (hK8 _ _ _ _ _ ?_))
       clear hK8
       refine wp_condT rfl ?_
       refine wp_seq' fun K9 hK9 => ?_
       refine wp_reg ?_
       refine ol_r (r_assign rfl) rfl ?_
       refine ol_nil (to_k0 (fun _ _ h => h) (hK9 _ _ _ _ _ ?_))
       clear hK9
       refine hQ.ret (rvs1 (rv_t rfl)) (fun _ _ h => h) fun w hb hs hB hkd => ?_
       first
         | (exfalso; omega)
      ·have phs37 := hs37; try simp only [decide_eq_true_eq, decide_eq_false_iff_not, Bool.not_eq_true', Bool.not_eq_false', Bool.not_true, Bool.not_false] at phs37
       refine ol_g rfl rfl hs37 ?_
       refine ol_r (r_fa (o' := 2) rfl fl26_2 rfl) rfl ?_
       refine ol_g rfl rfl hs37 ?_
       refine ol_r (r_ld (id := 2) rfl rfl rfl sc3) rfl ?_
       refine ol_g rfl rfl hs37 ?_
       refine ol_r (r_fa (o' := 0) rfl fl28_0 rfl) rfl ?_
       refine ol_g rfl rfl hs37 ?_
       refine ol_r (r_ld (id := 5) rfl rfl rfl sc3) rfl ?_
       refine ol_g rfl rfl hs37 ?_
       have hlo := hA.lo _ (List.mem_of_getElem? hx9)
       have hat : 0 ≤ x9.at_ := by
         first
           | (have h1 := hpos _ _ (by omega) hx28
              omega)
           | omega
       refine ol_r (r_add rfl rfl (by omega)) rfl ?_
       refine ol_g rfl rfl hs37 ?_
       refine ol_r (r_gtr rfl rfl) rfl ?_
       refine ol_r (r_pickF rfl hs37 rfl) rfl ?_
       refine ol_nil (to_k0 (fun _ _ h => h) (hK8 _ _ _ _ _ ?_))
       clear hK8
       refine wp_condD rfl (fun hc44 => ?_) (fun hc44 => ?_)
       ·refine wp_seq' fun K10 hK10 => ?_
        refine wp_reg ?_
        refine ol_r (r_assign rfl) rfl ?_
        refine ol_nil (to_k0 (fun _ _ h => h) (hK10 _ _ _ _ _ ?_))
        clear hK10
        refine hQ.ret (rvs1 (rv_t rfl)) (fun _ _ h => h) fun w hb hs hB hkd => ?_
        first
          | (exfalso; omega)
       ·refine wp_skip' (to_k0 (fun _ _ h => h) (hK7 _ _ _ _ _ ?_))
        clear hK7
        refine wp_seq' fun K11 hK11 => ?_
        refine wp_seq' fun K12 hK12 => ?_
        refine wp_reg ?_
        refine ol_r (r_fa (o' := 1) rfl fl28_1 rfl) rfl ?_
        refine ol_r (r_ld (id := 5) rfl rfl rfl sc3) rfl ?_
        refine ol_call rfl rfl cb98 rfl (fun w1 hb1 hs1 hB1 => Calls.mono (ref2_outside _ _ _ _) ?_)
        rintro e w2 ⟨rfl, hb2⟩
        refine After.below rfl hb1 hs1 hB1 hb2 ?_
        clear hb2 hB1 hs1 hb1 w2 w1
        refine ol_r (r_move rfl) rfl ?_
        refine ol_split (d := 48) rfl (fun hs48 => ?_) (fun hs48 => ?_)
        ·have phs48 := hs48; try simp only [decide_eq_true_eq, decide_eq_false_iff_not, Bool.not_eq_true', Bool.not_eq_false', Bool.not_true, Bool.not_false] at phs48
         refine ol_s rfl rfl hs48 rfl ?_
         refine ol_s rfl rfl hs48 rfl ?_
         refine ol_s rfl rfl hs48 rfl ?_
         refine ol_r (r_pickT rfl hs48 rfl) rfl ?_
         refine ol_r (r_move rfl) rfl ?_
         refine ol_s rfl rfl rfl rfl ?_
         refine ol_s rfl rfl rfl rfl ?_
         refine ol_s rfl rfl rfl rfl ?_
         refine ol_r (r_pickT rfl rfl rfl) rfl ?_
         refine ol_nil (to_k0 (fun _ _ h => h) (hK12 _ _ _ _ _ ?_))
         clear hK12
         refine wp_condT rfl ?_
         refine wp_seq' fun K13 hK13 => ?_
         refine wp_reg ?_
         refine ol_r (r_assign rfl) rfl ?_
         refine ol_nil (to_k0 (fun _ _ h => h) (hK13 _ _ _ _ _ ?_))
         clear hK13
         refine hQ.ret (rvs1 (rv_t rfl)) (fun _ _ h => h) fun w hb hs hB hkd => ?_
         first
           | (exfalso; omega)
        ·have phs48 := hs48; try simp only [decide_eq_true_eq, decide_eq_false_iff_not, Bool.not_eq_true', Bool.not_eq_false', Bool.not_true, Bool.not_false] at phs48
         refine ol_g rfl rfl hs48 ?_
         refine ol_r (r_fa (o' := 2) rfl fl28_2 rfl) rfl ?_
         refine ol_g rfl rfl hs48 ?_
         refine ol_r (r_ld (id := 5) rfl rfl rfl sc3) rfl ?_
         refine ol_g rfl rfl hs48 ?_
         refine ol_call rfl rfl cb98 rfl (fun w1 hb1 hs1 hB1 => Calls.mono (ref2_outside _ _ _ _) ?_)
         rintro e w2 ⟨rfl, hb2⟩
         refine After.below rfl hb1 hs1 hB1 hb2 ?_
         clear hb2 hB1 hs1 hb1 w2 w1
         refine ol_r (r_pickF rfl hs48 rfl) rfl ?_
         refine ol_r (r_move rfl) rfl ?_
         refine ol_split (d := 53) rfl (fun hs53 => ?_) (fun hs53 => ?_)
         ·have phs53 := hs53; try simp only [decide_eq_true_eq, decide_eq_false_iff_not, Bool.not_eq_true', Bool.not_eq_false', Bool.not_true, Bool.not_false] at phs53
          refine ol_s rfl rfl hs53 rfl ?_
          refine ol_s rfl rfl hs53 rfl ?_
          refine ol_s rfl rfl hs53 rfl ?_
          refine ol_r (r_pickT rfl hs53 rfl) rfl ?_
          refine ol_nil (to_k0 (fun _ _ h => h) (hK12 _ _ _ _ _ ?_))
          clear hK12
          refine wp_condT rfl ?_
          refine wp_seq' fun K14 hK14 => ?_
          refine wp_reg ?_
          refine ol_r (r_assign rfl) rfl ?_
          refine ol_nil (to_k0 (fun _ _ h => h) (hK14 _ _ _ _ _ ?_))
          clear hK14
          refine hQ.ret (rvs1 (rv_t rfl)) (fun _ _ h => h) fun w hb hs hB hkd => ?_
          first
            | (exfalso; omega)
         ·have phs53 := hs53; try simp only [decide_eq_true_eq, decide_eq_false_iff_not, Bool.not_eq_true', Bool.not_eq_false', Bool.not_true, Bool.not_false] at phs53
          refine ol_g rfl rfl hs53 ?_
          refine ol_r (r_fa (o' := 3) rfl fl28_3 rfl) rfl ?_
          refine ol_g rfl rfl hs53 ?_
          refine ol_r (r_ld (id := 5) rfl rfl rfl sc3) rfl ?_
          refine ol_g rfl rfl hs53 ?_
          refine ol_call rfl rfl cb98 rfl (fun w1 hb1 hs1 hB1 => Calls.mono (ref2_outside _ _ _ _) ?_)
          rintro e w2 ⟨rfl, hb2⟩
          refine After.below rfl hb1 hs1 hB1 hb2 ?_
          clear hb2 hB1 hs1 hb1 w2 w1
          refine ol_r (r_pickF rfl hs53 rfl) rfl ?_
          refine ol_nil (to_k0 (fun _ _ h => h) (hK12 _ _ _ _ _ ?_))
          clear hK12
          refine wp_condNB rfl (fun hc57 => ?_) (fun hc57 => ?_)
          ·refine wp_seq' fun K15 hK15 => ?_
           refine wp_reg ?_
           refine ol_r (r_assign rfl) rfl ?_
           refine ol_nil (to_k0 (fun _ _ h => h) (hK15 _ _ _ _ _ ?_))
           clear hK15
           refine hQ.ret (rvs1 (rv_t rfl)) (fun _ _ h => h) fun w hb hs hB hkd => ?_
           first
             | (exfalso; omega)
          ·refine wp_skip' (to_k0 (fun _ _ h => h) (hK11 _ _ _ _ _ ?_))
           clear hK11
           refine wp_seq' fun K16 hK16 => ?_
           refine wp_seq' fun K17 hK17 => ?_
           refine wp_reg ?_
           refine ol_r (r_fa (o' := 4) rfl fl28_4 rfl) rfl ?_
           refine ol_r (r_ld (id := 5) rfl rfl rfl sc3) rfl ?_
           refine ol_call rfl rfl cb98 rfl (fun w1 hb1 hs1 hB1 => Calls.mono (ref2_outside _ _ _ _) ?_)
           rintro e w2 ⟨rfl, hb2⟩
           refine After.below rfl hb1 hs1 hB1 hb2 ?_
           clear hb2 hB1 hs1 hb1 w2 w1
           refine ol_r (r_move rfl) rfl ?_
           refine ol_split (d := 61) rfl (fun hs61 => ?_) (fun hs61 => ?_)
           ·have phs61 := hs61; try simp only [decide_eq_true_eq, decide_eq_false_iff_not, Bool.not_eq_true', Bool.not_eq_false', Bool.not_true, Bool.not_false] at phs61
            refine ol_s rfl rfl hs61 rfl ?_
            refine ol_s rfl rfl hs61 rfl ?_
            refine ol_s rfl rfl hs61 rfl ?_
            refine ol_r (r_pickT rfl hs61 rfl) rfl ?_
            refine ol_r (r_move rfl) rfl ?_
            refine ol_s rfl rfl rfl rfl ?_
            refine ol_s rfl rfl rfl rfl ?_
            refine ol_s rfl rfl rfl rfl ?_
            refine ol_r (r_pickT rfl rfl rfl) rfl ?_
            refine ol_nil (to_k0 (fun _ _ h => h) (hK17 _ _ _ _ _ ?_))
            clear hK17
            refine wp_condT rfl ?_
            refine wp_seq' fun K18 hK18 => ?_
            refine wp_reg ?_
            refine ol_r (r_assign rfl) rfl ?_
            refine ol_nil (to_k0 (fun _ _ h => h) (hK18 _ _ _ _ _ ?_))
            clear hK18
            refine hQ.ret (rvs1 (rv_t rfl)) (fun _ _ h => h) fun w hb hs hB hkd => ?_
            first
              | (exfalso; omega)
           ·have phs61 := hs61; try simp only [decide_eq_true_eq, decide_eq_false_iff_not, Bool.not_eq_true', Bool.not_eq_false', Bool.not_true, Bool.not_false] at phs61
            refine ol_g rfl rfl hs61 ?_
            refine ol_r (r_fa (o' := 5) rfl fl28_5 rfl) rfl ?_
            refine ol_g rfl rfl hs61 ?_
            refine ol_r (r_ld (id := 5) rfl rfl rfl sc3) rfl ?_
            refine ol_g rfl rfl hs61 ?_
            refine ol_call rfl rfl cb98 rfl (fun w1 hb1 hs1 hB1 => Calls.mono (ref2_outside _ _ _ _) ?_)
            rintro e w2 ⟨rfl, hb2⟩
            refine After.below rfl hb1 hs1 hB1 hb2 ?_
            clear hb2 hB1 hs1 hb1 w2 w1
            refine ol_r (r_pickF rfl hs61 rfl) rfl ?_
            refine ol_r (r_move rfl) rfl ?_
            refine ol_split (d := 66) rfl (fun hs66 => ?_) (fun hs66 => ?_)
            ·have phs66 := hs66; try simp only [decide_eq_true_eq, decide_eq_false_iff_not, Bool.not_eq_true', Bool.not_eq_false', Bool.not_true, Bool.not_false] at phs66
             refine ol_s rfl rfl hs66 rfl ?_
             refine ol_s rfl rfl hs66 rfl ?_
             refine ol_s rfl rfl hs66 rfl ?_
             refine ol_r (r_pickT rfl hs66 rfl) rfl ?_
             refine ol_nil (to_k0 (fun _ _ h => h) (hK17 _ _ _ _ _ ?_))
             clear hK17
             refine wp_condT rfl ?_
             refine wp_seq' fun K19 hK19 => ?_
             refine wp_reg ?_
             refine ol_r (r_assign rfl) rfl ?_
             refine ol_nil (to_k0 (fun _ _ h => h) (hK19 _ _ _ _ _ ?_))
             clear hK19
             refine hQ.ret (rvs1 (rv_t rfl)) (fun _ _ h => h) fun w hb hs hB hkd => ?_
             first
               | (exfalso; omega)
            ·have phs66 := hs66; try simp only [decide_eq_true_eq, decide_eq_false_iff_not, Bool.not_eq_true', Bool.not_eq_false', Bool.not_true, Bool.not_false] at phs66
             refine ol_g rfl rfl hs66 ?_
             refine ol_r (r_fa (o' := 6) rfl fl28_6 rfl) rfl ?_
             refine ol_g rfl rfl hs66 ?_
             refine ol_r (r_ld (id := 5) rfl rfl rfl sc3) rfl ?_
             refine ol_g rfl rfl hs66 ?_
             refine ol_call rfl rfl cb98 rfl (fun w1 hb1 hs1 hB1 => Calls.mono (ref2_outside _ _ _ _) ?_)
             rintro e w2 ⟨rfl, hb2⟩
             refine After.below rfl hb1 hs1 hB1 hb2 ?_
             clear hb2 hB1 hs1 hb1 w2 w1
             refine ol_r (r_pickF rfl hs66 rfl) rfl ?_
             refine ol_nil (to_k0 (fun _ _ h => h) (hK17 _ _ _ _ _ ?_))
             clear hK17
             refine wp_condNB rfl (fun hc70 => ?_) (fun hc70 => ?_)
             ·refine wp_seq' fun K20 hK20 => ?_
              refine wp_reg ?_
              refine ol_r (r_assign rfl) rfl ?_
              refine ol_nil (to_k0 (fun _ _ h => h) (hK20 _ _ _ _ _ ?_))
              clear hK20
              refine hQ.ret (rvs1 (rv_t rfl)) (fun _ _ h => h) fun w hb hs hB hkd => ?_
              first
                | (exfalso; omega)
             ·refine wp_skip' (to_k0 (fun _ _ h => h) (hK16 _ _ _ _ _ ?_))
              clear hK16
              refine wp_seq' fun K21 hK21 => ?_
              refine wp_reg ?_
              refine ol_r (r_assign rfl) rfl ?_
              refine ol_nil (to_k0 (fun _ _ h => h) (hK21 _ _ _ _ _ ?_))
              clear hK21
              refine hQ.ret (rvs1 (rv_t rfl)) (fun _ _ h => h) fun w hb hs hB hkd => ?_
              first
                | (exfalso; omega)
    ·have phs21 := hs21; try simp only [decide_eq_true_eq, decide_eq_false_iff_not, Bool.not_eq_true', Bool.not_eq_false', Bool.not_true, Bool.not_false] at phs21
     refine ql_s rfl rfl hs21 rfl ?_
     refine ql_s rfl rfl hs21 rfl ?_
     refine ql_s rfl rfl hs21 rfl ?_
     refine ql_s rfl rfl hs21 rfl ?_
     refine ql_s rfl rfl hs21 rfl ?_
     refine ql_s rfl rfl hs21 rfl ?_
     refine ql_s rfl rfl hs21 rfl ?_
     refine ql_s rfl rfl hs21 rfl ?_
     refine ql_s rfl rfl hs21 rfl ?_
     refine ql_s rfl rfl hs21 rfl ?_
     refine ql_g rfl rfl hs18 ?_
     refine ql_r (r_pickF rfl hs21 rfl) rfl ?_
     refine ql_r (r_pickF rfl hs18 rfl) rfl ?_
     refine ql_nil (to_k0 (fun _ _ h => h) (hK4 _ _ _ _ _ ?_))
     clear hK4
     refine wp_condF rfl ?_
     refine wp_skip' (to_k0 (fun _ _ h => h) (hK3 _ _ _ _ _ ?_))
     clear hK3
     refine wp_seq' fun K22 hK22 => ?_
     refine wp_seq' fun K23 hK23 => ?_
     refine wp_reg ?_
     refine ol_r (r_fa (o' := 0) rfl fl28_0 rfl) rfl ?_
     refine ol_r (r_ld (id := 5) rfl rfl rfl sc3) rfl ?_
     refine ol_r (r_gtr rfl rfl) rfl ?_
     refine ol_r (r_move rfl) rfl ?_
     refine ol_split (d := 37) rfl (fun hs37 => ?_) (fun hs37 => ?_)
     ·have phs37 := hs37; try simp only [decide_eq_true_eq, decide_eq_false_iff_not, Bool.not_eq_true', Bool.not_eq_false', Bool.not_true, Bool.not_false] at phs37
      refine ol_s rfl rfl hs37 rfl ?_
      refine ol_s rfl rfl hs37 rfl ?_
      refine ol_s rfl rfl hs37 rfl ?_
      refine ol_s rfl rfl hs37 rfl ?_
      refine ol_s rfl rfl hs37 rfl ?_
      refine ol_s rfl rfl hs37 rfl ?_
      refine ol_r (r_pickT rfl hs37 rfl) rfl ?_
      refine ol_nil (to_k0 (fun _ _ h => h) (hK23 _ _ _ _ _ ?_))
      clear hK23
      refine wp_condT rfl ?_
      refine wp_seq' fun K24 hK24 => ?_
      refine wp_reg ?_
      refine ol_r (r_assign rfl) rfl ?_
      refine ol_nil (to_k0 (fun _ _ h => h) (hK24 _ _ _ _ _ ?_))
      clear hK24
      refine hQ.ret (rvs1 (rv_t rfl)) (fun _ _ h => h) fun w hb hs hB hkd => ?_
      first
        | (exfalso; omega)
     ·have phs37 := hs37; try simp only [decide_eq_true_eq, decide_eq_false_iff_not, Bool.not_eq_true', Bool.not_eq_false', Bool.not_true, Bool.not_false] at phs37
      refine ol_g rfl rfl hs37 ?_
      refine ol_r (r_fa (o' := 2) rfl fl26_2 rfl) rfl ?_
      refine ol_g rfl rfl hs37 ?_
      refine ol_r (r_ld (id := 2) rfl rfl rfl sc3) rfl ?_
      refine ol_g rfl rfl hs37 ?_
      refine ol_r (r_fa (o' := 0) rfl fl28_0 rfl) rfl ?_
      refine ol_g rfl rfl hs37 ?_
      refine ol_r (r_ld (id := 5) rfl rfl rfl sc3) rfl ?_
      refine ol_g rfl rfl hs37 ?_
      have hlo := hA.lo _ (List.mem_of_getElem? hx9)
      have hat : 0 ≤ x9.at_ := by
        first
          | (have h1 := hpos _ _ (by omega) hx28
             omega)
          | omega
      refine ol_r (r_add rfl rfl (by omega)) rfl ?_
      refine ol_g rfl rfl hs37 ?_
      refine ol_r (r_gtr rfl rfl) rfl ?_
      refine ol_r (r_pickF rfl hs37 rfl) rfl ?_
      refine ol_nil (to_k0 (fun _ _ h => h) (hK23 _ _ _ _ _ ?_))
      clear hK23
      refine wp_condD rfl (fun hc44 => ?_) (fun hc44 => ?_)
      ·refine wp_seq' fun K25 hK25 => ?_
       refine wp_reg ?_
       refine ol_r (r_assign rfl) rfl ?_
       refine ol_nil (to_k0 (fun _ _ h => h) (hK25 _ _ _ _ _ ?_))
       clear hK25
       refine hQ.ret (rvs1 (rv_t rfl)) (fun _ _ h => h) fun w hb hs hB hkd => ?_
       first
         | (exfalso; omega)
      ·refine wp_skip' (to_k0 (fun _ _ h => h) (hK22 _ _ _ _ _ ?_))
       clear hK22
       refine wp_seq' fun K26 hK26 => ?_
       refine wp_seq' fun K27 hK27 => ?_
       refine wp_reg ?_
       refine ol_r (r_fa (o' := 1) rfl fl28_1 rfl) rfl ?_
       refine ol_r (r_ld (id := 5) rfl rfl rfl sc3) rfl ?_
       refine ol_call rfl rfl cb98 rfl (fun w1 hb1 hs1 hB1 => Calls.mono (ref2_outside _ _ _ _) ?_)
       rintro e w2 ⟨rfl, hb2⟩
       refine After.below rfl hb1 hs1 hB1 hb2 ?_
       clear hb2 hB1 hs1 hb1 w2 w1
       refine ol_r (r_move rfl) rfl ?_
       refine ol_split (d := 48) rfl (fun hs48 => ?_) (fun hs48 => ?_)
       ·have phs48 := hs48; try simp only [decide_eq_true_eq, decide_eq_false_iff_not, Bool.not_eq_true', Bool.not_eq_false', Bool.not_true, Bool.not_false] at phs48
        refine ol_s rfl rfl hs48 rfl ?_
        refine ol_s rfl rfl hs48 rfl ?_
        refine ol_s rfl rfl hs48 rfl ?_
        refine ol_r (r_pickT rfl hs48 rfl) rfl ?_
        refine ol_r (r_move rfl) rfl ?_
        refine ol_s rfl rfl rfl rfl ?_
        refine ol_s rfl rfl rfl rfl ?_
        refine ol_s rfl rfl rfl rfl ?_
        refine ol_r (r_pickT rfl rfl rfl) rfl ?_
        refine ol_nil (to_k0 (fun _ _ h => h) (hK27 _ _ _ _ _ ?_))
        clear hK27
        refine wp_condT rfl ?_
        refine wp_seq' fun K28 hK28 => ?_
        refine wp_reg ?_
        refine ol_r (r_assign rfl) rfl ?_
        refine ol_nil (to_k0 (fun _ _ h => h) (hK28 _ _ _ _ _ ?_))
        clear hK28
        refine hQ.ret (rvs1 (rv_t rfl)) (fun _ _ h => h) fun w hb hs hB hkd => ?_
        first
          | (have ho : ordS (ahead A.ss k) x9 = false := by
               first
                 | (rw [ordS_0 (by omega), decide_eq_false (by omega)]; done)
                 | (rw [ordS_1 (by omega) hx28, decide_eq_false (by omega)]; done)
             have hin : 1000000 < x9.at_ ∨ 86399999999 < A.start + x9.at_ ∨ smpIn x9 = false := by
               first
                 | (left; omega)
                 | (right; left; omega)
                 | (right; right
                    unfold smpIn
                    simp_all)
             have h := fS_9 (st := A.start) ho hin
             refine ⟨?_, hb⟩
             rw [h]
             done)
       ·have phs48 := hs48; try simp only [decide_eq_true_eq, decide_eq_false_iff_not, Bool.not_eq_true', Bool.not_eq_false', Bool.not_true, Bool.not_false] at phs48
        refine ol_g rfl rfl hs48 ?_
        refine ol_r (r_fa (o' := 2) rfl fl28_2 rfl) rfl ?_
        refine ol_g rfl rfl hs48 ?_
        refine ol_r (r_ld (id := 5) rfl rfl rfl sc3) rfl ?_
        refine ol_g rfl rfl hs48 ?_
        refine ol_call rfl rfl cb98 rfl (fun w1 hb1 hs1 hB1 => Calls.mono (ref2_outside _ _ _ _) ?_)
        rintro e w2 ⟨rfl, hb2⟩
        refine After.below rfl hb1 hs1 hB1 hb2 ?_
        clear hb2 hB1 hs1 hb1 w2 w1
        refine ol_r (r_pickF rfl hs48 rfl) rfl ?_
        refine ol_r (r_move rfl) rfl ?_
        refine ol_split (d := 53) rfl (fun hs53 => ?_) (fun hs53 => ?_)
        ·have phs53 := hs53; try simp only [decide_eq_true_eq, decide_eq_false_iff_not, Bool.not_eq_true', Bool.not_eq_false', Bool.not_true, Bool.not_false] at phs53
         refine ol_s rfl rfl hs53 rfl ?_
         refine ol_s rfl rfl hs53 rfl ?_
         refine ol_s rfl rfl hs53 rfl ?_
         refine ol_r (r_pickT rfl hs53 rfl) rfl ?_
         refine ol_nil (to_k0 (fun _ _ h => h) (hK27 _ _ _ _ _ ?_))
         clear hK27
         refine wp_condT rfl ?_
         refine wp_seq' fun K29 hK29 => ?_
         refine wp_reg ?_
         refine ol_r (r_assign rfl) rfl ?_
         refine ol_nil (to_k0 (fun _ _ h => h) (hK29 _ _ _ _ _ ?_))
         clear hK29
         refine hQ.ret (rvs1 (rv_t rfl)) (fun _ _ h => h) fun w hb hs hB hkd => ?_
         first
           | (have ho : ordS (ahead A.ss k) x9 = false := by
                first
                  | (rw [ordS_0 (by omega), decide_eq_false (by omega)]; done)
                  | (rw [ordS_1 (by omega) hx28, decide_eq_false (by omega)]; done)
              have hin : 1000000 < x9.at_ ∨ 86399999999 < A.start + x9.at_ ∨ smpIn x9 = false := by
                first
                  | (left; omega)
                  | (right; left; omega)
                  | (right; right
                     unfold smpIn
                     simp_all)
              have h := fS_9 (st := A.start) ho hin
              refine ⟨?_, hb⟩
              rw [h]
              done)
        ·have phs53 := hs53; try simp only [decide_eq_true_eq, decide_eq_false_iff_not, Bool.not_eq_true', Bool.not_eq_false', Bool.not_true, Bool.not_false] at phs53
         refine ol_g rfl rfl hs53 ?_
         refine ol_r (r_fa (o' := 3) rfl fl28_3 rfl) rfl ?_
         refine ol_g rfl rfl hs53 ?_
         refine ol_r (r_ld (id := 5) rfl rfl rfl sc3) rfl ?_
         refine ol_g rfl rfl hs53 ?_
         refine ol_call rfl rfl cb98 rfl (fun w1 hb1 hs1 hB1 => Calls.mono (ref2_outside _ _ _ _) ?_)
         rintro e w2 ⟨rfl, hb2⟩
         refine After.below rfl hb1 hs1 hB1 hb2 ?_
         clear hb2 hB1 hs1 hb1 w2 w1
         refine ol_r (r_pickF rfl hs53 rfl) rfl ?_
         refine ol_nil (to_k0 (fun _ _ h => h) (hK27 _ _ _ _ _ ?_))
         clear hK27
         refine wp_condNB rfl (fun hc57 => ?_) (fun hc57 => ?_)
         ·refine wp_seq' fun K30 hK30 => ?_
          refine wp_reg ?_
          refine ol_r (r_assign rfl) rfl ?_
          refine ol_nil (to_k0 (fun _ _ h => h) (hK30 _ _ _ _ _ ?_))
          clear hK30
          refine hQ.ret (rvs1 (rv_t rfl)) (fun _ _ h => h) fun w hb hs hB hkd => ?_
          first
            | (have ho : ordS (ahead A.ss k) x9 = false := by
                 first
                   | (rw [ordS_0 (by omega), decide_eq_false (by omega)]; done)
                   | (rw [ordS_1 (by omega) hx28, decide_eq_false (by omega)]; done)
               have hin : 1000000 < x9.at_ ∨ 86399999999 < A.start + x9.at_ ∨ smpIn x9 = false := by
                 first
                   | (left; omega)
                   | (right; left; omega)
                   | (right; right
                      unfold smpIn
                      simp_all)
               have h := fS_9 (st := A.start) ho hin
               refine ⟨?_, hb⟩
               rw [h]
               done)
         ·refine wp_skip' (to_k0 (fun _ _ h => h) (hK26 _ _ _ _ _ ?_))
          clear hK26
          refine wp_seq' fun K31 hK31 => ?_
          refine wp_seq' fun K32 hK32 => ?_
          refine wp_reg ?_
          refine ol_r (r_fa (o' := 4) rfl fl28_4 rfl) rfl ?_
          refine ol_r (r_ld (id := 5) rfl rfl rfl sc3) rfl ?_
          refine ol_call rfl rfl cb98 rfl (fun w1 hb1 hs1 hB1 => Calls.mono (ref2_outside _ _ _ _) ?_)
          rintro e w2 ⟨rfl, hb2⟩
          refine After.below rfl hb1 hs1 hB1 hb2 ?_
          clear hb2 hB1 hs1 hb1 w2 w1
          refine ol_r (r_move rfl) rfl ?_
          refine ol_split (d := 61) rfl (fun hs61 => ?_) (fun hs61 => ?_)
          ·have phs61 := hs61; try simp only [decide_eq_true_eq, decide_eq_false_iff_not, Bool.not_eq_true', Bool.not_eq_false', Bool.not_true, Bool.not_false] at phs61
           refine ol_s rfl rfl hs61 rfl ?_
           refine ol_s rfl rfl hs61 rfl ?_
           refine ol_s rfl rfl hs61 rfl ?_
           refine ol_r (r_pickT rfl hs61 rfl) rfl ?_
           refine ol_r (r_move rfl) rfl ?_
           refine ol_s rfl rfl rfl rfl ?_
           refine ol_s rfl rfl rfl rfl ?_
           refine ol_s rfl rfl rfl rfl ?_
           refine ol_r (r_pickT rfl rfl rfl) rfl ?_
           refine ol_nil (to_k0 (fun _ _ h => h) (hK32 _ _ _ _ _ ?_))
           clear hK32
           refine wp_condT rfl ?_
           refine wp_seq' fun K33 hK33 => ?_
           refine wp_reg ?_
           refine ol_r (r_assign rfl) rfl ?_
           refine ol_nil (to_k0 (fun _ _ h => h) (hK33 _ _ _ _ _ ?_))
           clear hK33
           refine hQ.ret (rvs1 (rv_t rfl)) (fun _ _ h => h) fun w hb hs hB hkd => ?_
           first
             | (have ho : ordS (ahead A.ss k) x9 = false := by
                  first
                    | (rw [ordS_0 (by omega), decide_eq_false (by omega)]; done)
                    | (rw [ordS_1 (by omega) hx28, decide_eq_false (by omega)]; done)
                have hin : 1000000 < x9.at_ ∨ 86399999999 < A.start + x9.at_ ∨ smpIn x9 = false := by
                  first
                    | (left; omega)
                    | (right; left; omega)
                    | (right; right
                       unfold smpIn
                       simp_all)
                have h := fS_9 (st := A.start) ho hin
                refine ⟨?_, hb⟩
                rw [h]
                done)
          ·have phs61 := hs61; try simp only [decide_eq_true_eq, decide_eq_false_iff_not, Bool.not_eq_true', Bool.not_eq_false', Bool.not_true, Bool.not_false] at phs61
           refine ol_g rfl rfl hs61 ?_
           refine ol_r (r_fa (o' := 5) rfl fl28_5 rfl) rfl ?_
           refine ol_g rfl rfl hs61 ?_
           refine ol_r (r_ld (id := 5) rfl rfl rfl sc3) rfl ?_
           refine ol_g rfl rfl hs61 ?_
           refine ol_call rfl rfl cb98 rfl (fun w1 hb1 hs1 hB1 => Calls.mono (ref2_outside _ _ _ _) ?_)
           rintro e w2 ⟨rfl, hb2⟩
           refine After.below rfl hb1 hs1 hB1 hb2 ?_
           clear hb2 hB1 hs1 hb1 w2 w1
           refine ol_r (r_pickF rfl hs61 rfl) rfl ?_
           refine ol_r (r_move rfl) rfl ?_
           refine ol_split (d := 66) rfl (fun hs66 => ?_) (fun hs66 => ?_)
           ·have phs66 := hs66; try simp only [decide_eq_true_eq, decide_eq_false_iff_not, Bool.not_eq_true', Bool.not_eq_false', Bool.not_true, Bool.not_false] at phs66
            refine ol_s rfl rfl hs66 rfl ?_
            refine ol_s rfl rfl hs66 rfl ?_
            refine ol_s rfl rfl hs66 rfl ?_
            refine ol_r (r_pickT rfl hs66 rfl) rfl ?_
            refine ol_nil (to_k0 (fun _ _ h => h) (hK32 _ _ _ _ _ ?_))
            clear hK32
            refine wp_condT rfl ?_
            refine wp_seq' fun K34 hK34 => ?_
            refine wp_reg ?_
            refine ol_r (r_assign rfl) rfl ?_
            refine ol_nil (to_k0 (fun _ _ h => h) (hK34 _ _ _ _ _ ?_))
            clear hK34
            refine hQ.ret (rvs1 (rv_t rfl)) (fun _ _ h => h) fun w hb hs hB hkd => ?_
            first
              | (have ho : ordS (ahead A.ss k) x9 = false := by
                   first
                     | (rw [ordS_0 (by omega), decide_eq_false (by omega)]; done)
                     | (rw [ordS_1 (by omega) hx28, decide_eq_false (by omega)]; done)
                 have hin : 1000000 < x9.at_ ∨ 86399999999 < A.start + x9.at_ ∨ smpIn x9 = false := by
                   first
                     | (left; omega)
                     | (right; left; omega)
                     | (right; right
                        unfold smpIn
                        simp_all)
                 have h := fS_9 (st := A.start) ho hin
                 refine ⟨?_, hb⟩
                 rw [h]
                 done)
           ·have phs66 := hs66; try simp only [decide_eq_true_eq, decide_eq_false_iff_not, Bool.not_eq_true', Bool.not_eq_false', Bool.not_true, Bool.not_false] at phs66
            refine ol_g rfl rfl hs66 ?_
            refine ol_r (r_fa (o' := 6) rfl fl28_6 rfl) rfl ?_
            refine ol_g rfl rfl hs66 ?_
            refine ol_r (r_ld (id := 5) rfl rfl rfl sc3) rfl ?_
            refine ol_g rfl rfl hs66 ?_
            refine ol_call rfl rfl cb98 rfl (fun w1 hb1 hs1 hB1 => Calls.mono (ref2_outside _ _ _ _) ?_)
            rintro e w2 ⟨rfl, hb2⟩
            refine After.below rfl hb1 hs1 hB1 hb2 ?_
            clear hb2 hB1 hs1 hb1 w2 w1
            refine ol_r (r_pickF rfl hs66 rfl) rfl ?_
            refine ol_nil (to_k0 (fun _ _ h => h) (hK32 _ _ _ _ _ ?_))
            clear hK32
            refine wp_condNB rfl (fun hc70 => ?_) (fun hc70 => ?_)
            ·refine wp_seq' fun K35 hK35 => ?_
             refine wp_reg ?_
             refine ol_r (r_assign rfl) rfl ?_
             refine ol_nil (to_k0 (fun _ _ h => h) (hK35 _ _ _ _ _ ?_))
             clear hK35
             refine hQ.ret (rvs1 (rv_t rfl)) (fun _ _ h => h) fun w hb hs hB hkd => ?_
             first
               | (have ho : ordS (ahead A.ss k) x9 = false := by
                    first
                      | (rw [ordS_0 (by omega), decide_eq_false (by omega)]; done)
                      | (rw [ordS_1 (by omega) hx28, decide_eq_false (by omega)]; done)
                  have hin : 1000000 < x9.at_ ∨ 86399999999 < A.start + x9.at_ ∨ smpIn x9 = false := by
                    first
                      | (left; omega)
                      | (right; left; omega)
                      | (right; right
                         unfold smpIn
                         simp_all)
                  have h := fS_9 (st := A.start) ho hin
                  refine ⟨?_, hb⟩
                  rw [h]
                  done)
            ·refine wp_skip' (to_k0 (fun _ _ h => h) (hK31 _ _ _ _ _ ?_))
             clear hK31
             refine wp_seq' fun K36 hK36 => ?_
             refine wp_reg ?_
             refine ol_r (r_assign rfl) rfl ?_
             refine ol_nil (to_k0 (fun _ _ h => h) (hK36 _ _ _ _ _ ?_))
             clear hK36
             refine hQ.ret (rvs1 (rv_t rfl)) (fun _ _ h => h) fun w hb hs hB hkd => ?_
             first
               | (have ho : ordS (ahead A.ss k) x9 = false := by
                    first
                      | (rw [ordS_0 (by omega), decide_eq_false (by omega)]; done)
                      | (rw [ordS_1 (by omega) hx28, decide_eq_false (by omega)]; done)
                  have hin : smpIn x9 = true := by
                    unfold smpIn
                    simp_all
                  have h := fS_is (st := A.start) ho (by omega) (by omega) hin
                  refine ⟨?_, hb⟩
                  rw [h]
                  done)
  ·have phs13 := hs13; try simp only [decide_eq_true_eq, decide_eq_false_iff_not, Bool.not_eq_true', Bool.not_eq_false', Bool.not_true, Bool.not_false] at phs13
   refine ql_s rfl rfl hs13 rfl ?_
   refine ql_s rfl rfl hs13 rfl ?_
   refine ql_s rfl rfl hs13 rfl ?_
   refine ql_r (r_pickF rfl hs13 rfl) rfl ?_
   refine ql_r (r_move rfl) rfl ?_
   refine ql_g rfl rfl rfl ?_
   refine ql_r (r_move rfl) rfl ?_
   refine ql_g rfl rfl rfl ?_
   refine ql_r (r_gtr rfl rfl) rfl ?_
   refine ql_g rfl rfl rfl ?_
   refine ql_r (r_move rfl) rfl ?_
   refine ql_split (d := 21) rfl (fun hs21 => ?_) (fun hs21 => ?_)
   ·have phs21 := hs21; try simp only [decide_eq_true_eq, decide_eq_false_iff_not, Bool.not_eq_true', Bool.not_eq_false', Bool.not_true, Bool.not_false] at phs21
    refine ql_g rfl rfl hs21 ?_
    refine ql_r (r_fa (o' := 0) rfl fl28_0 rfl) rfl ?_
    refine ql_g rfl rfl hs21 ?_
    refine ql_r (r_ld (id := 5) rfl rfl rfl sc3) rfl ?_
    refine ql_g rfl rfl hs21 ?_
    refine ql_r (r_fa (o' := 3) rfl fl26_3 rfl) rfl ?_
    refine ql_g rfl rfl hs21 ?_
    refine ql_r (r_ld (id := 2) rfl rfl rfl sc22) rfl ?_
    refine ql_g rfl rfl hs21 ?_
    refine ql_r (r_move rfl) rfl ?_
    refine ql_g rfl rfl hs21 ?_
    refine ql_r (r_sub rfl rfl (by omega)) rfl ?_
    refine ql_g rfl rfl hs21 ?_
    refine ql_ixr hA.s rfl rfl sl22 (by omega) rfl fun x28 hx28 => ?_
    try simp only [Int.toNat_natCast] at hx28
    refine ql_g rfl rfl hs21 ?_
    refine ql_r (r_faw rfl (ix_some hA.s (by omega)) fl28_0) rfl ?_
    refine ql_g rfl rfl hs21 ?_
    refine ql_r (r_ldw rfl (fun w1 hb1 hs1 hB1 => Rd.loadsF (o := 0) hA.s sc3 hx28 hb1 rfl)) rfl ?_
    refine ql_g rfl rfl hs21 ?_
    refine ql_r (r_leq rfl rfl) rfl ?_
    refine ql_g rfl rfl rfl ?_
    refine ql_r (r_pickT rfl hs21 rfl) rfl ?_
    refine ql_r (r_pickF rfl rfl rfl) rfl ?_
    refine ql_nil (to_k0 (fun _ _ h => h) (hK4 _ _ _ _ _ ?_))
    clear hK4
    refine wp_condD rfl (fun hc33 => ?_) (fun hc33 => ?_)
    ·refine wp_seq' fun K37 hK37 => ?_
     refine wp_reg ?_
     refine ol_r (r_assign rfl) rfl ?_
     refine ol_nil (to_k0 (fun _ _ h => h) (hK37 _ _ _ _ _ ?_))
     clear hK37
     refine hQ.ret (rvs1 (rv_t rfl)) (fun _ _ h => h) fun w hb hs hB hkd => ?_
     first
       | (have ho : ordS (ahead A.ss k) x9 = true := by
            first
              | (rw [ordS_0 (by omega), decide_eq_true (by omega)]; done)
              | (rw [ordS_1 (by omega) hx28, decide_eq_true (by omega)]; done)
          have h := fS_10 (st := A.start) ho
          refine ⟨?_, hb⟩
          rw [h]
          done)
    ·refine wp_skip' (to_k0 (fun _ _ h => h) (hK3 _ _ _ _ _ ?_))
     clear hK3
     refine wp_seq' fun K38 hK38 => ?_
     refine wp_seq' fun K39 hK39 => ?_
     refine wp_reg ?_
     refine ol_r (r_fa (o' := 0) rfl fl28_0 rfl) rfl ?_
     refine ol_r (r_ld (id := 5) rfl rfl rfl sc3) rfl ?_
     refine ol_r (r_gtr rfl rfl) rfl ?_
     refine ol_r (r_move rfl) rfl ?_
     refine ol_split (d := 37) rfl (fun hs37 => ?_) (fun hs37 => ?_)
     ·have phs37 := hs37; try simp only [decide_eq_true_eq, decide_eq_false_iff_not, Bool.not_eq_true', Bool.not_eq_false', Bool.not_true, Bool.not_false] at phs37
      refine ol_s rfl rfl hs37 rfl ?_
      refine ol_s rfl rfl hs37 rfl ?_
      refine ol_s rfl rfl hs37 rfl ?_
      refine ol_s rfl rfl hs37 rfl ?_
      refine ol_s rfl rfl hs37 rfl ?_
      refine ol_s rfl rfl hs37 rfl ?_
      refine ol_r (r_pickT rfl hs37 rfl) rfl ?_
      refine ol_nil (to_k0 (fun _ _ h => h) (hK39 _ _ _ _ _ ?_))
      clear hK39
      refine wp_condT rfl ?_
      refine wp_seq' fun K40 hK40 => ?_
      refine wp_reg ?_
      refine ol_r (r_assign rfl) rfl ?_
      refine ol_nil (to_k0 (fun _ _ h => h) (hK40 _ _ _ _ _ ?_))
      clear hK40
      refine hQ.ret (rvs1 (rv_t rfl)) (fun _ _ h => h) fun w hb hs hB hkd => ?_
      first
        | (have ho : ordS (ahead A.ss k) x9 = false := by
             first
               | (rw [ordS_0 (by omega), decide_eq_false (by omega)]; done)
               | (rw [ordS_1 (by omega) hx28, decide_eq_false (by omega)]; done)
           have hin : 1000000 < x9.at_ ∨ 86399999999 < A.start + x9.at_ ∨ smpIn x9 = false := by
             first
               | (left; omega)
               | (right; left; omega)
               | (right; right
                  unfold smpIn
                  simp_all)
           have h := fS_9 (st := A.start) ho hin
           refine ⟨?_, hb⟩
           rw [h]
           done)
     ·have phs37 := hs37; try simp only [decide_eq_true_eq, decide_eq_false_iff_not, Bool.not_eq_true', Bool.not_eq_false', Bool.not_true, Bool.not_false] at phs37
      refine ol_g rfl rfl hs37 ?_
      refine ol_r (r_fa (o' := 2) rfl fl26_2 rfl) rfl ?_
      refine ol_g rfl rfl hs37 ?_
      refine ol_r (r_ld (id := 2) rfl rfl rfl sc3) rfl ?_
      refine ol_g rfl rfl hs37 ?_
      refine ol_r (r_fa (o' := 0) rfl fl28_0 rfl) rfl ?_
      refine ol_g rfl rfl hs37 ?_
      refine ol_r (r_ld (id := 5) rfl rfl rfl sc3) rfl ?_
      refine ol_g rfl rfl hs37 ?_
      have hlo := hA.lo _ (List.mem_of_getElem? hx9)
      have hat : 0 ≤ x9.at_ := by
        first
          | (have h1 := hpos _ _ (by omega) hx28
             omega)
          | omega
      refine ol_r (r_add rfl rfl (by omega)) rfl ?_
      refine ol_g rfl rfl hs37 ?_
      refine ol_r (r_gtr rfl rfl) rfl ?_
      refine ol_r (r_pickF rfl hs37 rfl) rfl ?_
      refine ol_nil (to_k0 (fun _ _ h => h) (hK39 _ _ _ _ _ ?_))
      clear hK39
      refine wp_condD rfl (fun hc44 => ?_) (fun hc44 => ?_)
      ·refine wp_seq' fun K41 hK41 => ?_
       refine wp_reg ?_
       refine ol_r (r_assign rfl) rfl ?_
       refine ol_nil (to_k0 (fun _ _ h => h) (hK41 _ _ _ _ _ ?_))
       clear hK41
       refine hQ.ret (rvs1 (rv_t rfl)) (fun _ _ h => h) fun w hb hs hB hkd => ?_
       first
         | (have ho : ordS (ahead A.ss k) x9 = false := by
              first
                | (rw [ordS_0 (by omega), decide_eq_false (by omega)]; done)
                | (rw [ordS_1 (by omega) hx28, decide_eq_false (by omega)]; done)
            have hin : 1000000 < x9.at_ ∨ 86399999999 < A.start + x9.at_ ∨ smpIn x9 = false := by
              first
                | (left; omega)
                | (right; left; omega)
                | (right; right
                   unfold smpIn
                   simp_all)
            have h := fS_9 (st := A.start) ho hin
            refine ⟨?_, hb⟩
            rw [h]
            done)
      ·refine wp_skip' (to_k0 (fun _ _ h => h) (hK38 _ _ _ _ _ ?_))
       clear hK38
       refine wp_seq' fun K42 hK42 => ?_
       refine wp_seq' fun K43 hK43 => ?_
       refine wp_reg ?_
       refine ol_r (r_fa (o' := 1) rfl fl28_1 rfl) rfl ?_
       refine ol_r (r_ld (id := 5) rfl rfl rfl sc3) rfl ?_
       refine ol_call rfl rfl cb98 rfl (fun w1 hb1 hs1 hB1 => Calls.mono (ref2_outside _ _ _ _) ?_)
       rintro e w2 ⟨rfl, hb2⟩
       refine After.below rfl hb1 hs1 hB1 hb2 ?_
       clear hb2 hB1 hs1 hb1 w2 w1
       refine ol_r (r_move rfl) rfl ?_
       refine ol_split (d := 48) rfl (fun hs48 => ?_) (fun hs48 => ?_)
       ·have phs48 := hs48; try simp only [decide_eq_true_eq, decide_eq_false_iff_not, Bool.not_eq_true', Bool.not_eq_false', Bool.not_true, Bool.not_false] at phs48
        refine ol_s rfl rfl hs48 rfl ?_
        refine ol_s rfl rfl hs48 rfl ?_
        refine ol_s rfl rfl hs48 rfl ?_
        refine ol_r (r_pickT rfl hs48 rfl) rfl ?_
        refine ol_r (r_move rfl) rfl ?_
        refine ol_s rfl rfl rfl rfl ?_
        refine ol_s rfl rfl rfl rfl ?_
        refine ol_s rfl rfl rfl rfl ?_
        refine ol_r (r_pickT rfl rfl rfl) rfl ?_
        refine ol_nil (to_k0 (fun _ _ h => h) (hK43 _ _ _ _ _ ?_))
        clear hK43
        refine wp_condT rfl ?_
        refine wp_seq' fun K44 hK44 => ?_
        refine wp_reg ?_
        refine ol_r (r_assign rfl) rfl ?_
        refine ol_nil (to_k0 (fun _ _ h => h) (hK44 _ _ _ _ _ ?_))
        clear hK44
        refine hQ.ret (rvs1 (rv_t rfl)) (fun _ _ h => h) fun w hb hs hB hkd => ?_
        first
          | (have ho : ordS (ahead A.ss k) x9 = false := by
               first
                 | (rw [ordS_0 (by omega), decide_eq_false (by omega)]; done)
                 | (rw [ordS_1 (by omega) hx28, decide_eq_false (by omega)]; done)
             have hin : 1000000 < x9.at_ ∨ 86399999999 < A.start + x9.at_ ∨ smpIn x9 = false := by
               first
                 | (left; omega)
                 | (right; left; omega)
                 | (right; right
                    unfold smpIn
                    simp_all)
             have h := fS_9 (st := A.start) ho hin
             refine ⟨?_, hb⟩
             rw [h]
             done)
       ·have phs48 := hs48; try simp only [decide_eq_true_eq, decide_eq_false_iff_not, Bool.not_eq_true', Bool.not_eq_false', Bool.not_true, Bool.not_false] at phs48
        refine ol_g rfl rfl hs48 ?_
        refine ol_r (r_fa (o' := 2) rfl fl28_2 rfl) rfl ?_
        refine ol_g rfl rfl hs48 ?_
        refine ol_r (r_ld (id := 5) rfl rfl rfl sc3) rfl ?_
        refine ol_g rfl rfl hs48 ?_
        refine ol_call rfl rfl cb98 rfl (fun w1 hb1 hs1 hB1 => Calls.mono (ref2_outside _ _ _ _) ?_)
        rintro e w2 ⟨rfl, hb2⟩
        refine After.below rfl hb1 hs1 hB1 hb2 ?_
        clear hb2 hB1 hs1 hb1 w2 w1
        refine ol_r (r_pickF rfl hs48 rfl) rfl ?_
        refine ol_r (r_move rfl) rfl ?_
        refine ol_split (d := 53) rfl (fun hs53 => ?_) (fun hs53 => ?_)
        ·have phs53 := hs53; try simp only [decide_eq_true_eq, decide_eq_false_iff_not, Bool.not_eq_true', Bool.not_eq_false', Bool.not_true, Bool.not_false] at phs53
         refine ol_s rfl rfl hs53 rfl ?_
         refine ol_s rfl rfl hs53 rfl ?_
         refine ol_s rfl rfl hs53 rfl ?_
         refine ol_r (r_pickT rfl hs53 rfl) rfl ?_
         refine ol_nil (to_k0 (fun _ _ h => h) (hK43 _ _ _ _ _ ?_))
         clear hK43
         refine wp_condT rfl ?_
         refine wp_seq' fun K45 hK45 => ?_
         refine wp_reg ?_
         refine ol_r (r_assign rfl) rfl ?_
         refine ol_nil (to_k0 (fun _ _ h => h) (hK45 _ _ _ _ _ ?_))
         clear hK45
         refine hQ.ret (rvs1 (rv_t rfl)) (fun _ _ h => h) fun w hb hs hB hkd => ?_
         first
           | (have ho : ordS (ahead A.ss k) x9 = false := by
                first
                  | (rw [ordS_0 (by omega), decide_eq_false (by omega)]; done)
                  | (rw [ordS_1 (by omega) hx28, decide_eq_false (by omega)]; done)
              have hin : 1000000 < x9.at_ ∨ 86399999999 < A.start + x9.at_ ∨ smpIn x9 = false := by
                first
                  | (left; omega)
                  | (right; left; omega)
                  | (right; right
                     unfold smpIn
                     simp_all)
              have h := fS_9 (st := A.start) ho hin
              refine ⟨?_, hb⟩
              rw [h]
              done)
        ·have phs53 := hs53; try simp only [decide_eq_true_eq, decide_eq_false_iff_not, Bool.not_eq_true', Bool.not_eq_false', Bool.not_true, Bool.not_false] at phs53
         refine ol_g rfl rfl hs53 ?_
         refine ol_r (r_fa (o' := 3) rfl fl28_3 rfl) rfl ?_
         refine ol_g rfl rfl hs53 ?_
         refine ol_r (r_ld (id := 5) rfl rfl rfl sc3) rfl ?_
         refine ol_g rfl rfl hs53 ?_
         refine ol_call rfl rfl cb98 rfl (fun w1 hb1 hs1 hB1 => Calls.mono (ref2_outside _ _ _ _) ?_)
         rintro e w2 ⟨rfl, hb2⟩
         refine After.below rfl hb1 hs1 hB1 hb2 ?_
         clear hb2 hB1 hs1 hb1 w2 w1
         refine ol_r (r_pickF rfl hs53 rfl) rfl ?_
         refine ol_nil (to_k0 (fun _ _ h => h) (hK43 _ _ _ _ _ ?_))
         clear hK43
         refine wp_condNB rfl (fun hc57 => ?_) (fun hc57 => ?_)
         ·refine wp_seq' fun K46 hK46 => ?_
          refine wp_reg ?_
          refine ol_r (r_assign rfl) rfl ?_
          refine ol_nil (to_k0 (fun _ _ h => h) (hK46 _ _ _ _ _ ?_))
          clear hK46
          refine hQ.ret (rvs1 (rv_t rfl)) (fun _ _ h => h) fun w hb hs hB hkd => ?_
          first
            | (have ho : ordS (ahead A.ss k) x9 = false := by
                 first
                   | (rw [ordS_0 (by omega), decide_eq_false (by omega)]; done)
                   | (rw [ordS_1 (by omega) hx28, decide_eq_false (by omega)]; done)
               have hin : 1000000 < x9.at_ ∨ 86399999999 < A.start + x9.at_ ∨ smpIn x9 = false := by
                 first
                   | (left; omega)
                   | (right; left; omega)
                   | (right; right
                      unfold smpIn
                      simp_all)
               have h := fS_9 (st := A.start) ho hin
               refine ⟨?_, hb⟩
               rw [h]
               done)
         ·refine wp_skip' (to_k0 (fun _ _ h => h) (hK42 _ _ _ _ _ ?_))
          clear hK42
          refine wp_seq' fun K47 hK47 => ?_
          refine wp_seq' fun K48 hK48 => ?_
          refine wp_reg ?_
          refine ol_r (r_fa (o' := 4) rfl fl28_4 rfl) rfl ?_
          refine ol_r (r_ld (id := 5) rfl rfl rfl sc3) rfl ?_
          refine ol_call rfl rfl cb98 rfl (fun w1 hb1 hs1 hB1 => Calls.mono (ref2_outside _ _ _ _) ?_)
          rintro e w2 ⟨rfl, hb2⟩
          refine After.below rfl hb1 hs1 hB1 hb2 ?_
          clear hb2 hB1 hs1 hb1 w2 w1
          refine ol_r (r_move rfl) rfl ?_
          refine ol_split (d := 61) rfl (fun hs61 => ?_) (fun hs61 => ?_)
          ·have phs61 := hs61; try simp only [decide_eq_true_eq, decide_eq_false_iff_not, Bool.not_eq_true', Bool.not_eq_false', Bool.not_true, Bool.not_false] at phs61
           refine ol_s rfl rfl hs61 rfl ?_
           refine ol_s rfl rfl hs61 rfl ?_
           refine ol_s rfl rfl hs61 rfl ?_
           refine ol_r (r_pickT rfl hs61 rfl) rfl ?_
           refine ol_r (r_move rfl) rfl ?_
           refine ol_s rfl rfl rfl rfl ?_
           refine ol_s rfl rfl rfl rfl ?_
           refine ol_s rfl rfl rfl rfl ?_
           refine ol_r (r_pickT rfl rfl rfl) rfl ?_
           refine ol_nil (to_k0 (fun _ _ h => h) (hK48 _ _ _ _ _ ?_))
           clear hK48
           refine wp_condT rfl ?_
           refine wp_seq' fun K49 hK49 => ?_
           refine wp_reg ?_
           refine ol_r (r_assign rfl) rfl ?_
           refine ol_nil (to_k0 (fun _ _ h => h) (hK49 _ _ _ _ _ ?_))
           clear hK49
           refine hQ.ret (rvs1 (rv_t rfl)) (fun _ _ h => h) fun w hb hs hB hkd => ?_
           first
             | (have ho : ordS (ahead A.ss k) x9 = false := by
                  first
                    | (rw [ordS_0 (by omega), decide_eq_false (by omega)]; done)
                    | (rw [ordS_1 (by omega) hx28, decide_eq_false (by omega)]; done)
                have hin : 1000000 < x9.at_ ∨ 86399999999 < A.start + x9.at_ ∨ smpIn x9 = false := by
                  first
                    | (left; omega)
                    | (right; left; omega)
                    | (right; right
                       unfold smpIn
                       simp_all)
                have h := fS_9 (st := A.start) ho hin
                refine ⟨?_, hb⟩
                rw [h]
                done)
          ·have phs61 := hs61; try simp only [decide_eq_true_eq, decide_eq_false_iff_not, Bool.not_eq_true', Bool.not_eq_false', Bool.not_true, Bool.not_false] at phs61
           refine ol_g rfl rfl hs61 ?_
           refine ol_r (r_fa (o' := 5) rfl fl28_5 rfl) rfl ?_
           refine ol_g rfl rfl hs61 ?_
           refine ol_r (r_ld (id := 5) rfl rfl rfl sc3) rfl ?_
           refine ol_g rfl rfl hs61 ?_
           refine ol_call rfl rfl cb98 rfl (fun w1 hb1 hs1 hB1 => Calls.mono (ref2_outside _ _ _ _) ?_)
           rintro e w2 ⟨rfl, hb2⟩
           refine After.below rfl hb1 hs1 hB1 hb2 ?_
           clear hb2 hB1 hs1 hb1 w2 w1
           refine ol_r (r_pickF rfl hs61 rfl) rfl ?_
           refine ol_r (r_move rfl) rfl ?_
           refine ol_split (d := 66) rfl (fun hs66 => ?_) (fun hs66 => ?_)
           ·have phs66 := hs66; try simp only [decide_eq_true_eq, decide_eq_false_iff_not, Bool.not_eq_true', Bool.not_eq_false', Bool.not_true, Bool.not_false] at phs66
            refine ol_s rfl rfl hs66 rfl ?_
            refine ol_s rfl rfl hs66 rfl ?_
            refine ol_s rfl rfl hs66 rfl ?_
            refine ol_r (r_pickT rfl hs66 rfl) rfl ?_
            refine ol_nil (to_k0 (fun _ _ h => h) (hK48 _ _ _ _ _ ?_))
            clear hK48
            refine wp_condT rfl ?_
            refine wp_seq' fun K50 hK50 => ?_
            refine wp_reg ?_
            refine ol_r (r_assign rfl) rfl ?_
            refine ol_nil (to_k0 (fun _ _ h => h) (hK50 _ _ _ _ _ ?_))
            clear hK50
            refine hQ.ret (rvs1 (rv_t rfl)) (fun _ _ h => h) fun w hb hs hB hkd => ?_
            first
              | (have ho : ordS (ahead A.ss k) x9 = false := by
                   first
                     | (rw [ordS_0 (by omega), decide_eq_false (by omega)]; done)
                     | (rw [ordS_1 (by omega) hx28, decide_eq_false (by omega)]; done)
                 have hin : 1000000 < x9.at_ ∨ 86399999999 < A.start + x9.at_ ∨ smpIn x9 = false := by
                   first
                     | (left; omega)
                     | (right; left; omega)
                     | (right; right
                        unfold smpIn
                        simp_all)
                 have h := fS_9 (st := A.start) ho hin
                 refine ⟨?_, hb⟩
                 rw [h]
                 done)
           ·have phs66 := hs66; try simp only [decide_eq_true_eq, decide_eq_false_iff_not, Bool.not_eq_true', Bool.not_eq_false', Bool.not_true, Bool.not_false] at phs66
            refine ol_g rfl rfl hs66 ?_
            refine ol_r (r_fa (o' := 6) rfl fl28_6 rfl) rfl ?_
            refine ol_g rfl rfl hs66 ?_
            refine ol_r (r_ld (id := 5) rfl rfl rfl sc3) rfl ?_
            refine ol_g rfl rfl hs66 ?_
            refine ol_call rfl rfl cb98 rfl (fun w1 hb1 hs1 hB1 => Calls.mono (ref2_outside _ _ _ _) ?_)
            rintro e w2 ⟨rfl, hb2⟩
            refine After.below rfl hb1 hs1 hB1 hb2 ?_
            clear hb2 hB1 hs1 hb1 w2 w1
            refine ol_r (r_pickF rfl hs66 rfl) rfl ?_
            refine ol_nil (to_k0 (fun _ _ h => h) (hK48 _ _ _ _ _ ?_))
            clear hK48
            refine wp_condNB rfl (fun hc70 => ?_) (fun hc70 => ?_)
            ·refine wp_seq' fun K51 hK51 => ?_
             refine wp_reg ?_
             refine ol_r (r_assign rfl) rfl ?_
             refine ol_nil (to_k0 (fun _ _ h => h) (hK51 _ _ _ _ _ ?_))
             clear hK51
             refine hQ.ret (rvs1 (rv_t rfl)) (fun _ _ h => h) fun w hb hs hB hkd => ?_
             first
               | (have ho : ordS (ahead A.ss k) x9 = false := by
                    first
                      | (rw [ordS_0 (by omega), decide_eq_false (by omega)]; done)
                      | (rw [ordS_1 (by omega) hx28, decide_eq_false (by omega)]; done)
                  have hin : 1000000 < x9.at_ ∨ 86399999999 < A.start + x9.at_ ∨ smpIn x9 = false := by
                    first
                      | (left; omega)
                      | (right; left; omega)
                      | (right; right
                         unfold smpIn
                         simp_all)
                  have h := fS_9 (st := A.start) ho hin
                  refine ⟨?_, hb⟩
                  rw [h]
                  done)
            ·refine wp_skip' (to_k0 (fun _ _ h => h) (hK47 _ _ _ _ _ ?_))
             clear hK47
             refine wp_seq' fun K52 hK52 => ?_
             refine wp_reg ?_
             refine ol_r (r_assign rfl) rfl ?_
             refine ol_nil (to_k0 (fun _ _ h => h) (hK52 _ _ _ _ _ ?_))
             clear hK52
             refine hQ.ret (rvs1 (rv_t rfl)) (fun _ _ h => h) fun w hb hs hB hkd => ?_
             first
               | (have ho : ordS (ahead A.ss k) x9 = false := by
                    first
                      | (rw [ordS_0 (by omega), decide_eq_false (by omega)]; done)
                      | (rw [ordS_1 (by omega) hx28, decide_eq_false (by omega)]; done)
                  have hin : smpIn x9 = true := by
                    unfold smpIn
                    simp_all
                  have h := fS_is (st := A.start) ho (by omega) (by omega) hin
                  refine ⟨?_, hb⟩
                  rw [h]
                  done)
   ·have phs21 := hs21; try simp only [decide_eq_true_eq, decide_eq_false_iff_not, Bool.not_eq_true', Bool.not_eq_false', Bool.not_true, Bool.not_false] at phs21
    refine ql_s rfl rfl hs21 rfl ?_
    refine ql_s rfl rfl hs21 rfl ?_
    refine ql_s rfl rfl hs21 rfl ?_
    refine ql_s rfl rfl hs21 rfl ?_
    refine ql_s rfl rfl hs21 rfl ?_
    refine ql_s rfl rfl hs21 rfl ?_
    refine ql_s rfl rfl hs21 rfl ?_
    refine ql_s rfl rfl hs21 rfl ?_
    refine ql_s rfl rfl hs21 rfl ?_
    refine ql_s rfl rfl hs21 rfl ?_
    refine ql_g rfl rfl rfl ?_
    refine ql_r (r_pickF rfl hs21 rfl) rfl ?_
    refine ql_r (r_pickF rfl rfl rfl) rfl ?_
    refine ql_nil (to_k0 (fun _ _ h => h) (hK4 _ _ _ _ _ ?_))
    clear hK4
    refine wp_condF rfl ?_
    refine wp_skip' (to_k0 (fun _ _ h => h) (hK3 _ _ _ _ _ ?_))
    clear hK3
    refine wp_seq' fun K53 hK53 => ?_
    refine wp_seq' fun K54 hK54 => ?_
    refine wp_reg ?_
    refine ol_r (r_fa (o' := 0) rfl fl28_0 rfl) rfl ?_
    refine ol_r (r_ld (id := 5) rfl rfl rfl sc3) rfl ?_
    refine ol_r (r_gtr rfl rfl) rfl ?_
    refine ol_r (r_move rfl) rfl ?_
    refine ol_split (d := 37) rfl (fun hs37 => ?_) (fun hs37 => ?_)
    ·have phs37 := hs37; try simp only [decide_eq_true_eq, decide_eq_false_iff_not, Bool.not_eq_true', Bool.not_eq_false', Bool.not_true, Bool.not_false] at phs37
     refine ol_s rfl rfl hs37 rfl ?_
     refine ol_s rfl rfl hs37 rfl ?_
     refine ol_s rfl rfl hs37 rfl ?_
     refine ol_s rfl rfl hs37 rfl ?_
     refine ol_s rfl rfl hs37 rfl ?_
     refine ol_s rfl rfl hs37 rfl ?_
     refine ol_r (r_pickT rfl hs37 rfl) rfl ?_
     refine ol_nil (to_k0 (fun _ _ h => h) (hK54 _ _ _ _ _ ?_))
     clear hK54
     refine wp_condT rfl ?_
     refine wp_seq' fun K55 hK55 => ?_
     refine wp_reg ?_
     refine ol_r (r_assign rfl) rfl ?_
     refine ol_nil (to_k0 (fun _ _ h => h) (hK55 _ _ _ _ _ ?_))
     clear hK55
     refine hQ.ret (rvs1 (rv_t rfl)) (fun _ _ h => h) fun w hb hs hB hkd => ?_
     first
       | (exfalso; omega)
    ·have phs37 := hs37; try simp only [decide_eq_true_eq, decide_eq_false_iff_not, Bool.not_eq_true', Bool.not_eq_false', Bool.not_true, Bool.not_false] at phs37
     refine ol_g rfl rfl hs37 ?_
     refine ol_r (r_fa (o' := 2) rfl fl26_2 rfl) rfl ?_
     refine ol_g rfl rfl hs37 ?_
     refine ol_r (r_ld (id := 2) rfl rfl rfl sc3) rfl ?_
     refine ol_g rfl rfl hs37 ?_
     refine ol_r (r_fa (o' := 0) rfl fl28_0 rfl) rfl ?_
     refine ol_g rfl rfl hs37 ?_
     refine ol_r (r_ld (id := 5) rfl rfl rfl sc3) rfl ?_
     refine ol_g rfl rfl hs37 ?_
     have hlo := hA.lo _ (List.mem_of_getElem? hx9)
     have hat : 0 ≤ x9.at_ := by
       first
         | (have h1 := hpos _ _ (by omega) hx28
            omega)
         | omega
     refine ol_r (r_add rfl rfl (by omega)) rfl ?_
     refine ol_g rfl rfl hs37 ?_
     refine ol_r (r_gtr rfl rfl) rfl ?_
     refine ol_r (r_pickF rfl hs37 rfl) rfl ?_
     refine ol_nil (to_k0 (fun _ _ h => h) (hK54 _ _ _ _ _ ?_))
     clear hK54
     refine wp_condD rfl (fun hc44 => ?_) (fun hc44 => ?_)
     ·refine wp_seq' fun K56 hK56 => ?_
      refine wp_reg ?_
      refine ol_r (r_assign rfl) rfl ?_
      refine ol_nil (to_k0 (fun _ _ h => h) (hK56 _ _ _ _ _ ?_))
      clear hK56
      refine hQ.ret (rvs1 (rv_t rfl)) (fun _ _ h => h) fun w hb hs hB hkd => ?_
      first
        | (exfalso; omega)
     ·refine wp_skip' (to_k0 (fun _ _ h => h) (hK53 _ _ _ _ _ ?_))
      clear hK53
      refine wp_seq' fun K57 hK57 => ?_
      refine wp_seq' fun K58 hK58 => ?_
      refine wp_reg ?_
      refine ol_r (r_fa (o' := 1) rfl fl28_1 rfl) rfl ?_
      refine ol_r (r_ld (id := 5) rfl rfl rfl sc3) rfl ?_
      refine ol_call rfl rfl cb98 rfl (fun w1 hb1 hs1 hB1 => Calls.mono (ref2_outside _ _ _ _) ?_)
      rintro e w2 ⟨rfl, hb2⟩
      refine After.below rfl hb1 hs1 hB1 hb2 ?_
      clear hb2 hB1 hs1 hb1 w2 w1
      refine ol_r (r_move rfl) rfl ?_
      refine ol_split (d := 48) rfl (fun hs48 => ?_) (fun hs48 => ?_)
      ·have phs48 := hs48; try simp only [decide_eq_true_eq, decide_eq_false_iff_not, Bool.not_eq_true', Bool.not_eq_false', Bool.not_true, Bool.not_false] at phs48
       refine ol_s rfl rfl hs48 rfl ?_
       refine ol_s rfl rfl hs48 rfl ?_
       refine ol_s rfl rfl hs48 rfl ?_
       refine ol_r (r_pickT rfl hs48 rfl) rfl ?_
       refine ol_r (r_move rfl) rfl ?_
       refine ol_s rfl rfl rfl rfl ?_
       refine ol_s rfl rfl rfl rfl ?_
       refine ol_s rfl rfl rfl rfl ?_
       refine ol_r (r_pickT rfl rfl rfl) rfl ?_
       refine ol_nil (to_k0 (fun _ _ h => h) (hK58 _ _ _ _ _ ?_))
       clear hK58
       refine wp_condT rfl ?_
       refine wp_seq' fun K59 hK59 => ?_
       refine wp_reg ?_
       refine ol_r (r_assign rfl) rfl ?_
       refine ol_nil (to_k0 (fun _ _ h => h) (hK59 _ _ _ _ _ ?_))
       clear hK59
       refine hQ.ret (rvs1 (rv_t rfl)) (fun _ _ h => h) fun w hb hs hB hkd => ?_
       first
         | (exfalso; omega)
      ·have phs48 := hs48; try simp only [decide_eq_true_eq, decide_eq_false_iff_not, Bool.not_eq_true', Bool.not_eq_false', Bool.not_true, Bool.not_false] at phs48
       refine ol_g rfl rfl hs48 ?_
       refine ol_r (r_fa (o' := 2) rfl fl28_2 rfl) rfl ?_
       refine ol_g rfl rfl hs48 ?_
       refine ol_r (r_ld (id := 5) rfl rfl rfl sc3) rfl ?_
       refine ol_g rfl rfl hs48 ?_
       refine ol_call rfl rfl cb98 rfl (fun w1 hb1 hs1 hB1 => Calls.mono (ref2_outside _ _ _ _) ?_)
       rintro e w2 ⟨rfl, hb2⟩
       refine After.below rfl hb1 hs1 hB1 hb2 ?_
       clear hb2 hB1 hs1 hb1 w2 w1
       refine ol_r (r_pickF rfl hs48 rfl) rfl ?_
       refine ol_r (r_move rfl) rfl ?_
       refine ol_split (d := 53) rfl (fun hs53 => ?_) (fun hs53 => ?_)
       ·have phs53 := hs53; try simp only [decide_eq_true_eq, decide_eq_false_iff_not, Bool.not_eq_true', Bool.not_eq_false', Bool.not_true, Bool.not_false] at phs53
        refine ol_s rfl rfl hs53 rfl ?_
        refine ol_s rfl rfl hs53 rfl ?_
        refine ol_s rfl rfl hs53 rfl ?_
        refine ol_r (r_pickT rfl hs53 rfl) rfl ?_
        refine ol_nil (to_k0 (fun _ _ h => h) (hK58 _ _ _ _ _ ?_))
        clear hK58
        refine wp_condT rfl ?_
        refine wp_seq' fun K60 hK60 => ?_
        refine wp_reg ?_
        refine ol_r (r_assign rfl) rfl ?_
        refine ol_nil (to_k0 (fun _ _ h => h) (hK60 _ _ _ _ _ ?_))
        clear hK60
        refine hQ.ret (rvs1 (rv_t rfl)) (fun _ _ h => h) fun w hb hs hB hkd => ?_
        first
          | (exfalso; omega)
       ·have phs53 := hs53; try simp only [decide_eq_true_eq, decide_eq_false_iff_not, Bool.not_eq_true', Bool.not_eq_false', Bool.not_true, Bool.not_false] at phs53
        refine ol_g rfl rfl hs53 ?_
        refine ol_r (r_fa (o' := 3) rfl fl28_3 rfl) rfl ?_
        refine ol_g rfl rfl hs53 ?_
        refine ol_r (r_ld (id := 5) rfl rfl rfl sc3) rfl ?_
        refine ol_g rfl rfl hs53 ?_
        refine ol_call rfl rfl cb98 rfl (fun w1 hb1 hs1 hB1 => Calls.mono (ref2_outside _ _ _ _) ?_)
        rintro e w2 ⟨rfl, hb2⟩
        refine After.below rfl hb1 hs1 hB1 hb2 ?_
        clear hb2 hB1 hs1 hb1 w2 w1
        refine ol_r (r_pickF rfl hs53 rfl) rfl ?_
        refine ol_nil (to_k0 (fun _ _ h => h) (hK58 _ _ _ _ _ ?_))
        clear hK58
        refine wp_condNB rfl (fun hc57 => ?_) (fun hc57 => ?_)
        ·refine wp_seq' fun K61 hK61 => ?_
         refine wp_reg ?_
         refine ol_r (r_assign rfl) rfl ?_
         refine ol_nil (to_k0 (fun _ _ h => h) (hK61 _ _ _ _ _ ?_))
         clear hK61
         refine hQ.ret (rvs1 (rv_t rfl)) (fun _ _ h => h) fun w hb hs hB hkd => ?_
         first
           | (exfalso; omega)
        ·refine wp_skip' (to_k0 (fun _ _ h => h) (hK57 _ _ _ _ _ ?_))
         clear hK57
         refine wp_seq' fun K62 hK62 => ?_
         refine wp_seq' fun K63 hK63 => ?_
         refine wp_reg ?_
         refine ol_r (r_fa (o' := 4) rfl fl28_4 rfl) rfl ?_
         refine ol_r (r_ld (id := 5) rfl rfl rfl sc3) rfl ?_
         refine ol_call rfl rfl cb98 rfl (fun w1 hb1 hs1 hB1 => Calls.mono (ref2_outside _ _ _ _) ?_)
         rintro e w2 ⟨rfl, hb2⟩
         refine After.below rfl hb1 hs1 hB1 hb2 ?_
         clear hb2 hB1 hs1 hb1 w2 w1
         refine ol_r (r_move rfl) rfl ?_
         refine ol_split (d := 61) rfl (fun hs61 => ?_) (fun hs61 => ?_)
         ·have phs61 := hs61; try simp only [decide_eq_true_eq, decide_eq_false_iff_not, Bool.not_eq_true', Bool.not_eq_false', Bool.not_true, Bool.not_false] at phs61
          refine ol_s rfl rfl hs61 rfl ?_
          refine ol_s rfl rfl hs61 rfl ?_
          refine ol_s rfl rfl hs61 rfl ?_
          refine ol_r (r_pickT rfl hs61 rfl) rfl ?_
          refine ol_r (r_move rfl) rfl ?_
          refine ol_s rfl rfl rfl rfl ?_
          refine ol_s rfl rfl rfl rfl ?_
          refine ol_s rfl rfl rfl rfl ?_
          refine ol_r (r_pickT rfl rfl rfl) rfl ?_
          refine ol_nil (to_k0 (fun _ _ h => h) (hK63 _ _ _ _ _ ?_))
          clear hK63
          refine wp_condT rfl ?_
          refine wp_seq' fun K64 hK64 => ?_
          refine wp_reg ?_
          refine ol_r (r_assign rfl) rfl ?_
          refine ol_nil (to_k0 (fun _ _ h => h) (hK64 _ _ _ _ _ ?_))
          clear hK64
          refine hQ.ret (rvs1 (rv_t rfl)) (fun _ _ h => h) fun w hb hs hB hkd => ?_
          first
            | (exfalso; omega)
         ·have phs61 := hs61; try simp only [decide_eq_true_eq, decide_eq_false_iff_not, Bool.not_eq_true', Bool.not_eq_false', Bool.not_true, Bool.not_false] at phs61
          refine ol_g rfl rfl hs61 ?_
          refine ol_r (r_fa (o' := 5) rfl fl28_5 rfl) rfl ?_
          refine ol_g rfl rfl hs61 ?_
          refine ol_r (r_ld (id := 5) rfl rfl rfl sc3) rfl ?_
          refine ol_g rfl rfl hs61 ?_
          refine ol_call rfl rfl cb98 rfl (fun w1 hb1 hs1 hB1 => Calls.mono (ref2_outside _ _ _ _) ?_)
          rintro e w2 ⟨rfl, hb2⟩
          refine After.below rfl hb1 hs1 hB1 hb2 ?_
          clear hb2 hB1 hs1 hb1 w2 w1
          refine ol_r (r_pickF rfl hs61 rfl) rfl ?_
          refine ol_r (r_move rfl) rfl ?_
          refine ol_split (d := 66) rfl (fun hs66 => ?_) (fun hs66 => ?_)
          ·have phs66 := hs66; try simp only [decide_eq_true_eq, decide_eq_false_iff_not, Bool.not_eq_true', Bool.not_eq_false', Bool.not_true, Bool.not_false] at phs66
           refine ol_s rfl rfl hs66 rfl ?_
           refine ol_s rfl rfl hs66 rfl ?_
           refine ol_s rfl rfl hs66 rfl ?_
           refine ol_r (r_pickT rfl hs66 rfl) rfl ?_
           refine ol_nil (to_k0 (fun _ _ h => h) (hK63 _ _ _ _ _ ?_))
           clear hK63
           refine wp_condT rfl ?_
           refine wp_seq' fun K65 hK65 => ?_
           refine wp_reg ?_
           refine ol_r (r_assign rfl) rfl ?_
           refine ol_nil (to_k0 (fun _ _ h => h) (hK65 _ _ _ _ _ ?_))
           clear hK65
           refine hQ.ret (rvs1 (rv_t rfl)) (fun _ _ h => h) fun w hb hs hB hkd => ?_
           first
             | (exfalso; omega)
          ·have phs66 := hs66; try simp only [decide_eq_true_eq, decide_eq_false_iff_not, Bool.not_eq_true', Bool.not_eq_false', Bool.not_true, Bool.not_false] at phs66
           refine ol_g rfl rfl hs66 ?_
           refine ol_r (r_fa (o' := 6) rfl fl28_6 rfl) rfl ?_
           refine ol_g rfl rfl hs66 ?_
           refine ol_r (r_ld (id := 5) rfl rfl rfl sc3) rfl ?_
           refine ol_g rfl rfl hs66 ?_
           refine ol_call rfl rfl cb98 rfl (fun w1 hb1 hs1 hB1 => Calls.mono (ref2_outside _ _ _ _) ?_)
           rintro e w2 ⟨rfl, hb2⟩
           refine After.below rfl hb1 hs1 hB1 hb2 ?_
           clear hb2 hB1 hs1 hb1 w2 w1
           refine ol_r (r_pickF rfl hs66 rfl) rfl ?_
           refine ol_nil (to_k0 (fun _ _ h => h) (hK63 _ _ _ _ _ ?_))
           clear hK63
           refine wp_condNB rfl (fun hc70 => ?_) (fun hc70 => ?_)
           ·refine wp_seq' fun K66 hK66 => ?_
            refine wp_reg ?_
            refine ol_r (r_assign rfl) rfl ?_
            refine ol_nil (to_k0 (fun _ _ h => h) (hK66 _ _ _ _ _ ?_))
            clear hK66
            refine hQ.ret (rvs1 (rv_t rfl)) (fun _ _ h => h) fun w hb hs hB hkd => ?_
            first
              | (exfalso; omega)
           ·refine wp_skip' (to_k0 (fun _ _ h => h) (hK62 _ _ _ _ _ ?_))
            clear hK62
            refine wp_seq' fun K67 hK67 => ?_
            refine wp_reg ?_
            refine ol_r (r_assign rfl) rfl ?_
            refine ol_nil (to_k0 (fun _ _ h => h) (hK67 _ _ _ _ _ ?_))
            clear hK67
            refine hQ.ret (rvs1 (rv_t rfl)) (fun _ _ h => h) fun w hb hs hB hkd => ?_
            first
              | (exfalso; omega)
theorem ref2_lapFault (A : ActV) (k : Nat) (x : LapR) (w : World) (hA : A.Ok w.heap.size w) (hx : A.ls[k]? = some x) :
    Calls Try.prog 100 #[.agg #[.string A.name, .int .i64 A.sport, .int .i64 A.start, .slice A.sa A.sn A.sc, .slice A.la A.ln A.lc, .slice A.ta A.tn A.tc], .int .i64 k] w fun e w' => e = .returned (.int .i64 (fL (spanL A.ss) (ahead A.ls k) x)) ∧ Below w.heap.size w w' := by
  have hln := hA.l.len
  have hlf := hA.l.fit
  have hlt := (List.getElem?_eq_some_iff.1 hx).1
  have hnm := hA.lm _ (List.mem_of_getElem? hx)
  refine enterQ (N := 60) (C := fun _ => True) (H := []) (B := w.heap.size) (args := [_, _]) Try.func100 rfl rfl rfl (Nat.le_refl _) (Sat.nil _ _) fun Q hQ => ?_
  refine wp_seq' fun K1 hK1 => ?_
  refine wp_reg ?_
  refine ol_box 2 rfl rfl rfl fun b2 => ?_
  refine ol_r (r_assign rfl) rfl ?_
  refine ol_nil (to_k0 (fun _ _ h => h) (hK1 _ _ _ _ _ ?_))
  clear hK1
  refine wp_seq' fun K2 hK2 => ?_
  refine wp_reg ?_
  refine ol_r (r_fa (o' := 4) rfl fl26_4 rfl) rfl ?_
  refine ol_r (r_ld (id := 2) rfl rfl rfl sc23) rfl ?_
  refine ol_r (r_move rfl) rfl ?_
  refine ol_ixr hA.l rfl rfl sl23 (by omega) rfl fun x10 hx10 => ?_
  try simp only [Int.toNat_natCast] at hx10
  have h9 : x10 = x := by rw [hx] at hx10; cases hx10; rfl
  subst h9
  refine ol_r (r_ldw rfl (fun w1 hb1 hs1 hB1 => Rd.loads hA.l ty66 hx10 hb1)) rfl ?_
  refine ol_alloc 5 z66 rfl fun b5 => ?_
  refine ol_store (id := 5) rfl rfl rfl rfl sz66 rfl rfl (by first | decide | exact Nat.zero_lt_succ _ | simp) ?_
  refine ol_nil (to_k0 (fun _ _ h => h) (hK2 _ _ _ _ _ ?_))
  clear hK2
  refine wp_seq' fun K3 hK3 => ?_
  refine wp_seq' fun K4 hK4 => ?_
  refine wp_regq (by kernel_rfl) (by kernel_rfl) ?_
  refine ql_r (r_fa (o' := 0) rfl fl66_0 rfl) rfl ?_
  refine ql_r (r_ld (id := 5) rfl rfl rfl sc3) rfl ?_
  refine ql_r (r_lss rfl rfl) rfl ?_
  refine ql_r (r_move rfl) rfl ?_
  refine ql_split (d := 15) rfl (fun hs15 => ?_) (fun hs15 => ?_)
  ·have phs15 := hs15; try simp only [decide_eq_true_eq, decide_eq_false_iff_not, Bool.not_eq_true', Bool.not_eq_false', Bool.not_true, Bool.not_false] at phs15
   refine ql_s rfl rfl hs15 rfl ?_
   refine ql_s rfl rfl hs15 rfl ?_
   refine ql_s rfl rfl hs15 rfl ?_
   refine ql_s rfl rfl hs15 rfl ?_
   refine ql_s rfl rfl hs15 rfl ?_
   refine ql_r (r_pickT rfl hs15 rfl) rfl ?_
   refine ql_r (r_move rfl) rfl ?_
   refine ql_s rfl rfl rfl rfl ?_
   refine ql_s rfl rfl rfl rfl ?_
   refine ql_s rfl rfl rfl rfl ?_
   refine ql_s rfl rfl rfl rfl ?_
   refine ql_s rfl rfl rfl rfl ?_
   refine ql_r (r_pickT rfl rfl rfl) rfl ?_
   refine ql_nil (to_k0 (fun _ _ h => h) (hK4 _ _ _ _ _ ?_))
   clear hK4
   refine wp_condT rfl ?_
   refine wp_seq' fun K5 hK5 => ?_
   refine wp_reg ?_
   refine ol_r (r_assign rfl) rfl ?_
   refine ol_nil (to_k0 (fun _ _ h => h) (hK5 _ _ _ _ _ ?_))
   clear hK5
   refine hQ.ret (rvs1 (rv_t rfl)) (fun _ _ h => h) fun w hb hs hB hkd => ?_
   first
     | (have h := fL_9 (sp := spanL A.ss) (p := ahead A.ls k) (x := x10) (by omega)
        refine ⟨?_, hb⟩
        rw [h]
        done)
  ·have phs15 := hs15; try simp only [decide_eq_true_eq, decide_eq_false_iff_not, Bool.not_eq_true', Bool.not_eq_false', Bool.not_true, Bool.not_false] at phs15
   refine ql_g rfl rfl hs15 ?_
   refine ql_r (r_fa (o' := 0) rfl fl66_0 rfl) rfl ?_
   refine ql_g rfl rfl hs15 ?_
   refine ql_r (r_ld (id := 5) rfl rfl rfl sc3) rfl ?_
   refine ql_g rfl rfl hs15 ?_
   refine ql_r (r_fa (o' := 1) rfl fl66_1 rfl) rfl ?_
   refine ql_g rfl rfl hs15 ?_
   refine ql_r (r_ld (id := 5) rfl rfl rfl sc3) rfl ?_
   refine ql_g rfl rfl hs15 ?_
   refine ql_r (r_geq rfl rfl) rfl ?_
   refine ql_r (r_pickF rfl hs15 rfl) rfl ?_
   refine ql_r (r_move rfl) rfl ?_
   refine ql_split (d := 22) rfl (fun hs22 => ?_) (fun hs22 => ?_)
   ·have phs22 := hs22; try simp only [decide_eq_true_eq, decide_eq_false_iff_not, Bool.not_eq_true', Bool.not_eq_false', Bool.not_true, Bool.not_false] at phs22
    refine ql_s rfl rfl hs22 rfl ?_
    refine ql_s rfl rfl hs22 rfl ?_
    refine ql_s rfl rfl hs22 rfl ?_
    refine ql_s rfl rfl hs22 rfl ?_
    refine ql_s rfl rfl hs22 rfl ?_
    refine ql_r (r_pickT rfl hs22 rfl) rfl ?_
    refine ql_nil (to_k0 (fun _ _ h => h) (hK4 _ _ _ _ _ ?_))
    clear hK4
    refine wp_condT rfl ?_
    refine wp_seq' fun K6 hK6 => ?_
    refine wp_reg ?_
    refine ol_r (r_assign rfl) rfl ?_
    refine ol_nil (to_k0 (fun _ _ h => h) (hK6 _ _ _ _ _ ?_))
    clear hK6
    refine hQ.ret (rvs1 (rv_t rfl)) (fun _ _ h => h) fun w hb hs hB hkd => ?_
    first
      | (have h := fL_9 (sp := spanL A.ss) (p := ahead A.ls k) (x := x10) (by omega)
         refine ⟨?_, hb⟩
         rw [h]
         done)
   ·have phs22 := hs22; try simp only [decide_eq_true_eq, decide_eq_false_iff_not, Bool.not_eq_true', Bool.not_eq_false', Bool.not_true, Bool.not_false] at phs22
    refine ql_g rfl rfl hs22 ?_
    refine ql_r (r_fa (o' := 1) rfl fl66_1 rfl) rfl ?_
    refine ql_g rfl rfl hs22 ?_
    refine ql_r (r_ld (id := 5) rfl rfl rfl sc3) rfl ?_
    refine ql_g rfl rfl hs22 ?_
    refine ql_r (r_lda (id := 2) (n := 6) rfl rfl rfl ag26) rfl ?_
    refine ql_g rfl rfl hs22 ?_
    refine ql_call rfl rfl cb46 rfl (fun w1 hb1 hs1 hB1 => ref2_SpanOf A _ (hA.at hb1 hB1)) ?_
    refine ql_g rfl rfl hs22 ?_
    refine ql_r (r_gtr rfl rfl) rfl ?_
    refine ql_r (r_pickF rfl hs22 rfl) rfl ?_
    refine ql_nil (to_k0 (fun _ _ h => h) (hK4 _ _ _ _ _ ?_))
    clear hK4
    refine wp_condD rfl (fun hc28 => ?_) (fun hc28 => ?_)
    ·refine wp_seq' fun K7 hK7 => ?_
     refine wp_reg ?_
     refine ol_r (r_assign rfl) rfl ?_
     refine ol_nil (to_k0 (fun _ _ h => h) (hK7 _ _ _ _ _ ?_))
     clear hK7
     refine hQ.ret (rvs1 (rv_t rfl)) (fun _ _ h => h) fun w hb hs hB hkd => ?_
     first
       | (have h := fL_9 (sp := spanL A.ss) (p := ahead A.ls k) (x := x10) (by omega)
          refine ⟨?_, hb⟩
          rw [h]
          done)
    ·refine wp_skip' (to_k0 (fun _ _ h => h) (hK3 _ _ _ _ _ ?_))
     clear hK3
     refine wp_seq' fun K8 hK8 => ?_
     refine wp_seq' fun K9 hK9 => ?_
     refine wp_regq (by kernel_rfl) (by kernel_rfl) ?_
     refine ql_r (r_move rfl) rfl ?_
     refine ql_r (r_gtr rfl rfl) rfl ?_
     refine ql_r (r_move rfl) rfl ?_
     refine ql_split (d := 31) rfl (fun hs31 => ?_) (fun hs31 => ?_)
     ·have phs31 := hs31; try simp only [decide_eq_true_eq, decide_eq_false_iff_not, Bool.not_eq_true', Bool.not_eq_false', Bool.not_true, Bool.not_false] at phs31
      refine ql_g rfl rfl hs31 ?_
      refine ql_r (r_fa (o' := 0) rfl fl66_0 rfl) rfl ?_
      refine ql_g rfl rfl hs31 ?_
      refine ql_r (r_ld (id := 5) rfl rfl rfl sc3) rfl ?_
      refine ql_g rfl rfl hs31 ?_
      refine ql_r (r_fa (o' := 4) rfl fl26_4 rfl) rfl ?_
      refine ql_g rfl rfl hs31 ?_
      refine ql_r (r_ld (id := 2) rfl rfl rfl sc23) rfl ?_
      refine ql_g rfl rfl hs31 ?_
      refine ql_r (r_move rfl) rfl ?_
      refine ql_g rfl rfl hs31 ?_
      refine ql_r (r_sub rfl rfl (by omega)) rfl ?_
      refine ql_g rfl rfl hs31 ?_
      refine ql_ixr hA.l rfl rfl sl23 (by omega) rfl fun x38 hx38 => ?_
      try simp only [Int.toNat_natCast] at hx38
      refine ql_g rfl rfl hs31 ?_
      refine ql_r (r_faw rfl (ix_some hA.l (by omega)) fl66_1) rfl ?_
      refine ql_g rfl rfl hs31 ?_
      refine ql_r (r_ldw rfl (fun w1 hb1 hs1 hB1 => Rd.loadsF (o := 1) hA.l sc3 hx38 hb1 rfl)) rfl ?_
      refine ql_g rfl rfl hs31 ?_
      refine ql_r (r_lss rfl rfl) rfl ?_
      refine ql_r (r_pickT rfl hs31 rfl) rfl ?_
      refine ql_nil (to_k0 (fun _ _ h => h) (hK9 _ _ _ _ _ ?_))
      clear hK9
      refine wp_condD rfl (fun hc42 => ?_) (fun hc42 => ?_)
      ·refine wp_seq' fun K10 hK10 => ?_
       refine wp_reg ?_
       refine ol_r (r_assign rfl) rfl ?_
       refine ol_nil (to_k0 (fun _ _ h => h) (hK10 _ _ _ _ _ ?_))
       clear hK10
       refine hQ.ret (rvs1 (rv_t rfl)) (fun _ _ h => h) fun w hb hs hB hkd => ?_
       first
         | (have h := fL_10 (sp := spanL A.ss) (p := ahead A.ls k) (x := x10) (by omega) (by rw [ordL_1 (by omega) hx38, decide_eq_true (by omega)])
            refine ⟨?_, hb⟩
            rw [h]
            done)
      ·refine wp_skip' (to_k0 (fun _ _ h => h) (hK8 _ _ _ _ _ ?_))
       clear hK8
       refine wp_seq' fun K11 hK11 => ?_
       refine wp_seq' fun K12 hK12 => ?_
       refine wp_reg ?_
       refine ol_r (r_assign rfl) rfl ?_
       refine ol_nil (to_k0 (fun _ _ h => h) (hK12 _ _ _ _ _ ?_))
       clear hK12
       refine wp_block' ?_
       apply wp_loopM (σ := Nat) (fun s => s ≤ x10.name.size ∧ ∀ i, i < s → inB (byteAt x10.name i) 32 126 = true) (fun s => [(6, .int .i64 s)]) [(5, _)] (fun s => []) [(2, _), (5, _)] (fun s => x10.name.size - s) (0)
       ·try dsimp only
        exact ⟨Nat.zero_le _, fun i h => by omega⟩
       ·exact (sub_cons rfl sub_nil)
       ·exact (sub_cons rfl sub_nil)
       ·exact subH_nil
       ·exact (subH_same rfl (subH_same rfl subH_nil))
       ·rintro i ⟨hi, hP⟩
        intro K13 hK13
        refine wp_seq' fun K14 hK14 => ?_
        refine wp_seq' fun K15 hK15 => ?_
        refine wp_reg ?_
        have ho : ordL (ahead A.ls k) x10 = false := by
          first
            | (rw [ordL_0 (by omega)]; done)
            | (rw [ordL_1 (by omega) hx38, decide_eq_false (by omega)]; done)
        have hr : ¬(x10.from_ < 0 ∨ x10.to ≤ x10.from_ ∨ spanL A.ss < x10.to) := by omega
        refine ol_r (r_move rfl) rfl ?_
        refine ol_r (r_fa (o' := 2) rfl fl66_2 rfl) rfl ?_
        refine ol_r (r_ld (id := 5) rfl rfl rfl sc9) rfl ?_
        refine ol_r (r_lens rfl st9) rfl ?_
        refine ol_r (r_lss rfl rfl) rfl ?_
        refine ol_nil (to_k0 (fun _ _ h => h) (hK15 _ _ _ _ _ ?_))
        clear hK15
        refine wp_condD rfl (fun hc47 => ?_) (fun hc47 => ?_)
        ·refine wp_skip' (to_k0 (fun _ _ h => h) (hK14 _ _ _ _ _ ?_))
         clear hK14
         refine wp_seq' fun K16 hK16 => ?_
         refine wp_block' ?_
         refine wp_seq' fun K17 hK17 => ?_
         refine wp_reg ?_
         refine ol_r (r_fa (o' := 2) rfl fl66_2 rfl) rfl ?_
         refine ol_r (r_ld (id := 5) rfl rfl rfl sc9) rfl ?_
         refine ol_r (r_move rfl) rfl ?_
         refine ol_r (r_sidx rfl rfl st9 (by omega)) rfl ?_
         try simp only [Int.toNat_natCast]
         have hbb := byteAt_bd x10.name i
         refine ol_r (r_conv (k2 := .i64) rfl (by kernel_rfl) (by kernel_rfl) (IntWalk.i64_in _ (by omega))) rfl ?_
         refine ol_call rfl rfl cb98 rfl (fun w1 hb1 hs1 hB1 => Calls.mono (ref2_outside _ _ _ _) ?_)
         rintro e w2 ⟨rfl, hb2⟩
         refine After.below rfl hb1 hs1 hB1 hb2 ?_
         clear hb2 hB1 hs1 hb1 w2 w1
         refine ol_nil (to_k0 (fun _ _ h => h) (hK17 _ _ _ _ _ ?_))
         clear hK17
         refine wp_condNB rfl (fun hc55 => ?_) (fun hc55 => ?_)
         ·refine wp_seq' fun K18 hK18 => ?_
          refine wp_reg ?_
          refine ol_r (r_assign rfl) rfl ?_
          refine ol_nil (to_k0 (fun _ _ h => h) (hK18 _ _ _ _ _ ?_))
          clear hK18
          refine hQ.ret (rvs1 (rv_t rfl)) (fun _ _ h => h) fun w hb hs hB hkd => ?_
          first
            | (have h1 : inB (byteAt x10.name i) 32 126 = false := by simpa using hc55
               have h2 : titleB x10.name = false := by unfold titleB; rw [bytesAll_not (p := fun c => inB c 32 126) (by omega) h1]; rfl
               have h := fL_8 hr ho h2
               refine ⟨?_, hb⟩
               rw [h]
               done)
         ·refine wp_skip' (to_k0 (fun _ _ h => h) (hK16 _ _ _ _ _ ?_))
          clear hK16
          refine wp_reg ?_
          refine ol_r (r_move rfl) rfl ?_
          refine ol_r (r_add rfl rfl (by omega)) rfl ?_
          refine ol_r (r_assign rfl) rfl ?_
          refine ol_nil (to_k0 (fun _ _ h => h) (hK13 (i + 1) _ _ ?_ ?_ (sub_cons rfl sub_nil) (sub_cons rfl sub_nil) (by exact subH_nil) (subH_same rfl (subH_same rfl subH_nil))))
          ·try dsimp only
           refine ⟨by omega, fun j hj => ?_⟩
           by_cases h : j < i
           · exact hP j h
           · have : j = i := by omega
             subst this
             simpa using hc55
          ·try dsimp only
           omega
        ·refine wp_exit' (to_k0 (fun _ _ h => h) (hK11 _ _ _ _ _ ?_))
         clear hK11
         refine wp_seq' fun K19 hK19 => ?_
         refine wp_seq' fun K20 hK20 => ?_
         refine wp_reg ?_
         refine ol_r (r_fa (o' := 2) rfl fl66_2 rfl) rfl ?_
         refine ol_r (r_ld (id := 5) rfl rfl rfl sc9) rfl ?_
         refine ol_r (r_lens rfl st9) rfl ?_
         refine ol_r (r_gtr rfl rfl) rfl ?_
         refine ol_nil (to_k0 (fun _ _ h => h) (hK20 _ _ _ _ _ ?_))
         clear hK20
         refine wp_condD rfl (fun hc59 => ?_) (fun hc59 => ?_)
         ·refine wp_seq' fun K21 hK21 => ?_
          refine wp_reg ?_
          refine ol_r (r_assign rfl) rfl ?_
          refine ol_nil (to_k0 (fun _ _ h => h) (hK21 _ _ _ _ _ ?_))
          clear hK21
          refine hQ.ret (rvs1 (rv_t rfl)) (fun _ _ h => h) fun w hb hs hB hkd => ?_
          first
            | (have h1 : bytesAll (fun c => inB c 32 126) x10.name = true := bytesAll_iff.2 fun j hj => hP j (by omega)
               have h2 : titleB x10.name = decide (x10.name.size ≤ 60) := by unfold titleB; rw [h1, Bool.true_and]
               first
                 | (rw [decide_eq_true (by omega)] at h2
                    have h := fL_0 hr ho h2
                    refine ⟨?_, hb⟩
                    rw [h]
                    done)
                 | (rw [decide_eq_false (by omega)] at h2
                    have h := fL_8 hr ho h2
                    refine ⟨?_, hb⟩
                    rw [h]
                    done))
         ·refine wp_skip' (to_k0 (fun _ _ h => h) (hK19 _ _ _ _ _ ?_))
          clear hK19
          refine wp_seq' fun K22 hK22 => ?_
          refine wp_reg ?_
          refine ol_r (r_assign rfl) rfl ?_
          refine ol_nil (to_k0 (fun _ _ h => h) (hK22 _ _ _ _ _ ?_))
          clear hK22
          refine hQ.ret (rvs1 (rv_t rfl)) (fun _ _ h => h) fun w hb hs hB hkd => ?_
          first
            | (have h1 : bytesAll (fun c => inB c 32 126) x10.name = true := bytesAll_iff.2 fun j hj => hP j (by omega)
               have h2 : titleB x10.name = decide (x10.name.size ≤ 60) := by unfold titleB; rw [h1, Bool.true_and]
               first
                 | (rw [decide_eq_true (by omega)] at h2
                    have h := fL_0 hr ho h2
                    refine ⟨?_, hb⟩
                    rw [h]
                    done)
                 | (rw [decide_eq_false (by omega)] at h2
                    have h := fL_8 hr ho h2
                    refine ⟨?_, hb⟩
                    rw [h]
                    done))
     ·have phs31 := hs31; try simp only [decide_eq_true_eq, decide_eq_false_iff_not, Bool.not_eq_true', Bool.not_eq_false', Bool.not_true, Bool.not_false] at phs31
      refine ql_s rfl rfl hs31 rfl ?_
      refine ql_s rfl rfl hs31 rfl ?_
      refine ql_s rfl rfl hs31 rfl ?_
      refine ql_s rfl rfl hs31 rfl ?_
      refine ql_s rfl rfl hs31 rfl ?_
      refine ql_s rfl rfl hs31 rfl ?_
      refine ql_s rfl rfl hs31 rfl ?_
      refine ql_s rfl rfl hs31 rfl ?_
      refine ql_s rfl rfl hs31 rfl ?_
      refine ql_s rfl rfl hs31 rfl ?_
      refine ql_r (r_pickF rfl hs31 rfl) rfl ?_
      refine ql_nil (to_k0 (fun _ _ h => h) (hK9 _ _ _ _ _ ?_))
      clear hK9
      refine wp_condF rfl ?_
      refine wp_skip' (to_k0 (fun _ _ h => h) (hK8 _ _ _ _ _ ?_))
      clear hK8
      refine wp_seq' fun K23 hK23 => ?_
      refine wp_seq' fun K24 hK24 => ?_
      refine wp_reg ?_
      refine ol_r (r_assign rfl) rfl ?_
      refine ol_nil (to_k0 (fun _ _ h => h) (hK24 _ _ _ _ _ ?_))
      clear hK24
      refine wp_block' ?_
      apply wp_loopM (σ := Nat) (fun s => s ≤ x10.name.size ∧ ∀ i, i < s → inB (byteAt x10.name i) 32 126 = true) (fun s => [(6, .int .i64 s)]) [(5, _)] (fun s => []) [(2, _), (5, _)] (fun s => x10.name.size - s) (0)
      ·try dsimp only
       exact ⟨Nat.zero_le _, fun i h => by omega⟩
      ·exact (sub_cons rfl sub_nil)
      ·exact (sub_cons rfl sub_nil)
      ·exact subH_nil
      ·exact (subH_same rfl (subH_same rfl subH_nil))
      ·rintro i ⟨hi, hP⟩
       intro K25 hK25
       refine wp_seq' fun K26 hK26 => ?_
       refine wp_seq' fun K27 hK27 => ?_
       refine wp_reg ?_
       have ho : ordL (ahead A.ls k) x10 = false := by
         first
           | (rw [ordL_0 (by omega)]; done)
           | (rw [ordL_1 (by omega) hx38, decide_eq_false (by omega)]; done)
       have hr : ¬(x10.from_ < 0 ∨ x10.to ≤ x10.from_ ∨ spanL A.ss < x10.to) := by omega
       refine ol_r (r_move rfl) rfl ?_
       refine ol_r (r_fa (o' := 2) rfl fl66_2 rfl) rfl ?_
       refine ol_r (r_ld (id := 5) rfl rfl rfl sc9) rfl ?_
       refine ol_r (r_lens rfl st9) rfl ?_
       refine ol_r (r_lss rfl rfl) rfl ?_
       refine ol_nil (to_k0 (fun _ _ h => h) (hK27 _ _ _ _ _ ?_))
       clear hK27
       refine wp_condD rfl (fun hc47 => ?_) (fun hc47 => ?_)
       ·refine wp_skip' (to_k0 (fun _ _ h => h) (hK26 _ _ _ _ _ ?_))
        clear hK26
        refine wp_seq' fun K28 hK28 => ?_
        refine wp_block' ?_
        refine wp_seq' fun K29 hK29 => ?_
        refine wp_reg ?_
        refine ol_r (r_fa (o' := 2) rfl fl66_2 rfl) rfl ?_
        refine ol_r (r_ld (id := 5) rfl rfl rfl sc9) rfl ?_
        refine ol_r (r_move rfl) rfl ?_
        refine ol_r (r_sidx rfl rfl st9 (by omega)) rfl ?_
        try simp only [Int.toNat_natCast]
        have hbb := byteAt_bd x10.name i
        refine ol_r (r_conv (k2 := .i64) rfl (by kernel_rfl) (by kernel_rfl) (IntWalk.i64_in _ (by omega))) rfl ?_
        refine ol_call rfl rfl cb98 rfl (fun w1 hb1 hs1 hB1 => Calls.mono (ref2_outside _ _ _ _) ?_)
        rintro e w2 ⟨rfl, hb2⟩
        refine After.below rfl hb1 hs1 hB1 hb2 ?_
        clear hb2 hB1 hs1 hb1 w2 w1
        refine ol_nil (to_k0 (fun _ _ h => h) (hK29 _ _ _ _ _ ?_))
        clear hK29
        refine wp_condNB rfl (fun hc55 => ?_) (fun hc55 => ?_)
        ·refine wp_seq' fun K30 hK30 => ?_
         refine wp_reg ?_
         refine ol_r (r_assign rfl) rfl ?_
         refine ol_nil (to_k0 (fun _ _ h => h) (hK30 _ _ _ _ _ ?_))
         clear hK30
         refine hQ.ret (rvs1 (rv_t rfl)) (fun _ _ h => h) fun w hb hs hB hkd => ?_
         first
           | (have h1 : inB (byteAt x10.name i) 32 126 = false := by simpa using hc55
              have h2 : titleB x10.name = false := by unfold titleB; rw [bytesAll_not (p := fun c => inB c 32 126) (by omega) h1]; rfl
              have h := fL_8 hr ho h2
              refine ⟨?_, hb⟩
              rw [h]
              done)
        ·refine wp_skip' (to_k0 (fun _ _ h => h) (hK28 _ _ _ _ _ ?_))
         clear hK28
         refine wp_reg ?_
         refine ol_r (r_move rfl) rfl ?_
         refine ol_r (r_add rfl rfl (by omega)) rfl ?_
         refine ol_r (r_assign rfl) rfl ?_
         refine ol_nil (to_k0 (fun _ _ h => h) (hK25 (i + 1) _ _ ?_ ?_ (sub_cons rfl sub_nil) (sub_cons rfl sub_nil) (by exact subH_nil) (subH_same rfl (subH_same rfl subH_nil))))
         ·try dsimp only
          refine ⟨by omega, fun j hj => ?_⟩
          by_cases h : j < i
          · exact hP j h
          · have : j = i := by omega
            subst this
            simpa using hc55
         ·try dsimp only
          omega
       ·refine wp_exit' (to_k0 (fun _ _ h => h) (hK23 _ _ _ _ _ ?_))
        clear hK23
        refine wp_seq' fun K31 hK31 => ?_
        refine wp_seq' fun K32 hK32 => ?_
        refine wp_reg ?_
        refine ol_r (r_fa (o' := 2) rfl fl66_2 rfl) rfl ?_
        refine ol_r (r_ld (id := 5) rfl rfl rfl sc9) rfl ?_
        refine ol_r (r_lens rfl st9) rfl ?_
        refine ol_r (r_gtr rfl rfl) rfl ?_
        refine ol_nil (to_k0 (fun _ _ h => h) (hK32 _ _ _ _ _ ?_))
        clear hK32
        refine wp_condD rfl (fun hc59 => ?_) (fun hc59 => ?_)
        ·refine wp_seq' fun K33 hK33 => ?_
         refine wp_reg ?_
         refine ol_r (r_assign rfl) rfl ?_
         refine ol_nil (to_k0 (fun _ _ h => h) (hK33 _ _ _ _ _ ?_))
         clear hK33
         refine hQ.ret (rvs1 (rv_t rfl)) (fun _ _ h => h) fun w hb hs hB hkd => ?_
         first
           | (have h1 : bytesAll (fun c => inB c 32 126) x10.name = true := bytesAll_iff.2 fun j hj => hP j (by omega)
              have h2 : titleB x10.name = decide (x10.name.size ≤ 60) := by unfold titleB; rw [h1, Bool.true_and]
              first
                | (rw [decide_eq_true (by omega)] at h2
                   have h := fL_0 hr ho h2
                   refine ⟨?_, hb⟩
                   rw [h]
                   done)
                | (rw [decide_eq_false (by omega)] at h2
                   have h := fL_8 hr ho h2
                   refine ⟨?_, hb⟩
                   rw [h]
                   done))
        ·refine wp_skip' (to_k0 (fun _ _ h => h) (hK31 _ _ _ _ _ ?_))
         clear hK31
         refine wp_seq' fun K34 hK34 => ?_
         refine wp_reg ?_
         refine ol_r (r_assign rfl) rfl ?_
         refine ol_nil (to_k0 (fun _ _ h => h) (hK34 _ _ _ _ _ ?_))
         clear hK34
         refine hQ.ret (rvs1 (rv_t rfl)) (fun _ _ h => h) fun w hb hs hB hkd => ?_
         first
           | (have h1 : bytesAll (fun c => inB c 32 126) x10.name = true := bytesAll_iff.2 fun j hj => hP j (by omega)
              have h2 : titleB x10.name = decide (x10.name.size ≤ 60) := by unfold titleB; rw [h1, Bool.true_and]
              first
                | (rw [decide_eq_true (by omega)] at h2
                   have h := fL_0 hr ho h2
                   refine ⟨?_, hb⟩
                   rw [h]
                   done)
                | (rw [decide_eq_false (by omega)] at h2
                   have h := fL_8 hr ho h2
                   refine ⟨?_, hb⟩
                   rw [h]
                   done))
theorem ref2_Check (A : ActV) (w : World) (hA : A.Ok w.heap.size w) : Calls Try.prog 44 #[.agg #[.string A.name, .int .i64 A.sport, .int .i64 A.start, .slice A.sa A.sn A.sc, .slice A.la A.ln A.lc, .slice A.ta A.tn A.tc]] w fun e w' => e = .returned (.int .i64 (chkA A.d)) ∧ Below w.heap.size w w' := by
  have hsn := hA.s.len
  have hln := hA.l.len
  have htn := hA.t.len
  have hsf := hA.s.fit
  have hlf := hA.l.fit
  have htf := hA.t.fit
  refine enterQ (N := 89) (C := fun _ => True) (H := []) (B := w.heap.size) (args := [_]) Try.func44 rfl rfl rfl (Nat.le_refl _) (Sat.nil _ _) fun Q hQ => ?_
  refine wp_seq' fun K1 hK1 => ?_
  refine wp_reg ?_
  refine ol_box 1 rfl rfl rfl fun b1 => ?_
  refine ol_r (r_assign rfl) rfl ?_
  refine ol_nil (to_k0 (fun _ _ h => h) (hK1 _ _ _ _ _ ?_))
  clear hK1
  refine wp_seq' fun K2 hK2 => ?_
  refine wp_block' ?_
  refine wp_seq' fun K3 hK3 => ?_
  refine wp_reg ?_
  refine ol_r (r_fa (o' := 0) rfl fl26_0 rfl) rfl ?_
  refine ol_r (r_ld (id := 1) rfl rfl rfl sc9) rfl ?_
  refine ol_call rfl rfl cb97 rfl (fun w1 hb1 hs1 hB1 => Calls.mono (ref2_IsName A.name _ hA.nm) ?_)
  rintro e w2 ⟨rfl, hb2⟩
  refine After.below rfl hb1 hs1 hB1 hb2 ?_
  clear hb2 hB1 hs1 hb1 w2 w1
  refine ol_r (r_not rfl) rfl ?_
  refine ol_r (r_assign rfl) rfl ?_
  refine ol_nil (to_k0 (fun _ _ h => h) (hK3 _ _ _ _ _ ?_))
  clear hK3
  refine wp_condNB rfl (fun hc9 => ?_) (fun hc9 => ?_)
  ·refine wp_seq' fun K4 hK4 => ?_
   refine wp_reg ?_
   refine ol_r (r_assign rfl) rfl ?_
   refine ol_nil (to_k0 (fun _ _ h => h) (hK4 _ _ _ _ _ ?_))
   clear hK4
   refine hQ.ret (rvs1 (rv_t rfl)) (fun _ _ h => h) fun w hb hs hB hkd => ?_
   first
     | (have h := chkA_8 (a := A.d) (show nameB A.name = false by simpa using hc9)
        refine ⟨?_, hb⟩
        rw [h]
        done)
  ·refine wp_seq' fun K5 hK5 => ?_
   refine wp_reg ?_
   refine ol_r (r_fa (o' := 1) rfl fl26_1 rfl) rfl ?_
   refine ol_r (r_ld (id := 1) rfl rfl rfl sc3) rfl ?_
   refine ol_call rfl rfl cb98 rfl (fun w1 hb1 hs1 hB1 => Calls.mono (ref2_outside _ _ _ _) ?_)
   rintro e w2 ⟨rfl, hb2⟩
   refine After.below rfl hb1 hs1 hB1 hb2 ?_
   clear hb2 hB1 hs1 hb1 w2 w1
   refine ol_r (r_assign rfl) rfl ?_
   refine ol_nil (to_k0 (fun _ _ h => h) (hK5 _ _ _ _ _ ?_))
   clear hK5
   refine wp_condNB rfl (fun hc14 => ?_) (fun hc14 => ?_)
   ·refine wp_seq' fun K6 hK6 => ?_
    refine wp_reg ?_
    refine ol_r (r_assign rfl) rfl ?_
    refine ol_nil (to_k0 (fun _ _ h => h) (hK6 _ _ _ _ _ ?_))
    clear hK6
    refine hQ.ret (rvs1 (rv_t rfl)) (fun _ _ h => h) fun w hb hs hB hkd => ?_
    first
      | (have h := chkA_7 (a := A.d) (show nameB A.name = true by simpa using hc9) (show inB A.sport 1 5 = false by simpa using hc14)
         refine ⟨?_, hb⟩
         rw [h]
         done)
   ·refine wp_seq' fun K7 hK7 => ?_
    refine wp_reg ?_
    refine ol_r (r_fa (o' := 2) rfl fl26_2 rfl) rfl ?_
    refine ol_r (r_ld (id := 1) rfl rfl rfl sc3) rfl ?_
    refine ol_call rfl rfl cb98 rfl (fun w1 hb1 hs1 hB1 => Calls.mono (ref2_outside _ _ _ _) ?_)
    rintro e w2 ⟨rfl, hb2⟩
    refine After.below rfl hb1 hs1 hB1 hb2 ?_
    clear hb2 hB1 hs1 hb1 w2 w1
    refine ol_r (r_assign rfl) rfl ?_
    refine ol_nil (to_k0 (fun _ _ h => h) (hK7 _ _ _ _ _ ?_))
    clear hK7
    refine wp_condNB rfl (fun hc18 => ?_) (fun hc18 => ?_)
    ·refine wp_seq' fun K8 hK8 => ?_
     refine wp_reg ?_
     refine ol_r (r_assign rfl) rfl ?_
     refine ol_nil (to_k0 (fun _ _ h => h) (hK8 _ _ _ _ _ ?_))
     clear hK8
     refine hQ.ret (rvs1 (rv_t rfl)) (fun _ _ h => h) fun w hb hs hB hkd => ?_
     first
       | (have h := chkA_9 (a := A.d) (show nameB A.name = true by simpa using hc9) (show inB A.sport 1 5 = true by simpa using hc14) (show inB A.start 0 86399999999 = false by simpa using hc18)
          refine ⟨?_, hb⟩
          rw [h]
          done)
    ·refine wp_seq' fun K9 hK9 => ?_
     refine wp_reg ?_
     refine ol_r (r_fa (o' := 3) rfl fl26_3 rfl) rfl ?_
     refine ol_r (r_ld (id := 1) rfl rfl rfl sc22) rfl ?_
     refine ol_r (r_len rfl sl22) rfl ?_
     refine ol_r (r_gtr rfl rfl) rfl ?_
     refine ol_r (r_move rfl) rfl ?_
     refine ol_split (d := 27) rfl (fun hs27 => ?_) (fun hs27 => ?_)
     ·have phs27 := hs27; try simp only [decide_eq_true_eq, decide_eq_false_iff_not, Bool.not_eq_true', Bool.not_eq_false', Bool.not_true, Bool.not_false] at phs27
      refine ol_s rfl rfl hs27 rfl ?_
      refine ol_s rfl rfl hs27 rfl ?_
      refine ol_s rfl rfl hs27 rfl ?_
      refine ol_s rfl rfl hs27 rfl ?_
      refine ol_r (r_pickT rfl hs27 rfl) rfl ?_
      refine ol_r (r_move rfl) rfl ?_
      refine ol_s rfl rfl rfl rfl ?_
      refine ol_s rfl rfl rfl rfl ?_
      refine ol_s rfl rfl rfl rfl ?_
      refine ol_s rfl rfl rfl rfl ?_
      refine ol_r (r_pickT rfl rfl rfl) rfl ?_
      refine ol_r (r_assign rfl) rfl ?_
      refine ol_nil (to_k0 (fun _ _ h => h) (hK9 _ _ _ _ _ ?_))
      clear hK9
      refine wp_condT rfl ?_
      refine wp_seq' fun K10 hK10 => ?_
      refine wp_reg ?_
      refine ol_r (r_assign rfl) rfl ?_
      refine ol_nil (to_k0 (fun _ _ h => h) (hK10 _ _ _ _ _ ?_))
      clear hK10
      refine hQ.ret (rvs1 (rv_t rfl)) (fun _ _ h => h) fun w hb hs hB hkd => ?_
      first
        | (have h := chkA_3 (a := A.d) (show nameB A.name = true by simpa using hc9) (show inB A.sport 1 5 = true by simpa using hc14) (show inB A.start 0 86399999999 = true by simpa using hc18) (show 20000 < A.ss.length ∨ 200 < A.ls.length ∨ 20 < A.ts.length by omega)
           refine ⟨?_, hb⟩
           rw [h]
           done)
     ·have phs27 := hs27; try simp only [decide_eq_true_eq, decide_eq_false_iff_not, Bool.not_eq_true', Bool.not_eq_false', Bool.not_true, Bool.not_false] at phs27
      refine ol_g rfl rfl hs27 ?_
      refine ol_r (r_fa (o' := 4) rfl fl26_4 rfl) rfl ?_
      refine ol_g rfl rfl hs27 ?_
      refine ol_r (r_ld (id := 1) rfl rfl rfl sc23) rfl ?_
      refine ol_g rfl rfl hs27 ?_
      refine ol_r (r_len rfl sl23) rfl ?_
      refine ol_g rfl rfl hs27 ?_
      refine ol_r (r_gtr rfl rfl) rfl ?_
      refine ol_r (r_pickF rfl hs27 rfl) rfl ?_
      refine ol_r (r_move rfl) rfl ?_
      refine ol_split (d := 33) rfl (fun hs33 => ?_) (fun hs33 => ?_)
      ·have phs33 := hs33; try simp only [decide_eq_true_eq, decide_eq_false_iff_not, Bool.not_eq_true', Bool.not_eq_false', Bool.not_true, Bool.not_false] at phs33
       refine ol_s rfl rfl hs33 rfl ?_
       refine ol_s rfl rfl hs33 rfl ?_
       refine ol_s rfl rfl hs33 rfl ?_
       refine ol_s rfl rfl hs33 rfl ?_
       refine ol_r (r_pickT rfl hs33 rfl) rfl ?_
       refine ol_r (r_assign rfl) rfl ?_
       refine ol_nil (to_k0 (fun _ _ h => h) (hK9 _ _ _ _ _ ?_))
       clear hK9
       refine wp_condT rfl ?_
       refine wp_seq' fun K11 hK11 => ?_
       refine wp_reg ?_
       refine ol_r (r_assign rfl) rfl ?_
       refine ol_nil (to_k0 (fun _ _ h => h) (hK11 _ _ _ _ _ ?_))
       clear hK11
       refine hQ.ret (rvs1 (rv_t rfl)) (fun _ _ h => h) fun w hb hs hB hkd => ?_
       first
         | (have h := chkA_3 (a := A.d) (show nameB A.name = true by simpa using hc9) (show inB A.sport 1 5 = true by simpa using hc14) (show inB A.start 0 86399999999 = true by simpa using hc18) (show 20000 < A.ss.length ∨ 200 < A.ls.length ∨ 20 < A.ts.length by omega)
            refine ⟨?_, hb⟩
            rw [h]
            done)
      ·have phs33 := hs33; try simp only [decide_eq_true_eq, decide_eq_false_iff_not, Bool.not_eq_true', Bool.not_eq_false', Bool.not_true, Bool.not_false] at phs33
       refine ol_g rfl rfl hs33 ?_
       refine ol_r (r_fa (o' := 5) rfl fl26_5 rfl) rfl ?_
       refine ol_g rfl rfl hs33 ?_
       refine ol_r (r_ld (id := 1) rfl rfl rfl sc24) rfl ?_
       refine ol_g rfl rfl hs33 ?_
       refine ol_r (r_len rfl sl24) rfl ?_
       refine ol_g rfl rfl hs33 ?_
       refine ol_r (r_gtr rfl rfl) rfl ?_
       refine ol_r (r_pickF rfl hs33 rfl) rfl ?_
       refine ol_r (r_assign rfl) rfl ?_
       refine ol_nil (to_k0 (fun _ _ h => h) (hK9 _ _ _ _ _ ?_))
       clear hK9
       refine wp_condD rfl (fun hc22 => ?_) (fun hc22 => ?_)
       ·refine wp_seq' fun K12 hK12 => ?_
        refine wp_reg ?_
        refine ol_r (r_assign rfl) rfl ?_
        refine ol_nil (to_k0 (fun _ _ h => h) (hK12 _ _ _ _ _ ?_))
        clear hK12
        refine hQ.ret (rvs1 (rv_t rfl)) (fun _ _ h => h) fun w hb hs hB hkd => ?_
        first
          | (have h := chkA_3 (a := A.d) (show nameB A.name = true by simpa using hc9) (show inB A.sport 1 5 = true by simpa using hc14) (show inB A.start 0 86399999999 = true by simpa using hc18) (show 20000 < A.ss.length ∨ 200 < A.ls.length ∨ 20 < A.ts.length by omega)
             refine ⟨?_, hb⟩
             rw [h]
             done)
       ·refine wp_skip' (to_k0 (fun _ _ h => h) (hK2 _ _ _ _ _ ?_))
        clear hK2
        refine wp_seq' fun K13 hK13 => ?_
        refine wp_seq' fun K14 hK14 => ?_
        refine wp_reg ?_
        have hH : headA A.d := ⟨show nameB A.name = true by simpa using hc9, show inB A.sport 1 5 = true by simpa using hc14, show inB A.start 0 86399999999 = true by simpa using hc18, by show A.ss.length ≤ 20000; omega, by show A.ls.length ≤ 200; omega, by show A.ts.length ≤ 20; omega⟩
        have hst := inB_iff.1 hH.2.2.1
        simp only [ActV.d] at hst
        refine ol_r (r_fa (o' := 3) rfl fl26_3 rfl) rfl ?_
        refine ol_r (r_ld (id := 1) rfl rfl rfl sc22) rfl ?_
        refine ol_r (r_len rfl sl22) rfl ?_
        refine ol_r (r_move rfl) rfl ?_
        refine ol_nil (to_k0 (fun _ _ h => h) (hK14 _ _ _ _ _ ?_))
        clear hK14
        refine wp_block' ?_
        apply wp_loopM (σ := Nat) (fun s => s ≤ A.sn ∧ chkE (fS A.start) none A.ss = chkE (fS A.start) (ahead A.ss s) (A.ss.drop s) ∧ (∀ j y, j < s → A.ss[j]? = some y → 0 ≤ y.at_)) (fun s => [(42, .int .i64 s)]) [(1, _), (41, _)] (fun s => []) [(1, _)] (fun s => A.sn - s) (0)
        ·try dsimp only
         exact ⟨Nat.zero_le _, chkE_start _ _, fun j y h => by omega⟩
        ·exact (sub_cons rfl sub_nil)
        ·exact (sub_cons rfl (sub_cons rfl sub_nil))
        ·exact subH_nil
        ·exact (subH_same rfl subH_nil)
        ·rintro k ⟨hk, hP, hpos⟩
         intro K15 hK15
         refine wp_seq' fun K16 hK16 => ?_
         refine wp_reg ?_
         refine ol_r (r_lss rfl rfl) rfl ?_
         refine ol_nil (to_k0 (fun _ _ h => h) (hK16 _ _ _ _ _ ?_))
         clear hK16
         refine wp_seq' fun K17 hK17 => ?_
         refine wp_condD rfl (fun hc43 => ?_) (fun hc43 => ?_)
         ·refine wp_skip' (to_k0 (fun _ _ h => h) (hK17 _ _ _ _ _ ?_))
          clear hK17
          refine wp_seq' fun K18 hK18 => ?_
          refine wp_block' ?_
          refine wp_seq' fun K19 hK19 => ?_
          refine wp_reg ?_
          obtain ⟨x0, hx0⟩ : ∃ x, A.ss[k]? = some x := ⟨A.ss[k]'(by omega), List.getElem?_eq_getElem (by omega)⟩
          refine ol_r (r_move rfl) rfl ?_
          refine ol_r (r_assign rfl) rfl ?_
          refine ol_nil (to_k0 (fun _ _ h => h) (hK19 _ _ _ _ _ ?_))
          clear hK19
          refine wp_seq' fun K20 hK20 => ?_
          refine wp_reg ?_
          refine ol_r (r_lda (id := 1) (n := 6) rfl rfl rfl ag26) rfl ?_
          refine ol_r (r_move rfl) rfl ?_
          refine ol_call rfl rfl cb99 rfl (fun w1 hb1 hs1 hB1 => Calls.mono (ref2_sampleFault A k x0 _ (hA.at hb1 hB1) hx0 hst hpos) ?_)
          rintro e w2 ⟨rfl, hb2⟩
          refine After.below rfl hb1 hs1 hB1 hb2 ?_
          clear hb2 hB1 hs1 hb1 w2 w1
          refine ol_r (r_assign rfl) rfl ?_
          refine ol_nil (to_k0 (fun _ _ h => h) (hK20 _ _ _ _ _ ?_))
          clear hK20
          refine wp_seq' fun K21 hK21 => ?_
          refine wp_reg ?_
          refine ol_r (r_move rfl) rfl ?_
          refine ol_r (r_neq rfl rfl) rfl ?_
          refine ol_nil (to_k0 (fun _ _ h => h) (hK21 _ _ _ _ _ ?_))
          clear hK21
          refine wp_condD rfl (fun hc49 => ?_) (fun hc49 => ?_)
          ·refine wp_seq' fun K22 hK22 => ?_
           refine wp_reg ?_
           refine ol_r (r_move rfl) rfl ?_
           refine ol_r (r_assign rfl) rfl ?_
           refine ol_nil (to_k0 (fun _ _ h => h) (hK22 _ _ _ _ _ ?_))
           clear hK22
           refine hQ.ret (rvs1 (rv_t rfl)) (fun _ _ h => h) fun w hb hs hB hkd => ?_
           first
             | (have h := chkE_bad hP hx0 rfl hc49
                refine ⟨?_, hb⟩
                rw [(chkA_s hH (by show chkE (fS A.start) none A.ss ≠ 0; rw [h]; exact hc49)).trans h]
                done)
          ·refine wp_skip' (to_k0 (fun _ _ h => h) (hK18 _ _ _ _ _ ?_))
           clear hK18
           refine wp_reg ?_
           refine ol_r (r_add rfl rfl (by omega)) rfl ?_
           refine ol_r (r_move rfl) rfl ?_
           refine ol_nil (to_k0 (fun _ _ h => h) (hK15 (k + 1) _ _ ?_ ?_ (sub_cons rfl sub_nil) (sub_cons rfl (sub_cons rfl sub_nil)) (by exact subH_nil) (subH_same rfl subH_nil)))
           ·try dsimp only
            have hz := Decidable.not_not.1 hc49
            have ho := (fS_zero hz).1
            have h0 : 0 ≤ x0.at_ := by
              by_cases hk0 : (k : Int) = 0
              · rw [ordS_0 hk0] at ho
                simp at ho; omega
              · obtain ⟨y, hy⟩ : ∃ y, A.ss[((k : Int) - 1).toNat]? = some y := ⟨A.ss[((k : Int) - 1).toNat]'(by omega), List.getElem?_eq_getElem (by omega)⟩
                rw [ordS_1 (by omega) hy] at ho
                have := hpos _ _ (by omega) hy
                simp at ho; omega
            exact ⟨by omega, chkE_next hP hx0 hz, pos_next hpos hx0 h0⟩
           ·try dsimp only
            omega
         ·refine wp_exit' (to_k0 (fun _ _ h => h) (hK13 _ _ _ _ _ ?_))
          clear hK13
          refine wp_seq' fun K23 hK23 => ?_
          refine wp_seq' fun K24 hK24 => ?_
          refine wp_reg ?_
          have hS0 := chkE_end hP (by omega)
          refine ol_r (r_fa (o' := 4) rfl fl26_4 rfl) rfl ?_
          refine ol_r (r_ld (id := 1) rfl rfl rfl sc23) rfl ?_
          refine ol_r (r_len rfl sl23) rfl ?_
          refine ol_r (r_move rfl) rfl ?_
          refine ol_nil (to_k0 (fun _ _ h => h) (hK24 _ _ _ _ _ ?_))
          clear hK24
          refine wp_block' ?_
          apply wp_loopM (σ := Nat) (fun s => s ≤ A.ln ∧ chkE (fL (spanL A.ss)) none A.ls = chkE (fL (spanL A.ss)) (ahead A.ls s) (A.ls.drop s)) (fun s => [(55, .int .i64 s)]) [(1, _), (54, _)] (fun s => []) [(1, _)] (fun s => A.ln - s) (0)
          ·try dsimp only
           exact ⟨Nat.zero_le _, chkE_start _ _⟩
          ·exact (sub_cons rfl sub_nil)
          ·exact (sub_cons rfl (sub_cons rfl sub_nil))
          ·exact subH_nil
          ·exact (subH_same rfl subH_nil)
          ·rintro k ⟨hk, hPl⟩
           intro K25 hK25
           refine wp_seq' fun K26 hK26 => ?_
           refine wp_reg ?_
           refine ol_r (r_lss rfl rfl) rfl ?_
           refine ol_nil (to_k0 (fun _ _ h => h) (hK26 _ _ _ _ _ ?_))
           clear hK26
           refine wp_seq' fun K27 hK27 => ?_
           refine wp_condD rfl (fun hc56 => ?_) (fun hc56 => ?_)
           ·refine wp_skip' (to_k0 (fun _ _ h => h) (hK27 _ _ _ _ _ ?_))
            clear hK27
            refine wp_seq' fun K28 hK28 => ?_
            refine wp_block' ?_
            refine wp_seq' fun K29 hK29 => ?_
            refine wp_reg ?_
            obtain ⟨x0, hx0⟩ : ∃ x, A.ls[k]? = some x := ⟨A.ls[k]'(by omega), List.getElem?_eq_getElem (by omega)⟩
            refine ol_r (r_move rfl) rfl ?_
            refine ol_r (r_assign rfl) rfl ?_
            refine ol_nil (to_k0 (fun _ _ h => h) (hK29 _ _ _ _ _ ?_))
            clear hK29
            refine wp_seq' fun K30 hK30 => ?_
            refine wp_reg ?_
            refine ol_r (r_lda (id := 1) (n := 6) rfl rfl rfl ag26) rfl ?_
            refine ol_r (r_move rfl) rfl ?_
            refine ol_call rfl rfl cb100 rfl (fun w1 hb1 hs1 hB1 => Calls.mono (ref2_lapFault A k x0 _ (hA.at hb1 hB1) hx0) ?_)
            rintro e w2 ⟨rfl, hb2⟩
            refine After.below rfl hb1 hs1 hB1 hb2 ?_
            clear hb2 hB1 hs1 hb1 w2 w1
            refine ol_r (r_assign rfl) rfl ?_
            refine ol_nil (to_k0 (fun _ _ h => h) (hK30 _ _ _ _ _ ?_))
            clear hK30
            refine wp_seq' fun K31 hK31 => ?_
            refine wp_reg ?_
            refine ol_r (r_move rfl) rfl ?_
            refine ol_r (r_neq rfl rfl) rfl ?_
            refine ol_nil (to_k0 (fun _ _ h => h) (hK31 _ _ _ _ _ ?_))
            clear hK31
            refine wp_condD rfl (fun hc62 => ?_) (fun hc62 => ?_)
            ·refine wp_seq' fun K32 hK32 => ?_
             refine wp_reg ?_
             refine ol_r (r_move rfl) rfl ?_
             refine ol_r (r_assign rfl) rfl ?_
             refine ol_nil (to_k0 (fun _ _ h => h) (hK32 _ _ _ _ _ ?_))
             clear hK32
             refine hQ.ret (rvs1 (rv_t rfl)) (fun _ _ h => h) fun w hb hs hB hkd => ?_
             first
               | (have h := chkE_bad hPl hx0 rfl hc62
                  refine ⟨?_, hb⟩
                  rw [(chkA_l hH hS0 (by show chkE (fL (spanL A.ss)) none A.ls ≠ 0; rw [h]; exact hc62)).trans h]
                  done)
            ·refine wp_skip' (to_k0 (fun _ _ h => h) (hK28 _ _ _ _ _ ?_))
             clear hK28
             refine wp_reg ?_
             refine ol_r (r_add rfl rfl (by omega)) rfl ?_
             refine ol_r (r_move rfl) rfl ?_
             refine ol_nil (to_k0 (fun _ _ h => h) (hK25 (k + 1) _ _ ?_ ?_ (sub_cons rfl sub_nil) (sub_cons rfl (sub_cons rfl sub_nil)) (by exact subH_nil) (subH_same rfl subH_nil)))
             ·try dsimp only
              exact ⟨by omega, chkE_next hPl hx0 (Decidable.not_not.1 hc62)⟩
             ·try dsimp only
              omega
           ·refine wp_exit' (to_k0 (fun _ _ h => h) (hK23 _ _ _ _ _ ?_))
            clear hK23
            refine wp_seq' fun K33 hK33 => ?_
            refine wp_seq' fun K34 hK34 => ?_
            refine wp_reg ?_
            have hL0 := chkE_end hPl (by omega)
            refine ol_r (r_fa (o' := 5) rfl fl26_5 rfl) rfl ?_
            refine ol_r (r_ld (id := 1) rfl rfl rfl sc24) rfl ?_
            refine ol_r (r_len rfl sl24) rfl ?_
            refine ol_r (r_move rfl) rfl ?_
            refine ol_nil (to_k0 (fun _ _ h => h) (hK34 _ _ _ _ _ ?_))
            clear hK34
            refine wp_block' ?_
            apply wp_loopM (σ := Nat) (fun s => s ≤ A.tn ∧ chkE fT none A.ts = chkE fT (ahead A.ts s) (A.ts.drop s)) (fun s => [(68, .int .i64 s)]) [(1, _), (66, _), (67, _)] (fun s => []) [(1, _)] (fun s => A.tn - s) (0)
            ·try dsimp only
             exact ⟨Nat.zero_le _, chkE_start _ _⟩
            ·exact (sub_cons rfl sub_nil)
            ·exact (sub_cons rfl (sub_cons rfl (sub_cons rfl sub_nil)))
            ·exact subH_nil
            ·exact (subH_same rfl subH_nil)
            ·rintro k ⟨hk, hPt⟩
             intro K35 hK35
             refine wp_seq' fun K36 hK36 => ?_
             refine wp_reg ?_
             refine ol_r (r_lss rfl rfl) rfl ?_
             refine ol_nil (to_k0 (fun _ _ h => h) (hK36 _ _ _ _ _ ?_))
             clear hK36
             refine wp_seq' fun K37 hK37 => ?_
             refine wp_condD rfl (fun hc69 => ?_) (fun hc69 => ?_)
             ·refine wp_skip' (to_k0 (fun _ _ h => h) (hK37 _ _ _ _ _ ?_))
              clear hK37
              refine wp_seq' fun K38 hK38 => ?_
              refine wp_block' ?_
              refine wp_seq' fun K39 hK39 => ?_
              refine wp_reg ?_
              refine ol_r (r_move rfl) rfl ?_
              refine ol_ixr hA.t rfl rfl sl24 (by omega) rfl fun x71 hx71 => ?_
              try simp only [Int.toNat_natCast] at hx71
              refine ol_r (r_ldw rfl (fun w1 hb1 hs1 hB1 => Rd.loads hA.t ty9 hx71 hb1)) rfl ?_
              refine ol_r (r_assign rfl) rfl ?_
              refine ol_r (r_assign rfl) rfl ?_
              refine ol_nil (to_k0 (fun _ _ h => h) (hK39 _ _ _ _ _ ?_))
              clear hK39
              refine wp_seq' fun K40 hK40 => ?_
              refine wp_seq' fun K41 hK41 => ?_
              refine wp_reg ?_
              refine ol_r (r_move rfl) rfl ?_
              refine ol_call rfl rfl cb97 rfl (fun w1 hb1 hs1 hB1 => Calls.mono (ref2_IsName x71 _ (hA.tm _ (List.mem_of_getElem? hx71))) ?_)
              rintro e w2 ⟨rfl, hb2⟩
              refine After.below rfl hb1 hs1 hB1 hb2 ?_
              clear hb2 hB1 hs1 hb1 w2 w1
              refine ol_r (r_not rfl) rfl ?_
              refine ol_nil (to_k0 (fun _ _ h => h) (hK41 _ _ _ _ _ ?_))
              clear hK41
              refine wp_condNB rfl (fun hc75 => ?_) (fun hc75 => ?_)
              ·refine wp_seq' fun K42 hK42 => ?_
               refine wp_reg ?_
               refine ol_r (r_assign rfl) rfl ?_
               refine ol_nil (to_k0 (fun _ _ h => h) (hK42 _ _ _ _ _ ?_))
               clear hK42
               refine hQ.ret (rvs1 (rv_t rfl)) (fun _ _ h => h) fun w hb hs hB hkd => ?_
               first
                 | (have h := chkE_bad hPt hx71 (fT_8 (by simpa using hc75)) (by simp)
                    refine ⟨?_, hb⟩
                    rw [(chkA_t hH hS0 hL0).trans h]
                    done)
              ·refine wp_skip' (to_k0 (fun _ _ h => h) (hK40 _ _ _ _ _ ?_))
               clear hK40
               refine wp_seq' fun K43 hK43 => ?_
               refine wp_reg ?_
               refine ol_r (r_move rfl) rfl ?_
               refine ol_r (r_gtr rfl rfl) rfl ?_
               refine ol_r (r_move rfl) rfl ?_
               refine ol_split (d := 78) rfl (fun hs78 => ?_) (fun hs78 => ?_)
               ·have phs78 := hs78; try simp only [decide_eq_true_eq, decide_eq_false_iff_not, Bool.not_eq_true', Bool.not_eq_false', Bool.not_true, Bool.not_false] at phs78
                refine ol_g rfl rfl hs78 ?_
                refine ol_r (r_move rfl) rfl ?_
                refine ol_g rfl rfl hs78 ?_
                refine ol_r (r_fa (o' := 5) rfl fl26_5 rfl) rfl ?_
                refine ol_g rfl rfl hs78 ?_
                refine ol_r (r_ld (id := 1) rfl rfl rfl sc24) rfl ?_
                refine ol_g rfl rfl hs78 ?_
                refine ol_r (r_move rfl) rfl ?_
                refine ol_g rfl rfl hs78 ?_
                refine ol_r (r_sub rfl rfl (by omega)) rfl ?_
                refine ol_g rfl rfl hs78 ?_
                refine ol_ixr hA.t rfl rfl sl24 (by omega) rfl fun x84 hx84 => ?_
                try simp only [Int.toNat_natCast] at hx84
                refine ol_g rfl rfl hs78 ?_
                refine ol_r (r_ldw rfl (fun w1 hb1 hs1 hB1 => Rd.loads hA.t ty9 hx84 hb1)) rfl ?_
                refine ol_g rfl rfl hs78 ?_
                refine ol_r (r_sleq rfl rfl) rfl ?_
                refine ol_r (r_pickT rfl hs78 rfl) rfl ?_
                refine ol_nil (to_k0 (fun _ _ h => h) (hK43 _ _ _ _ _ ?_))
                clear hK43
                refine wp_cond' rfl (fun hc87 => ?_) (fun hc87 => ?_)
                ·refine wp_seq' fun K44 hK44 => ?_
                 refine wp_reg ?_
                 refine ol_r (r_assign rfl) rfl ?_
                 refine ol_nil (to_k0 (fun _ _ h => h) (hK44 _ _ _ _ _ ?_))
                 clear hK44
                 refine hQ.ret (rvs1 (rv_t rfl)) (fun _ _ h => h) fun w hb hs hB hkd => ?_
                 first
                   | (have hc : sLe x71 x84 = true := hc87
                      have h := chkE_bad hPt hx71 (fT_10 (by simpa using hc75) (by rw [ordT_1 (by omega) hx84, hc])) (by simp)
                      refine ⟨?_, hb⟩
                      rw [(chkA_t hH hS0 hL0).trans h]
                      done)
                ·refine wp_skip' (to_k0 (fun _ _ h => h) (hK38 _ _ _ _ _ ?_))
                 clear hK38
                 refine wp_reg ?_
                 refine ol_r (r_add rfl rfl (by omega)) rfl ?_
                 refine ol_r (r_move rfl) rfl ?_
                 refine ol_nil (to_k0 (fun _ _ h => h) (hK35 (k + 1) _ _ ?_ ?_ (sub_cons rfl sub_nil) (sub_cons rfl (sub_cons rfl (sub_cons rfl sub_nil))) (by exact subH_nil) (subH_same rfl subH_nil)))
                 ·try dsimp only
                  first
                    | (have ho := ordT_1 (ts := A.ts) (k := k) (x := x71) (by omega) hx84
                       have hc : sLe x71 x84 = false := hc87
                       rw [hc] at ho
                       exact ⟨by omega, chkE_next hPt hx71 (fT_0 (by simpa using hc75) ho)⟩)
                 ·try dsimp only
                  omega
               ·have phs78 := hs78; try simp only [decide_eq_true_eq, decide_eq_false_iff_not, Bool.not_eq_true', Bool.not_eq_false', Bool.not_true, Bool.not_false] at phs78
                refine ol_s rfl rfl hs78 rfl ?_
                refine ol_s rfl rfl hs78 rfl ?_
                refine ol_s rfl rfl hs78 rfl ?_
                refine ol_s rfl rfl hs78 rfl ?_
                refine ol_s rfl rfl hs78 rfl ?_
                refine ol_s rfl rfl hs78 rfl ?_
                refine ol_s rfl rfl hs78 rfl ?_
                refine ol_s rfl rfl hs78 rfl ?_
                refine ol_r (r_pickF rfl hs78 rfl) rfl ?_
                refine ol_nil (to_k0 (fun _ _ h => h) (hK43 _ _ _ _ _ ?_))
                clear hK43
                refine wp_condF rfl ?_
                refine wp_skip' (to_k0 (fun _ _ h => h) (hK38 _ _ _ _ _ ?_))
                clear hK38
                refine wp_reg ?_
                refine ol_r (r_add rfl rfl (by omega)) rfl ?_
                refine ol_r (r_move rfl) rfl ?_
                refine ol_nil (to_k0 (fun _ _ h => h) (hK35 (k + 1) _ _ ?_ ?_ (sub_cons rfl sub_nil) (sub_cons rfl (sub_cons rfl (sub_cons rfl sub_nil))) (by exact subH_nil) (subH_same rfl subH_nil)))
                ·try dsimp only
                 first
                   | (have ho := ordT_0 (ts := A.ts) (k := k) (x := x71) (by omega)
                      exact ⟨by omega, chkE_next hPt hx71 (fT_0 (by simpa using hc75) ho)⟩)
                ·try dsimp only
                 omega
             ·refine wp_exit' (to_k0 (fun _ _ h => h) (hK33 _ _ _ _ _ ?_))
              clear hK33
              refine wp_seq' fun K45 hK45 => ?_
              refine wp_reg ?_
              refine ol_r (r_assign rfl) rfl ?_
              refine ol_nil (to_k0 (fun _ _ h => h) (hK45 _ _ _ _ _ ?_))
              clear hK45
              refine hQ.ret (rvs1 (rv_t rfl)) (fun _ _ h => h) fun w hb hs hB hkd => ?_
              first
                | (have h := (chkA_t hH hS0 hL0).trans (chkE_end hPt (by omega))
                   refine ⟨?_, hb⟩
                   rw [h]
                   done)
end Go.Proofs.Ytogcclagmobkiaa
