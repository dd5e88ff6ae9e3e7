/-
  Check: the reference.
-/
import Derived.Test.YtjflbnbofedlkaaXmA
import Derived.Test.YtjflbnbofedlkaaXmB
import Derived.Test.YtjflbnbofedlkaaXmC


namespace Go.Proofs.Ytjflbnbofedlkaa
open Go Go.RowKit Hx
set_option linter.unusedVariables false
set_option linter.unusedSimpArgs false
set_option maxRecDepth 8000
theorem ref2_sampleFault (A : ActV) (k : Nat) (x : SmpR) (w : World) (hA : A.Ok w.heap.size w) (hx : A.ss[k]? = some x) (hst : 0 ≤ A.start ∧ A.start ≤ 86399999999) (hpos : ∀ j y, j < k → A.ss[j]? = some y → 0 ≤ y.at_) :
    Calls Try.prog 90 #[.agg #[.string A.name, .int .i64 A.sport, .int .i64 A.start, .slice A.sa A.sn A.sc, .slice A.la A.ln A.lc, .slice A.ta A.tn A.tc], .int .i64 k] w fun e w' => e = .returned (.int .i64 (fS A.start (ahead A.ss k) x)) ∧ Below w.heap.size w w' := by
  have hsn := hA.s.len
  have hsf := hA.s.fit
  have hlt := (List.getElem?_eq_some_iff.1 hx).1
  refine enterQ (N := 71) (C := fun _ => True) (H := []) (B := w.heap.size) (args := [_, _]) Try.func90 rfl rfl rfl (Nat.le_refl _) (Sat.nil _ _) fun Q hQ => ?_
  refine wp_seq' fun K1 hK1 => ?_
  refine wp_reg ?_
  refine ol_box 2 rfl rfl rfl fun b2 => ?_
  refine ol_r (r_assign rfl) rfl ?_
  refine ol_nil (to_k0 (fun _ _ h => h) (hK1 _ _ _ _ _ ?_))
  clear hK1
  refine wp_seq' fun K2 hK2 => ?_
  refine wp_reg ?_
  refine ol_r (r_fa (o' := 3) rfl fl39_3 rfl) rfl ?_
  refine ol_r (r_ld (id := 2) rfl rfl rfl sc35) rfl ?_
  refine ol_r (r_move rfl) rfl ?_
  refine ol_ixr hA.s rfl rfl sl35 (by omega) rfl fun x9 hx9 => ?_
  try simp only [Int.toNat_natCast] at hx9
  have h9 : x9 = x := by rw [hx] at hx9; cases hx9; rfl
  subst h9
  refine ol_r (r_ldw rfl (fun w1 hb1 hs1 hB1 => Rd.loads hA.s ty51 hx9 hb1)) rfl ?_
  refine ol_alloc 5 z51 rfl fun b5 => ?_
  refine ol_store (id := 5) rfl rfl rfl rfl sz51 rfl rfl (by first | decide | exact Nat.zero_lt_succ _ | simp) ?_
  refine ol_nil (to_k0 (fun _ _ h => h) (hK2 _ _ _ _ _ ?_))
  clear hK2
  refine wp_seq' fun K3 hK3 => ?_
  refine wp_seq' fun K4 hK4 => ?_
  refine wp_regq (by kernel_rfl) (by kernel_rfl) ?_
  refine ql_r (r_move rfl) rfl ?_
  refine ql_r (r_eql rfl rfl) rfl ?_
  refine ql_r (r_move rfl) rfl ?_
  refine ql_split (d := 13) rfl (fun hs13 => ?_) (fun hs13 => ?_)
  ·have phs13 := hs13; try simp only [decide_eq_true_eq, decide_eq_false_iff_not, Bool.not_eq_true', Bool.not_eq_false', Bool.not_true, Bool.not_false] at phs13
   refine ql_g rfl rfl hs13 ?_
   refine ql_r (r_fa (o' := 0) rfl fl51_0 rfl) rfl ?_
   refine ql_g rfl rfl hs13 ?_
   refine ql_r (r_ld (id := 5) rfl rfl rfl sc3) rfl ?_
   refine ql_g rfl rfl hs13 ?_
   refine ql_r (r_neq rfl rfl) rfl ?_
   refine ql_r (r_pickT rfl hs13 rfl) rfl ?_
   refine ql_r (r_move rfl) rfl ?_
   refine ql_split (d := 18) rfl (fun hs18 => ?_) (fun hs18 => ?_)
   ·have phs18 := hs18; try simp only [decide_eq_true_eq, decide_eq_false_iff_not, Bool.not_eq_true', Bool.not_eq_false', Bool.not_true, Bool.not_false] at phs18
    refine ql_s rfl rfl hs18 rfl ?_
    refine ql_s rfl rfl hs18 rfl ?_
    refine ql_s rfl rfl hs18 rfl ?_
    refine ql_u rfl rfl rfl ?_
    refine ql_u rfl rfl rfl ?_
    refine ql_u rfl rfl rfl ?_
    refine ql_u rfl rfl rfl ?_
    refine ql_u rfl rfl rfl ?_
    refine ql_u rfl rfl rfl ?_
    refine ql_u rfl rfl rfl ?_
    refine ql_u rfl rfl rfl ?_
    refine ql_u rfl rfl rfl ?_
    refine ql_u rfl rfl rfl ?_
    refine ql_s rfl rfl hs18 rfl ?_
    refine ql_r (r_pickT rfl hs18 rfl) rfl ?_
    refine ql_nil (to_k0 (fun _ _ h => h) (hK4 _ _ _ _ _ ?_))
    clear hK4
    refine wp_condT rfl ?_
    refine wp_seq' fun K5 hK5 => ?_
    refine wp_reg ?_
    refine ol_r (r_assign rfl) rfl ?_
    refine ol_nil (to_k0 (fun _ _ h => h) (hK5 _ _ _ _ _ ?_))
    clear hK5
    refine hQ.ret (rvs1 (rv_t rfl)) (fun _ _ h => h) fun w hb hs hB hkd => ?_
    first
      | (have ho : ordS (ahead A.ss k) x9 = true := by
           first
             | (rw [ordS_0 (by omega), decide_eq_true (by omega)]; done)
             | (rw [ordS_1 (by omega) hx28, decide_eq_true (by omega)]; done)
         have h := fS_10 (st := A.start) ho
         refine ⟨?_, hb⟩
         rw [h]
         done)
   ·have phs18 := hs18; try simp only [decide_eq_true_eq, decide_eq_false_iff_not, Bool.not_eq_true', Bool.not_eq_false', Bool.not_true, Bool.not_false] at phs18
    refine ql_g rfl rfl hs18 ?_
    refine ql_r (r_move rfl) rfl ?_
    refine ql_g rfl rfl hs18 ?_
    refine ql_r (r_gtr rfl rfl) rfl ?_
    refine ql_g rfl rfl hs18 ?_
    refine ql_r (r_move rfl) rfl ?_
    refine ql_split (d := 21) rfl (fun hs21 => ?_) (fun hs21 => ?_)
    ·have phs21 := hs21; try simp only [decide_eq_true_eq, decide_eq_false_iff_not, Bool.not_eq_true', Bool.not_eq_false', Bool.not_true, Bool.not_false] at phs21
     refine ql_g rfl rfl hs21 ?_
     refine ql_r (r_fa (o' := 0) rfl fl51_0 rfl) rfl ?_
     refine ql_g rfl rfl hs21 ?_
     refine ql_r (r_ld (id := 5) rfl rfl rfl sc3) rfl ?_
     refine ql_g rfl rfl hs21 ?_
     refine ql_r (r_fa (o' := 3) rfl fl39_3 rfl) rfl ?_
     refine ql_g rfl rfl hs21 ?_
     refine ql_r (r_ld (id := 2) rfl rfl rfl sc35) rfl ?_
     refine ql_g rfl rfl hs21 ?_
     refine ql_r (r_move rfl) rfl ?_
     refine ql_g rfl rfl hs21 ?_
     refine ql_r (r_sub rfl rfl (by omega)) rfl ?_
     refine ql_g rfl rfl hs21 ?_
     refine ql_ixr hA.s rfl rfl sl35 (by omega) rfl fun x28 hx28 => ?_
     try simp only [Int.toNat_natCast] at hx28
     refine ql_g rfl rfl hs21 ?_
     refine ql_r (r_faw rfl (ix_some hA.s (by omega)) fl51_0) rfl ?_
     refine ql_g rfl rfl hs21 ?_
     refine ql_r (r_ldw rfl (fun w1 hb1 hs1 hB1 => Rd.loadsF (o := 0) hA.s sc3 hx28 hb1 rfl)) rfl ?_
     refine ql_g rfl rfl hs21 ?_
     refine ql_r (r_leq rfl rfl) rfl ?_
     refine ql_g rfl rfl hs18 ?_
     refine ql_r (r_pickT rfl hs21 rfl) rfl ?_
     refine ql_r (r_pickF rfl hs18 rfl) rfl ?_
     refine ql_nil (to_k0 (fun _ _ h => h) (hK4 _ _ _ _ _ ?_))
     clear hK4
     refine wp_condD rfl (fun hc33 => ?_) (fun hc33 => ?_)
     ·refine wp_seq' fun K6 hK6 => ?_
      refine wp_reg ?_
      refine ol_r (r_assign rfl) rfl ?_
      refine ol_nil (to_k0 (fun _ _ h => h) (hK6 _ _ _ _ _ ?_))
      clear hK6
      refine hQ.ret (rvs1 (rv_t rfl)) (fun _ _ h => h) fun w hb hs hB hkd => ?_
      first
        | (exfalso; omega)
     ·refine wp_skip' (to_k0 (fun _ _ h => h) (hK3 _ _ _ _ _ ?_))
      clear hK3
      refine wp_seq' fun K7 hK7 => ?_
      refine wp_seq' fun K8 hK8 => ?_
      refine wp_reg ?_
      refine ol_r (r_fa (o' := 0) rfl fl51_0 rfl) rfl ?_
      refine ol_r (r_ld (id := 5) rfl rfl rfl sc3) rfl ?_
      refine ol_r (r_gtr rfl rfl) rfl ?_
      refine ol_r (r_move rfl) rfl ?_
      refine ol_split (d := 37) rfl (fun hs37 => ?_) (fun hs37 => ?_)
      ·have phs37 := hs37; try simp only [decide_eq_true_eq, decide_eq_false_iff_not, Bool.not_eq_true', Bool.not_eq_false', Bool.not_true, Bool.not_false] at phs37
       refine ol_s rfl rfl hs37 rfl ?_
       refine ol_s rfl rfl hs37 rfl ?_
       refine ol_s rfl rfl hs37 rfl ?_
       refine ol_s rfl rfl hs37 rfl ?_
       refine ol_s rfl rfl hs37 rfl ?_
       refine ol_s rfl rfl hs37 rfl ?_
       refine ol_r (r_pickT rfl hs37 rfl) rfl ?_
       refine ol_nil (to_k0 (fun _ _ h => h) (hK8 _ _ _ _ _ ?_))
       clear hK8
       refine wp_condT rfl ?_
       refine wp_seq' fun K9 hK9 => ?_
       refine wp_reg ?_
       refine ol_r (r_assign rfl) rfl ?_
       refine ol_nil (to_k0 (fun _ _ h => h) (hK9 _ _ _ _ _ ?_))
       clear hK9
       refine hQ.ret (rvs1 (rv_t rfl)) (fun _ _ h => h) fun w hb hs hB hkd => ?_
       first
         | (exfalso; omega)
      ·have phs37 := hs37; try simp only [decide_eq_true_eq, decide_eq_false_iff_not, Bool.not_eq_true', Bool.not_eq_false', Bool.not_true, Bool.not_false] at phs37
       refine ol_g rfl rfl hs37 ?_
       refine ol_r (r_fa (o' := 2) rfl fl39_2 rfl) rfl ?_
       refine ol_g rfl rfl hs37 ?_
       refine ol_r (r_ld (id := 2) rfl rfl rfl sc3) rfl ?_
       refine ol_g rfl rfl hs37 ?_
       refine ol_r (r_fa (o' := 0) rfl fl51_0 rfl) rfl ?_
       refine ol_g rfl rfl hs37 ?_
       refine ol_r (r_ld (id := 5) rfl rfl rfl sc3) rfl ?_
       refine ol_g rfl rfl hs37 ?_
       have hlo := hA.lo _ (List.mem_of_getElem? hx9)
       have hat : 0 ≤ x9.at_ := by
         first
           | (have h1 := hpos _ _ (by omega) hx28
              omega)
           | omega
       refine ol_r (r_add rfl rfl (by omega)) rfl ?_
       refine ol_g rfl rfl hs37 ?_
       refine ol_r (r_gtr rfl rfl) rfl ?_
       refine ol_r (r_pickF rfl hs37 rfl) rfl ?_
       refine ol_nil (to_k0 (fun _ _ h => h) (hK8 _ _ _ _ _ ?_))
       clear hK8
       refine wp_condD rfl (fun hc44 => ?_) (fun hc44 => ?_)
       ·refine wp_seq' fun K10 hK10 => ?_
        refine wp_reg ?_
        refine ol_r (r_assign rfl) rfl ?_
        refine ol_nil (to_k0 (fun _ _ h => h) (hK10 _ _ _ _ _ ?_))
        clear hK10
        refine hQ.ret (rvs1 (rv_t rfl)) (fun _ _ h => h) fun w hb hs hB hkd => ?_
        first
          | (exfalso; omega)
       ·refine wp_skip' (to_k0 (fun _ _ h => h) (hK7 _ _ _ _ _ ?_))
        clear hK7
        refine wp_seq' fun K11 hK11 => ?_
        refine wp_seq' fun K12 hK12 => ?_
        refine wp_reg ?_
        refine ol_r (r_fa (o' := 1) rfl fl51_1 rfl) rfl ?_
        refine ol_r (r_ld (id := 5) rfl rfl rfl sc3) rfl ?_
        refine ol_call rfl rfl cb89 rfl (fun w1 hb1 hs1 hB1 => Calls.mono (ref2_outside _ _ _ _) ?_)
        rintro e w2 ⟨rfl, hb2⟩
        refine After.below rfl hb1 hs1 hB1 hb2 ?_
        clear hb2 hB1 hs1 hb1 w2 w1
        refine ol_r (r_move rfl) rfl ?_
        refine ol_split (d := 48) rfl (fun hs48 => ?_) (fun hs48 => ?_)
        ·have phs48 := hs48; try simp only [decide_eq_true_eq, decide_eq_false_iff_not, Bool.not_eq_true', Bool.not_eq_false', Bool.not_true, Bool.not_false] at phs48
         refine ol_s rfl rfl hs48 rfl ?_
         refine ol_s rfl rfl hs48 rfl ?_
         refine ol_s rfl rfl hs48 rfl ?_
         refine ol_r (r_pickT rfl hs48 rfl) rfl ?_
         refine ol_r (r_move rfl) rfl ?_
         refine ol_s rfl rfl rfl rfl ?_
         refine ol_s rfl rfl rfl rfl ?_
         refine ol_s rfl rfl rfl rfl ?_
         refine ol_r (r_pickT rfl rfl rfl) rfl ?_
         refine ol_nil (to_k0 (fun _ _ h => h) (hK12 _ _ _ _ _ ?_))
         clear hK12
         refine wp_condT rfl ?_
         refine wp_seq' fun K13 hK13 => ?_
         refine wp_reg ?_
         refine ol_r (r_assign rfl) rfl ?_
         refine ol_nil (to_k0 (fun _ _ h => h) (hK13 _ _ _ _ _ ?_))
         clear hK13
         refine hQ.ret (rvs1 (rv_t rfl)) (fun _ _ h => h) fun w hb hs hB hkd => ?_
         first
           | (exfalso; omega)
        ·have phs48 := hs48; try simp only [decide_eq_true_eq, decide_eq_false_iff_not, Bool.not_eq_true', Bool.not_eq_false', Bool.not_true, Bool.not_false] at phs48
         refine ol_g rfl rfl hs48 ?_
         refine ol_r (r_fa (o' := 2) rfl fl51_2 rfl) rfl ?_
         refine ol_g rfl rfl hs48 ?_
         refine ol_r (r_ld (id := 5) rfl rfl rfl sc3) rfl ?_
         refine ol_g rfl rfl hs48 ?_
         refine ol_call rfl rfl cb89 rfl (fun w1 hb1 hs1 hB1 => Calls.mono (ref2_outside _ _ _ _) ?_)
         rintro e w2 ⟨rfl, hb2⟩
         refine After.below rfl hb1 hs1 hB1 hb2 ?_
         clear hb2 hB1 hs1 hb1 w2 w1
         refine ol_r (r_pickF rfl hs48 rfl) rfl ?_
         refine ol_r (r_move rfl) rfl ?_
         refine ol_split (d := 53) rfl (fun hs53 => ?_) (fun hs53 => ?_)
         ·have phs53 := hs53; try simp only [decide_eq_true_eq, decide_eq_false_iff_not, Bool.not_eq_true', Bool.not_eq_false', Bool.not_true, Bool.not_false] at phs53
          refine ol_s rfl rfl hs53 rfl ?_
          refine ol_s rfl rfl hs53 rfl ?_
          refine ol_s rfl rfl hs53 rfl ?_
          refine ol_r (r_pickT rfl hs53 rfl) rfl ?_
          refine ol_nil (to_k0 (fun _ _ h => h) (hK12 _ _ _ _ _ ?_))
          clear hK12
          refine wp_condT rfl ?_
          refine wp_seq' fun K14 hK14 => ?_
          refine wp_reg ?_
          refine ol_r (r_assign rfl) rfl ?_
          refine ol_nil (to_k0 (fun _ _ h => h) (hK14 _ _ _ _ _ ?_))
          clear hK14
          refine hQ.ret (rvs1 (rv_t rfl)) (fun _ _ h => h) fun w hb hs hB hkd => ?_
          first
            | (exfalso; omega)
         ·have phs53 := hs53; try simp only [decide_eq_true_eq, decide_eq_false_iff_not, Bool.not_eq_true', Bool.not_eq_false', Bool.not_true, Bool.not_false] at phs53
          refine ol_g rfl rfl hs53 ?_
          refine ol_r (r_fa (o' := 3) rfl fl51_3 rfl) rfl ?_
          refine ol_g rfl rfl hs53 ?_
          refine ol_r (r_ld (id := 5) rfl rfl rfl sc3) rfl ?_
          refine ol_g rfl rfl hs53 ?_
          refine ol_call rfl rfl cb89 rfl (fun w1 hb1 hs1 hB1 => Calls.mono (ref2_outside _ _ _ _) ?_)
          rintro e w2 ⟨rfl, hb2⟩
          refine After.below rfl hb1 hs1 hB1 hb2 ?_
          clear hb2 hB1 hs1 hb1 w2 w1
          refine ol_r (r_pickF rfl hs53 rfl) rfl ?_
          refine ol_nil (to_k0 (fun _ _ h => h) (hK12 _ _ _ _ _ ?_))
          clear hK12
          refine wp_condNB rfl (fun hc57 => ?_) (fun hc57 => ?_)
          ·refine wp_seq' fun K15 hK15 => ?_
           refine wp_reg ?_
           refine ol_r (r_assign rfl) rfl ?_
           refine ol_nil (to_k0 (fun _ _ h => h) (hK15 _ _ _ _ _ ?_))
           clear hK15
           refine hQ.ret (rvs1 (rv_t rfl)) (fun _ _ h => h) fun w hb hs hB hkd => ?_
           first
             | (exfalso; omega)
          ·refine wp_skip' (to_k0 (fun _ _ h => h) (hK11 _ _ _ _ _ ?_))
           clear hK11
           refine wp_seq' fun K16 hK16 => ?_
           refine wp_seq' fun K17 hK17 => ?_
           refine wp_reg ?_
           refine ol_r (r_fa (o' := 4) rfl fl51_4 rfl) rfl ?_
           refine ol_r (r_ld (id := 5) rfl rfl rfl sc3) rfl ?_
           refine ol_call rfl rfl cb89 rfl (fun w1 hb1 hs1 hB1 => Calls.mono (ref2_outside _ _ _ _) ?_)
           rintro e w2 ⟨rfl, hb2⟩
           refine After.below rfl hb1 hs1 hB1 hb2 ?_
           clear hb2 hB1 hs1 hb1 w2 w1
           refine ol_r (r_move rfl) rfl ?_
           refine ol_split (d := 61) rfl (fun hs61 => ?_) (fun hs61 => ?_)
           ·have phs61 := hs61; try simp only [decide_eq_true_eq, decide_eq_false_iff_not, Bool.not_eq_true', Bool.not_eq_false', Bool.not_true, Bool.not_false] at phs61
            refine ol_s rfl rfl hs61 rfl ?_
            refine ol_s rfl rfl hs61 rfl ?_
            refine ol_s rfl rfl hs61 rfl ?_
            refine ol_r (r_pickT rfl hs61 rfl) rfl ?_
            refine ol_r (r_move rfl) rfl ?_
            refine ol_s rfl rfl rfl rfl ?_
            refine ol_s rfl rfl rfl rfl ?_
            refine ol_s rfl rfl rfl rfl ?_
            refine ol_r (r_pickT rfl rfl rfl) rfl ?_
            refine ol_nil (to_k0 (fun _ _ h => h) (hK17 _ _ _ _ _ ?_))
            clear hK17
            refine wp_condT rfl ?_
            refine wp_seq' fun K18 hK18 => ?_
            refine wp_reg ?_
            refine ol_r (r_assign rfl) rfl ?_
            refine ol_nil (to_k0 (fun _ _ h => h) (hK18 _ _ _ _ _ ?_))
            clear hK18
            refine hQ.ret (rvs1 (rv_t rfl)) (fun _ _ h => h) fun w hb hs hB hkd => ?_
            first
              | (exfalso; omega)
           ·have phs61 := hs61; try simp only [decide_eq_true_eq, decide_eq_false_iff_not, Bool.not_eq_true', Bool.not_eq_false', Bool.not_true, Bool.not_false] at phs61
            refine ol_g rfl rfl hs61 ?_
            refine ol_r (r_fa (o' := 5) rfl fl51_5 rfl) rfl ?_
            refine ol_g rfl rfl hs61 ?_
            refine ol_r (r_ld (id := 5) rfl rfl rfl sc3) rfl ?_
            refine ol_g rfl rfl hs61 ?_
            refine ol_call rfl rfl cb89 rfl (fun w1 hb1 hs1 hB1 => Calls.mono (ref2_outside _ _ _ _) ?_)
            rintro e w2 ⟨rfl, hb2⟩
            refine After.below rfl hb1 hs1 hB1 hb2 ?_
            clear hb2 hB1 hs1 hb1 w2 w1
            refine ol_r (r_pickF rfl hs61 rfl) rfl ?_
            refine ol_r (r_move rfl) rfl ?_
            refine ol_split (d := 66) rfl (fun hs66 => ?_) (fun hs66 => ?_)
            ·have phs66 := hs66; try simp only [decide_eq_true_eq, decide_eq_false_iff_not, Bool.not_eq_true', Bool.not_eq_false', Bool.not_true, Bool.not_false] at phs66
             refine ol_s rfl rfl hs66 rfl ?_
             refine ol_s rfl rfl hs66 rfl ?_
             refine ol_s rfl rfl hs66 rfl ?_
             refine ol_r (r_pickT rfl hs66 rfl) rfl ?_
             refine ol_nil (to_k0 (fun _ _ h => h) (hK17 _ _ _ _ _ ?_))
             clear hK17
             refine wp_condT rfl ?_
             refine wp_seq' fun K19 hK19 => ?_
             refine wp_reg ?_
             refine ol_r (r_assign rfl) rfl ?_
             refine ol_nil (to_k0 (fun _ _ h => h) (hK19 _ _ _ _ _ ?_))
             clear hK19
             refine hQ.ret (rvs1 (rv_t rfl)) (fun _ _ h => h) fun w hb hs hB hkd => ?_
             first
               | (exfalso; omega)
            ·have phs66 := hs66; try simp only [decide_eq_true_eq, decide_eq_false_iff_not, Bool.not_eq_true', Bool.not_eq_false', Bool.not_true, Bool.not_false] at phs66
             refine ol_g rfl rfl hs66 ?_
             refine ol_r (r_fa (o' := 6) rfl fl51_6 rfl) rfl ?_
             refine ol_g rfl rfl hs66 ?_
             refine ol_r (r_ld (id := 5) rfl rfl rfl sc3) rfl ?_
             refine ol_g rfl rfl hs66 ?_
             refine ol_call rfl rfl cb89 rfl (fun w1 hb1 hs1 hB1 => Calls.mono (ref2_outside _ _ _ _) ?_)
             rintro e w2 ⟨rfl, hb2⟩
             refine After.below rfl hb1 hs1 hB1 hb2 ?_
             clear hb2 hB1 hs1 hb1 w2 w1
             refine ol_r (r_pickF rfl hs66 rfl) rfl ?_
             refine ol_nil (to_k0 (fun _ _ h => h) (hK17 _ _ _ _ _ ?_))
             clear hK17
             refine wp_condNB rfl (fun hc70 => ?_) (fun hc70 => ?_)
             ·refine wp_seq' fun K20 hK20 => ?_
              refine wp_reg ?_
              refine ol_r (r_assign rfl) rfl ?_
              refine ol_nil (to_k0 (fun _ _ h => h) (hK20 _ _ _ _ _ ?_))
              clear hK20
              refine hQ.ret (rvs1 (rv_t rfl)) (fun _ _ h => h) fun w hb hs hB hkd => ?_
              first
                | (exfalso; omega)
             ·refine wp_skip' (to_k0 (fun _ _ h => h) (hK16 _ _ _ _ _ ?_))
              clear hK16
              refine wp_seq' fun K21 hK21 => ?_
              refine wp_reg ?_
              refine ol_r (r_assign rfl) rfl ?_
              refine ol_nil (to_k0 (fun _ _ h => h) (hK21 _ _ _ _ _ ?_))
              clear hK21
              refine hQ.ret (rvs1 (rv_t rfl)) (fun _ _ h => h) fun w hb hs hB hkd => ?_
              first
                | (exfalso; omega)
    ·have phs21 := hs21; try simp only [decide_eq_true_eq, decide_eq_false_iff_not, Bool.not_eq_true', Bool.not_eq_false', Bool.not_true, Bool.not_false] at phs21
     refine ql_s rfl rfl hs21 rfl ?_
     refine ql_s rfl rfl hs21 rfl ?_
     refine ql_s rfl rfl hs21 rfl ?_
     refine ql_s rfl rfl hs21 rfl ?_
     refine ql_s rfl rfl hs21 rfl ?_
     refine ql_s rfl rfl hs21 rfl ?_
     refine ql_s rfl rfl hs21 rfl ?_
     refine ql_s rfl rfl hs21 rfl ?_
     refine ql_s rfl rfl hs21 rfl ?_
     refine ql_s rfl rfl hs21 rfl ?_
     refine ql_g rfl rfl hs18 ?_
     refine ql_r (r_pickF rfl hs21 rfl) rfl ?_
     refine ql_r (r_pickF rfl hs18 rfl) rfl ?_
     refine ql_nil (to_k0 (fun _ _ h => h) (hK4 _ _ _ _ _ ?_))
     clear hK4
     refine wp_condF rfl ?_
     refine wp_skip' (to_k0 (fun _ _ h => h) (hK3 _ _ _ _ _ ?_))
     clear hK3
     refine wp_seq' fun K22 hK22 => ?_
     refine wp_seq' fun K23 hK23 => ?_
     refine wp_reg ?_
     refine ol_r (r_fa (o' := 0) rfl fl51_0 rfl) rfl ?_
     refine ol_r (r_ld (id := 5) rfl rfl rfl sc3) rfl ?_
     refine ol_r (r_gtr rfl rfl) rfl ?_
     refine ol_r (r_move rfl) rfl ?_
     refine ol_split (d := 37) rfl (fun hs37 => ?_) (fun hs37 => ?_)
     ·have phs37 := hs37; try simp only [decide_eq_true_eq, decide_eq_false_iff_not, Bool.not_eq_true', Bool.not_eq_false', Bool.not_true, Bool.not_false] at phs37
      refine ol_s rfl rfl hs37 rfl ?_
      refine ol_s rfl rfl hs37 rfl ?_
      refine ol_s rfl rfl hs37 rfl ?_
      refine ol_s rfl rfl hs37 rfl ?_
      refine ol_s rfl rfl hs37 rfl ?_
      refine ol_s rfl rfl hs37 rfl ?_
      refine ol_r (r_pickT rfl hs37 rfl) rfl ?_
      refine ol_nil (to_k0 (fun _ _ h => h) (hK23 _ _ _ _ _ ?_))
      clear hK23
      refine wp_condT rfl ?_
      refine wp_seq' fun K24 hK24 => ?_
      refine wp_reg ?_
      refine ol_r (r_assign rfl) rfl ?_
      refine ol_nil (to_k0 (fun _ _ h => h) (hK24 _ _ _ _ _ ?_))
      clear hK24
      refine hQ.ret (rvs1 (rv_t rfl)) (fun _ _ h => h) fun w hb hs hB hkd => ?_
      first
        | (exfalso; omega)
     ·have phs37 := hs37; try simp only [decide_eq_true_eq, decide_eq_false_iff_not, Bool.not_eq_true', Bool.not_eq_false', Bool.not_true, Bool.not_false] at phs37
      refine ol_g rfl rfl hs37 ?_
      refine ol_r (r_fa (o' := 2) rfl fl39_2 rfl) rfl ?_
      refine ol_g rfl rfl hs37 ?_
      refine ol_r (r_ld (id := 2) rfl rfl rfl sc3) rfl ?_
      refine ol_g rfl rfl hs37 ?_
      refine ol_r (r_fa (o' := 0) rfl fl51_0 rfl) rfl ?_
      refine ol_g rfl rfl hs37 ?_
      refine ol_r (r_ld (id := 5) rfl rfl rfl sc3) rfl ?_
      refine ol_g rfl rfl hs37 ?_
      have hlo := hA.lo _ (List.mem_of_getElem? hx9)
      have hat : 0 ≤ x9.at_ := by
        first
          | (have h1 := hpos _ _ (by omega) hx28
             omega)
          | omega
      refine ol_r (r_add rfl rfl (by omega)) rfl ?_
      refine ol_g rfl rfl hs37 ?_
      refine ol_r (r_gtr rfl rfl) rfl ?_
      refine ol_r (r_pickF rfl hs37 rfl) rfl ?_
      refine ol_nil (to_k0 (fun _ _ h => h) (hK23 _ _ _ _ _ ?_))
      clear hK23
      refine wp_condD rfl (fun hc44 => ?_) (fun hc44 => ?_)
      ·refine wp_seq' fun K25 hK25 => ?_
       refine wp_reg ?_
       refine ol_r (r_assign rfl) rfl ?_
       refine ol_nil (to_k0 (fun _ _ h => h) (hK25 _ _ _ _ _ ?_))
       clear hK25
       refine hQ.ret (rvs1 (rv_t rfl)) (fun _ _ h => h) fun w hb hs hB hkd => ?_
       first
         | (exfalso; omega)
      ·refine wp_skip' (to_k0 (fun _ _ h => h) (hK22 _ _ _ _ _ ?_))
       clear hK22
       refine wp_seq' fun K26 hK26 => ?_
       refine wp_seq' fun K27 hK27 => ?_
       refine wp_reg ?_
       refine ol_r (r_fa (o' := 1) rfl fl51_1 rfl) rfl ?_
       refine ol_r (r_ld (id := 5) rfl rfl rfl sc3) rfl ?_
       refine ol_call rfl rfl cb89 rfl (fun w1 hb1 hs1 hB1 => Calls.mono (ref2_outside _ _ _ _) ?_)
       rintro e w2 ⟨rfl, hb2⟩
       refine After.below rfl hb1 hs1 hB1 hb2 ?_
       clear hb2 hB1 hs1 hb1 w2 w1
       refine ol_r (r_move rfl) rfl ?_
       refine ol_split (d := 48) rfl (fun hs48 => ?_) (fun hs48 => ?_)
       ·have phs48 := hs48; try simp only [decide_eq_true_eq, decide_eq_false_iff_not, Bool.not_eq_true', Bool.not_eq_false', Bool.not_true, Bool.not_false] at phs48
        refine ol_s rfl rfl hs48 rfl ?_
        refine ol_s rfl rfl hs48 rfl ?_
        refine ol_s rfl rfl hs48 rfl ?_
        refine ol_r (r_pickT rfl hs48 rfl) rfl ?_
        refine ol_r (r_move rfl) rfl ?_
        refine ol_s rfl rfl rfl rfl ?_
        refine ol_s rfl rfl rfl rfl ?_
        refine ol_s rfl rfl rfl rfl ?_
        refine ol_r (r_pickT rfl rfl rfl) rfl ?_
        refine ol_nil (to_k0 (fun _ _ h => h) (hK27 _ _ _ _ _ ?_))
        clear hK27
        refine wp_condT rfl ?_
        refine wp_seq' fun K28 hK28 => ?_
        refine wp_reg ?_
        refine ol_r (r_assign rfl) rfl ?_
        refine ol_nil (to_k0 (fun _ _ h => h) (hK28 _ _ _ _ _ ?_))
        clear hK28
        refine hQ.ret (rvs1 (rv_t rfl)) (fun _ _ h => h) fun w hb hs hB hkd => ?_
        first
          | (have ho : ordS (ahead A.ss k) x9 = false := by
               first
                 | (rw [ordS_0 (by omega), decide_eq_false (by omega)]; done)
                 | (rw [ordS_1 (by omega) hx28, decide_eq_false (by omega)]; done)
             have hin : 1000000 < x9.at_ ∨ 86399999999 < A.start + x9.at_ ∨ smpIn x9 = false := by
               first
                 | (left; omega)
                 | (right; left; omega)
                 | (right; right
                    unfold smpIn
                    simp_all)
             have h := fS_9 (st := A.start) ho hin
             refine ⟨?_, hb⟩
             rw [h]
             done)
       ·have phs48 := hs48; try simp only [decide_eq_true_eq, decide_eq_false_iff_not, Bool.not_eq_true', Bool.not_eq_false', Bool.not_true, Bool.not_false] at phs48
        refine ol_g rfl rfl hs48 ?_
        refine ol_r (r_fa (o' := 2) rfl fl51_2 rfl) rfl ?_
        refine ol_g rfl rfl hs48 ?_
        refine ol_r (r_ld (id := 5) rfl rfl rfl sc3) rfl ?_
        refine ol_g rfl rfl hs48 ?_
        refine ol_call rfl rfl cb89 rfl (fun w1 hb1 hs1 hB1 => Calls.mono (ref2_outside _ _ _ _) ?_)
        rintro e w2 ⟨rfl, hb2⟩
        refine After.below rfl hb1 hs1 hB1 hb2 ?_
        clear hb2 hB1 hs1 hb1 w2 w1
        refine ol_r (r_pickF rfl hs48 rfl) rfl ?_
        refine ol_r (r_move rfl) rfl ?_
        refine ol_split (d := 53) rfl (fun hs53 => ?_) (fun hs53 => ?_)
        ·have phs53 := hs53; try simp only [decide_eq_true_eq, decide_eq_false_iff_not, Bool.not_eq_true', Bool.not_eq_false', Bool.not_true, Bool.not_false] at phs53
         refine ol_s rfl rfl hs53 rfl ?_
         refine ol_s rfl rfl hs53 rfl ?_
         refine ol_s rfl rfl hs53 rfl ?_
         refine ol_r (r_pickT rfl hs53 rfl) rfl ?_
         refine ol_nil (to_k0 (fun _ _ h => h) (hK27 _ _ _ _ _ ?_))
         clear hK27
         refine wp_condT rfl ?_
         refine wp_seq' fun K29 hK29 => ?_
         refine wp_reg ?_
         refine ol_r (r_assign rfl) rfl ?_
         refine ol_nil (to_k0 (fun _ _ h => h) (hK29 _ _ _ _ _ ?_))
         clear hK29
         refine hQ.ret (rvs1 (rv_t rfl)) (fun _ _ h => h) fun w hb hs hB hkd => ?_
         first
           | (have ho : ordS (ahead A.ss k) x9 = false := by
                first
                  | (rw [ordS_0 (by omega), decide_eq_false (by omega)]; done)
                  | (rw [ordS_1 (by omega) hx28, decide_eq_false (by omega)]; done)
              have hin : 1000000 < x9.at_ ∨ 86399999999 < A.start + x9.at_ ∨ smpIn x9 = false := by
                first
                  | (left; omega)
                  | (right; left; omega)
                  | (right; right
                     unfold smpIn
                     simp_all)
              have h := fS_9 (st := A.start) ho hin
              refine ⟨?_, hb⟩
              rw [h]
              done)
        ·have phs53 := hs53; try simp only [decide_eq_true_eq, decide_eq_false_iff_not, Bool.not_eq_true', Bool.not_eq_false', Bool.not_true, Bool.not_false] at phs53
         refine ol_g rfl rfl hs53 ?_
         refine ol_r (r_fa (o' := 3) rfl fl51_3 rfl) rfl ?_
         refine ol_g rfl rfl hs53 ?_
         refine ol_r (r_ld (id := 5) rfl rfl rfl sc3) rfl ?_
         refine ol_g rfl rfl hs53 ?_
         refine ol_call rfl rfl cb89 rfl (fun w1 hb1 hs1 hB1 => Calls.mono (ref2_outside _ _ _ _) ?_)
         rintro e w2 ⟨rfl, hb2⟩
         refine After.below rfl hb1 hs1 hB1 hb2 ?_
         clear hb2 hB1 hs1 hb1 w2 w1
         refine ol_r (r_pickF rfl hs53 rfl) rfl ?_
         refine ol_nil (to_k0 (fun _ _ h => h) (hK27 _ _ _ _ _ ?_))
         clear hK27
         refine wp_condNB rfl (fun hc57 => ?_) (fun hc57 => ?_)
         ·refine wp_seq' fun K30 hK30 => ?_
          refine wp_reg ?_
          refine ol_r (r_assign rfl) rfl ?_
          refine ol_nil (to_k0 (fun _ _ h => h) (hK30 _ _ _ _ _ ?_))
          clear hK30
          refine hQ.ret (rvs1 (rv_t rfl)) (fun _ _ h => h) fun w hb hs hB hkd => ?_
          first
            | (have ho : ordS (ahead A.ss k) x9 = false := by
                 first
                   | (rw [ordS_0 (by omega), decide_eq_false (by omega)]; done)
                   | (rw [ordS_1 (by omega) hx28, decide_eq_false (by omega)]; done)
               have hin : 1000000 < x9.at_ ∨ 86399999999 < A.start + x9.at_ ∨ smpIn x9 = false := by
                 first
                   | (left; omega)
                   | (right; left; omega)
                   | (right; right
                      unfold smpIn
                      simp_all)
               have h := fS_9 (st := A.start) ho hin
               refine ⟨?_, hb⟩
               rw [h]
               done)
         ·refine wp_skip' (to_k0 (fun _ _ h => h) (hK26 _ _ _ _ _ ?_))
          clear hK26
          refine wp_seq' fun K31 hK31 => ?_
          refine wp_seq' fun K32 hK32 => ?_
          refine wp_reg ?_
          refine ol_r (r_fa (o' := 4) rfl fl51_4 rfl) rfl ?_
          refine ol_r (r_ld (id := 5) rfl rfl rfl sc3) rfl ?_
          refine ol_call rfl rfl cb89 rfl (fun w1 hb1 hs1 hB1 => Calls.mono (ref2_outside _ _ _ _) ?_)
          rintro e w2 ⟨rfl, hb2⟩
          refine After.below rfl hb1 hs1 hB1 hb2 ?_
          clear hb2 hB1 hs1 hb1 w2 w1
          refine ol_r (r_move rfl) rfl ?_
          refine ol_split (d := 61) rfl (fun hs61 => ?_) (fun hs61 => ?_)
          ·have phs61 := hs61; try simp only [decide_eq_true_eq, decide_eq_false_iff_not, Bool.not_eq_true', Bool.not_eq_false', Bool.not_true, Bool.not_false] at phs61
           refine ol_s rfl rfl hs61 rfl ?_
           refine ol_s rfl rfl hs61 rfl ?_
           refine ol_s rfl rfl hs61 rfl ?_
           refine ol_r (r_pickT rfl hs61 rfl) rfl ?_
           refine ol_r (r_move rfl) rfl ?_
           refine ol_s rfl rfl rfl rfl ?_
           refine ol_s rfl rfl rfl rfl ?_
           refine ol_s rfl rfl rfl rfl ?_
           refine ol_r (r_pickT rfl rfl rfl) rfl ?_
           refine ol_nil (to_k0 (fun _ _ h => h) (hK32 _ _ _ _ _ ?_))
           clear hK32
           refine wp_condT rfl ?_
           refine wp_seq' fun K33 hK33 => ?_
           refine wp_reg ?_
           refine ol_r (r_assign rfl) rfl ?_
           refine ol_nil (to_k0 (fun _ _ h => h) (hK33 _ _ _ _ _ ?_))
           clear hK33
           refine hQ.ret (rvs1 (rv_t rfl)) (fun _ _ h => h) fun w hb hs hB hkd => ?_
           first
             | (have ho : ordS (ahead A.ss k) x9 = false := by
                  first
                    | (rw [ordS_0 (by omega), decide_eq_false (by omega)]; done)
                    | (rw [ordS_1 (by omega) hx28, decide_eq_false (by omega)]; done)
                have hin : 1000000 < x9.at_ ∨ 86399999999 < A.start + x9.at_ ∨ smpIn x9 = false := by
                  first
                    | (left; omega)
                    | (right; left; omega)
                    | (right; right
                       unfold smpIn
                       simp_all)
                have h := fS_9 (st := A.start) ho hin
                refine ⟨?_, hb⟩
                rw [h]
                done)
          ·have phs61 := hs61; try simp only [decide_eq_true_eq, decide_eq_false_iff_not, Bool.not_eq_true', Bool.not_eq_false', Bool.not_true, Bool.not_false] at phs61
           refine ol_g rfl rfl hs61 ?_
           refine ol_r (r_fa (o' := 5) rfl fl51_5 rfl) rfl ?_
           refine ol_g rfl rfl hs61 ?_
           refine ol_r (r_ld (id := 5) rfl rfl rfl sc3) rfl ?_
           refine ol_g rfl rfl hs61 ?_
           refine ol_call rfl rfl cb89 rfl (fun w1 hb1 hs1 hB1 => Calls.mono (ref2_outside _ _ _ _) ?_)
           rintro e w2 ⟨rfl, hb2⟩
           refine After.below rfl hb1 hs1 hB1 hb2 ?_
           clear hb2 hB1 hs1 hb1 w2 w1
           refine ol_r (r_pickF rfl hs61 rfl) rfl ?_
           refine ol_r (r_move rfl) rfl ?_
           refine ol_split (d := 66) rfl (fun hs66 => ?_) (fun hs66 => ?_)
           ·have phs66 := hs66; try simp only [decide_eq_true_eq, decide_eq_false_iff_not, Bool.not_eq_true', Bool.not_eq_false', Bool.not_true, Bool.not_false] at phs66
            refine ol_s rfl rfl hs66 rfl ?_
            refine ol_s rfl rfl hs66 rfl ?_
            refine ol_s rfl rfl hs66 rfl ?_
            refine ol_r (r_pickT rfl hs66 rfl) rfl ?_
            refine ol_nil (to_k0 (fun _ _ h => h) (hK32 _ _ _ _ _ ?_))
            clear hK32
            refine wp_condT rfl ?_
            refine wp_seq' fun K34 hK34 => ?_
            refine wp_reg ?_
            refine ol_r (r_assign rfl) rfl ?_
            refine ol_nil (to_k0 (fun _ _ h => h) (hK34 _ _ _ _ _ ?_))
            clear hK34
            refine hQ.ret (rvs1 (rv_t rfl)) (fun _ _ h => h) fun w hb hs hB hkd => ?_
            first
              | (have ho : ordS (ahead A.ss k) x9 = false := by
                   first
                     | (rw [ordS_0 (by omega), decide_eq_false (by omega)]; done)
                     | (rw [ordS_1 (by omega) hx28, decide_eq_false (by omega)]; done)
                 have hin : 1000000 < x9.at_ ∨ 86399999999 < A.start + x9.at_ ∨ smpIn x9 = false := by
                   first
                     | (left; omega)
                     | (right; left; omega)
                     | (right; right
                        unfold smpIn
                        simp_all)
                 have h := fS_9 (st := A.start) ho hin
                 refine ⟨?_, hb⟩
                 rw [h]
                 done)
           ·have phs66 := hs66; try simp only [decide_eq_true_eq, decide_eq_false_iff_not, Bool.not_eq_true', Bool.not_eq_false', Bool.not_true, Bool.not_false] at phs66
            refine ol_g rfl rfl hs66 ?_
            refine ol_r (r_fa (o' := 6) rfl fl51_6 rfl) rfl ?_
            refine ol_g rfl rfl hs66 ?_
            refine ol_r (r_ld (id := 5) rfl rfl rfl sc3) rfl ?_
            refine ol_g rfl rfl hs66 ?_
            refine ol_call rfl rfl cb89 rfl (fun w1 hb1 hs1 hB1 => Calls.mono (ref2_outside _ _ _ _) ?_)
            rintro e w2 ⟨rfl, hb2⟩
            refine After.below rfl hb1 hs1 hB1 hb2 ?_
            clear hb2 hB1 hs1 hb1 w2 w1
            refine ol_r (r_pickF rfl hs66 rfl) rfl ?_
            refine ol_nil (to_k0 (fun _ _ h => h) (hK32 _ _ _ _ _ ?_))
            clear hK32
            refine wp_condNB rfl (fun hc70 => ?_) (fun hc70 => ?_)
            ·refine wp_seq' fun K35 hK35 => ?_
             refine wp_reg ?_
             refine ol_r (r_assign rfl) rfl ?_
             refine ol_nil (to_k0 (fun _ _ h => h) (hK35 _ _ _ _ _ ?_))
             clear hK35
             refine hQ.ret (rvs1 (rv_t rfl)) (fun _ _ h => h) fun w hb hs hB hkd => ?_
             first
               | (have ho : ordS (ahead A.ss k) x9 = false := by
                    first
                      | (rw [ordS_0 (by omega), decide_eq_false (by omega)]; done)
                      | (rw [ordS_1 (by omega) hx28, decide_eq_false (by omega)]; done)
                  have hin : 1000000 < x9.at_ ∨ 86399999999 < A.start + x9.at_ ∨ smpIn x9 = false := by
                    first
                      | (left; omega)
                      | (right; left; omega)
                      | (right; right
                         unfold smpIn
                         simp_all)
                  have h := fS_9 (st := A.start) ho hin
                  refine ⟨?_, hb⟩
                  rw [h]
                  done)
            ·refine wp_skip' (to_k0 (fun _ _ h => h) (hK31 _ _ _ _ _ ?_))
             clear hK31
             refine wp_seq' fun K36 hK36 => ?_
             refine wp_reg ?_
             refine ol_r (r_assign rfl) rfl ?_
             refine ol_nil (to_k0 (fun _ _ h => h) (hK36 _ _ _ _ _ ?_))
             clear hK36
             refine hQ.ret (rvs1 (rv_t rfl)) (fun _ _ h => h) fun w hb hs hB hkd => ?_
             first
               | (have ho : ordS (ahead A.ss k) x9 = false := by
                    first
                      | (rw [ordS_0 (by omega), decide_eq_false (by omega)]; done)
                      | (rw [ordS_1 (by omega) hx28, decide_eq_false (by omega)]; done)
                  have hin : smpIn x9 = true := by
                    unfold smpIn
                    simp_all
                  have h := fS_is (st := A.start) ho (by omega) (by omega) hin
                  refine ⟨?_, hb⟩
                  rw [h]
                  done)
  ·have phs13 := hs13; try simp only [decide_eq_true_eq, decide_eq_false_iff_not, Bool.not_eq_true', Bool.not_eq_false', Bool.not_true, Bool.not_false] at phs13
   refine ql_s rfl rfl hs13 rfl ?_
   refine ql_s rfl rfl hs13 rfl ?_
   refine ql_s rfl rfl hs13 rfl ?_
   refine ql_r (r_pickF rfl hs13 rfl) rfl ?_
   refine ql_r (r_move rfl) rfl ?_
   refine ql_g rfl rfl rfl ?_
   refine ql_r (r_move rfl) rfl ?_
   refine ql_g rfl rfl rfl ?_
   refine ql_r (r_gtr rfl rfl) rfl ?_
   refine ql_g rfl rfl rfl ?_
   refine ql_r (r_move rfl) rfl ?_
   refine ql_split (d := 21) rfl (fun hs21 => ?_) (fun hs21 => ?_)
   ·have phs21 := hs21; try simp only [decide_eq_true_eq, decide_eq_false_iff_not, Bool.not_eq_true', Bool.not_eq_false', Bool.not_true, Bool.not_false] at phs21
    refine ql_g rfl rfl hs21 ?_
    refine ql_r (r_fa (o' := 0) rfl fl51_0 rfl) rfl ?_
    refine ql_g rfl rfl hs21 ?_
    refine ql_r (r_ld (id := 5) rfl rfl rfl sc3) rfl ?_
    refine ql_g rfl rfl hs21 ?_
    refine ql_r (r_fa (o' := 3) rfl fl39_3 rfl) rfl ?_
    refine ql_g rfl rfl hs21 ?_
    refine ql_r (r_ld (id := 2) rfl rfl rfl sc35) rfl ?_
    refine ql_g rfl rfl hs21 ?_
    refine ql_r (r_move rfl) rfl ?_
    refine ql_g rfl rfl hs21 ?_
    refine ql_r (r_sub rfl rfl (by omega)) rfl ?_
    refine ql_g rfl rfl hs21 ?_
    refine ql_ixr hA.s rfl rfl sl35 (by omega) rfl fun x28 hx28 => ?_
    try simp only [Int.toNat_natCast] at hx28
    refine ql_g rfl rfl hs21 ?_
    refine ql_r (r_faw rfl (ix_some hA.s (by omega)) fl51_0) rfl ?_
    refine ql_g rfl rfl hs21 ?_
    refine ql_r (r_ldw rfl (fun w1 hb1 hs1 hB1 => Rd.loadsF (o := 0) hA.s sc3 hx28 hb1 rfl)) rfl ?_
    refine ql_g rfl rfl hs21 ?_
    refine ql_r (r_leq rfl rfl) rfl ?_
    refine ql_g rfl rfl rfl ?_
    refine ql_r (r_pickT rfl hs21 rfl) rfl ?_
    refine ql_r (r_pickF rfl rfl rfl) rfl ?_
    refine ql_nil (to_k0 (fun _ _ h => h) (hK4 _ _ _ _ _ ?_))
    clear hK4
    refine wp_condD rfl (fun hc33 => ?_) (fun hc33 => ?_)
    ·refine wp_seq' fun K37 hK37 => ?_
     refine wp_reg ?_
     refine ol_r (r_assign rfl) rfl ?_
     refine ol_nil (to_k0 (fun _ _ h => h) (hK37 _ _ _ _ _ ?_))
     clear hK37
     refine hQ.ret (rvs1 (rv_t rfl)) (fun _ _ h => h) fun w hb hs hB hkd => ?_
     first
       | (have ho : ordS (ahead A.ss k) x9 = true := by
            first
              | (rw [ordS_0 (by omega), decide_eq_true (by omega)]; done)
              | (rw [ordS_1 (by omega) hx28, decide_eq_true (by omega)]; done)
          have h := fS_10 (st := A.start) ho
          refine ⟨?_, hb⟩
          rw [h]
          done)
    ·refine wp_skip' (to_k0 (fun _ _ h => h) (hK3 _ _ _ _ _ ?_))
     clear hK3
     refine wp_seq' fun K38 hK38 => ?_
     refine wp_seq' fun K39 hK39 => ?_
     refine wp_reg ?_
     refine ol_r (r_fa (o' := 0) rfl fl51_0 rfl) rfl ?_
     refine ol_r (r_ld (id := 5) rfl rfl rfl sc3) rfl ?_
     refine ol_r (r_gtr rfl rfl) rfl ?_
     refine ol_r (r_move rfl) rfl ?_
     refine ol_split (d := 37) rfl (fun hs37 => ?_) (fun hs37 => ?_)
     ·have phs37 := hs37; try simp only [decide_eq_true_eq, decide_eq_false_iff_not, Bool.not_eq_true', Bool.not_eq_false', Bool.not_true, Bool.not_false] at phs37
      refine ol_s rfl rfl hs37 rfl ?_
      refine ol_s rfl rfl hs37 rfl ?_
      refine ol_s rfl rfl hs37 rfl ?_
      refine ol_s rfl rfl hs37 rfl ?_
      refine ol_s rfl rfl hs37 rfl ?_
      refine ol_s rfl rfl hs37 rfl ?_
      refine ol_r (r_pickT rfl hs37 rfl) rfl ?_
      refine ol_nil (to_k0 (fun _ _ h => h) (hK39 _ _ _ _ _ ?_))
      clear hK39
      refine wp_condT rfl ?_
      refine wp_seq' fun K40 hK40 => ?_
      refine wp_reg ?_
      refine ol_r (r_assign rfl) rfl ?_
      refine ol_nil (to_k0 (fun _ _ h => h) (hK40 _ _ _ _ _ ?_))
      clear hK40
      refine hQ.ret (rvs1 (rv_t rfl)) (fun _ _ h => h) fun w hb hs hB hkd => ?_
      first
        | (have ho : ordS (ahead A.ss k) x9 = false := by
             first
               | (rw [ordS_0 (by omega), decide_eq_false (by omega)]; done)
               | (rw [ordS_1 (by omega) hx28, decide_eq_false (by omega)]; done)
           have hin : 1000000 < x9.at_ ∨ 86399999999 < A.start + x9.at_ ∨ smpIn x9 = false := by
             first
               | (left; omega)
               | (right; left; omega)
               | (right; right
                  unfold smpIn
                  simp_all)
           have h := fS_9 (st := A.start) ho hin
           refine ⟨?_, hb⟩
           rw [h]
           done)
     ·have phs37 := hs37; try simp only [decide_eq_true_eq, decide_eq_false_iff_not, Bool.not_eq_true', Bool.not_eq_false', Bool.not_true, Bool.not_false] at phs37
      refine ol_g rfl rfl hs37 ?_
      refine ol_r (r_fa (o' := 2) rfl fl39_2 rfl) rfl ?_
      refine ol_g rfl rfl hs37 ?_
      refine ol_r (r_ld (id := 2) rfl rfl rfl sc3) rfl ?_
      refine ol_g rfl rfl hs37 ?_
      refine ol_r (r_fa (o' := 0) rfl fl51_0 rfl) rfl ?_
      refine ol_g rfl rfl hs37 ?_
      refine ol_r (r_ld (id := 5) rfl rfl rfl sc3) rfl ?_
      refine ol_g rfl rfl hs37 ?_
      have hlo := hA.lo _ (List.mem_of_getElem? hx9)
      have hat : 0 ≤ x9.at_ := by
        first
          | (have h1 := hpos _ _ (by omega) hx28
             omega)
          | omega
      refine ol_r (r_add rfl rfl (by omega)) rfl ?_
      refine ol_g rfl rfl hs37 ?_
      refine ol_r (r_gtr rfl rfl) rfl ?_
      refine ol_r (r_pickF rfl hs37 rfl) rfl ?_
      refine ol_nil (to_k0 (fun _ _ h => h) (hK39 _ _ _ _ _ ?_))
      clear hK39
      refine wp_condD rfl (fun hc44 => ?_) (fun hc44 => ?_)
      ·refine wp_seq' fun K41 hK41 => ?_
       refine wp_reg ?_
       refine ol_r (r_assign rfl) rfl ?_
       refine ol_nil (to_k0 (fun _ _ h => h) (hK41 _ _ _ _ _ ?_))
       clear hK41
       refine hQ.ret (rvs1 (rv_t rfl)) (fun _ _ h => h) fun w hb hs hB hkd => ?_
       first
         | (have ho : ordS (ahead A.ss k) x9 = false := by
              first
                | (rw [ordS_0 (by omega), decide_eq_false (by omega)]; done)
                | (rw [ordS_1 (by omega) hx28, decide_eq_false (by omega)]; done)
            have hin : 1000000 < x9.at_ ∨ 86399999999 < A.start + x9.at_ ∨ smpIn x9 = false := by
              first
                | (left; omega)
                | (right; left; omega)
                | (right; right
                   unfold smpIn
                   simp_all)
            have h := fS_9 (st := A.start) ho hin
            refine ⟨?_, hb⟩
            rw [h]
            done)
      ·refine wp_skip' (to_k0 (fun _ _ h => h) (hK38 _ _ _ _ _ ?_))
       clear hK38
       refine wp_seq' fun K42 hK42 => ?_
       refine wp_seq' fun K43 hK43 => ?_
       refine wp_reg ?_
       refine ol_r (r_fa (o' := 1) rfl fl51_1 rfl) rfl ?_
       refine ol_r (r_ld (id := 5) rfl rfl rfl sc3) rfl ?_
       refine ol_call rfl rfl cb89 rfl (fun w1 hb1 hs1 hB1 => Calls.mono (ref2_outside _ _ _ _) ?_)
       rintro e w2 ⟨rfl, hb2⟩
       refine After.below rfl hb1 hs1 hB1 hb2 ?_
       clear hb2 hB1 hs1 hb1 w2 w1
       refine ol_r (r_move rfl) rfl ?_
       refine ol_split (d := 48) rfl (fun hs48 => ?_) (fun hs48 => ?_)
       ·have phs48 := hs48; try simp only [decide_eq_true_eq, decide_eq_false_iff_not, Bool.not_eq_true', Bool.not_eq_false', Bool.not_true, Bool.not_false] at phs48
        refine ol_s rfl rfl hs48 rfl ?_
        refine ol_s rfl rfl hs48 rfl ?_
        refine ol_s rfl rfl hs48 rfl ?_
        refine ol_r (r_pickT rfl hs48 rfl) rfl ?_
        refine ol_r (r_move rfl) rfl ?_
        refine ol_s rfl rfl rfl rfl ?_
        refine ol_s rfl rfl rfl rfl ?_
        refine ol_s rfl rfl rfl rfl ?_
        refine ol_r (r_pickT rfl rfl rfl) rfl ?_
        refine ol_nil (to_k0 (fun _ _ h => h) (hK43 _ _ _ _ _ ?_))
        clear hK43
        refine wp_condT rfl ?_
        refine wp_seq' fun K44 hK44 => ?_
        refine wp_reg ?_
        refine ol_r (r_assign rfl) rfl ?_
        refine ol_nil (to_k0 (fun _ _ h => h) (hK44 _ _ _ _ _ ?_))
        clear hK44
        refine hQ.ret (rvs1 (rv_t rfl)) (fun _ _ h => h) fun w hb hs hB hkd => ?_
        first
          | (have ho : ordS (ahead A.ss k) x9 = false := by
               first
                 | (rw [ordS_0 (by omega), decide_eq_false (by omega)]; done)
                 | (rw [ordS_1 (by omega) hx28, decide_eq_false (by omega)]; done)
             have hin : 1000000 < x9.at_ ∨ 86399999999 < A.start + x9.at_ ∨ smpIn x9 = false := by
               first
                 | (left; omega)
                 | (right; left; omega)
                 | (right; right
                    unfold smpIn
                    simp_all)
             have h := fS_9 (st := A.start) ho hin
             refine ⟨?_, hb⟩
             rw [h]
             done)
       ·have phs48 := hs48; try simp only [decide_eq_true_eq, decide_eq_false_iff_not, Bool.not_eq_true', Bool.not_eq_false', Bool.not_true, Bool.not_false] at phs48
        refine ol_g rfl rfl hs48 ?_
        refine ol_r (r_fa (o' := 2) rfl fl51_2 rfl) rfl ?_
        refine ol_g rfl rfl hs48 ?_
        refine ol_r (r_ld (id := 5) rfl rfl rfl sc3) rfl ?_
        refine ol_g rfl rfl hs48 ?_
        refine ol_call rfl rfl cb89 rfl (fun w1 hb1 hs1 hB1 => Calls.mono (ref2_outside _ _ _ _) ?_)
        rintro e w2 ⟨rfl, hb2⟩
        refine After.below rfl hb1 hs1 hB1 hb2 ?_
        clear hb2 hB1 hs1 hb1 w2 w1
        refine ol_r (r_pickF rfl hs48 rfl) rfl ?_
        refine ol_r (r_move rfl) rfl ?_
        refine ol_split (d := 53) rfl (fun hs53 => ?_) (fun hs53 => ?_)
        ·have phs53 := hs53; try simp only [decide_eq_true_eq, decide_eq_false_iff_not, Bool.not_eq_true', Bool.not_eq_false', Bool.not_true, Bool.not_false] at phs53
         refine ol_s rfl rfl hs53 rfl ?_
         refine ol_s rfl rfl hs53 rfl ?_
         refine ol_s rfl rfl hs53 rfl ?_
         refine ol_r (r_pickT rfl hs53 rfl) rfl ?_
         refine ol_nil (to_k0 (fun _ _ h => h) (hK43 _ _ _ _ _ ?_))
         clear hK43
         refine wp_condT rfl ?_
         refine wp_seq' fun K45 hK45 => ?_
         refine wp_reg ?_
         refine ol_r (r_assign rfl) rfl ?_
         refine ol_nil (to_k0 (fun _ _ h => h) (hK45 _ _ _ _ _ ?_))
         clear hK45
         refine hQ.ret (rvs1 (rv_t rfl)) (fun _ _ h => h) fun w hb hs hB hkd => ?_
         first
           | (have ho : ordS (ahead A.ss k) x9 = false := by
                first
                  | (rw [ordS_0 (by omega), decide_eq_false (by omega)]; done)
                  | (rw [ordS_1 (by omega) hx28, decide_eq_false (by omega)]; done)
              have hin : 1000000 < x9.at_ ∨ 86399999999 < A.start + x9.at_ ∨ smpIn x9 = false := by
                first
                  | (left; omega)
                  | (right; left; omega)
                  | (right; right
                     unfold smpIn
                     simp_all)
              have h := fS_9 (st := A.start) ho hin
              refine ⟨?_, hb⟩
              rw [h]
              done)
        ·have phs53 := hs53; try simp only [decide_eq_true_eq, decide_eq_false_iff_not, Bool.not_eq_true', Bool.not_eq_false', Bool.not_true, Bool.not_false] at phs53
         refine ol_g rfl rfl hs53 ?_
         refine ol_r (r_fa (o' := 3) rfl fl51_3 rfl) rfl ?_
         refine ol_g rfl rfl hs53 ?_
         refine ol_r (r_ld (id := 5) rfl rfl rfl sc3) rfl ?_
         refine ol_g rfl rfl hs53 ?_
         refine ol_call rfl rfl cb89 rfl (fun w1 hb1 hs1 hB1 => Calls.mono (ref2_outside _ _ _ _) ?_)
         rintro e w2 ⟨rfl, hb2⟩
         refine After.below rfl hb1 hs1 hB1 hb2 ?_
         clear hb2 hB1 hs1 hb1 w2 w1
         refine ol_r (r_pickF rfl hs53 rfl) rfl ?_
         refine ol_nil (to_k0 (fun _ _ h => h) (hK43 _ _ _ _ _ ?_))
         clear hK43
         refine wp_condNB rfl (fun hc57 => ?_) (fun hc57 => ?_)
         ·refine wp_seq' fun K46 hK46 => ?_
          refine wp_reg ?_
          refine ol_r (r_assign rfl) rfl ?_
          refine ol_nil (to_k0 (fun _ _ h => h) (hK46 _ _ _ _ _ ?_))
          clear hK46
          refine hQ.ret (rvs1 (rv_t rfl)) (fun _ _ h => h) fun w hb hs hB hkd => ?_
          first
            | (have ho : ordS (ahead A.ss k) x9 = false := by
                 first
                   | (rw [ordS_0 (by omega), decide_eq_false (by omega)]; done)
                   | (rw [ordS_1 (by omega) hx28, decide_eq_false (by omega)]; done)
               have hin : 1000000 < x9.at_ ∨ 86399999999 < A.start + x9.at_ ∨ smpIn x9 = false := by
                 first
                   | (left; omega)
                   | (right; left; omega)
                   | (right; right
                      unfold smpIn
                      simp_all)
               have h := fS_9 (st := A.start) ho hin
               refine ⟨?_, hb⟩
               rw [h]
               done)
         ·refine wp_skip' (to_k0 (fun _ _ h => h) (hK42 _ _ _ _ _ ?_))
          clear hK42
          refine wp_seq' fun K47 hK47 => ?_
          refine wp_seq' fun K48 hK48 => ?_
          refine wp_reg ?_
          refine ol_r (r_fa (o' := 4) rfl fl51_4 rfl) rfl ?_
          refine ol_r (r_ld (id := 5) rfl rfl rfl sc3) rfl ?_
          refine ol_call rfl rfl cb89 rfl (fun w1 hb1 hs1 hB1 => Calls.mono (ref2_outside _ _ _ _) ?_)
          rintro e w2 ⟨rfl, hb2⟩
          refine After.below rfl hb1 hs1 hB1 hb2 ?_
          clear hb2 hB1 hs1 hb1 w2 w1
          refine ol_r (r_move rfl) rfl ?_
          refine ol_split (d := 61) rfl (fun hs61 => ?_) (fun hs61 => ?_)
          ·have phs61 := hs61; try simp only [decide_eq_true_eq, decide_eq_false_iff_not, Bool.not_eq_true', Bool.not_eq_false', Bool.not_true, Bool.not_false] at phs61
           refine ol_s rfl rfl hs61 rfl ?_
           refine ol_s rfl rfl hs61 rfl ?_
           refine ol_s rfl rfl hs61 rfl ?_
           refine ol_r (r_pickT rfl hs61 rfl) rfl ?_
           refine ol_r (r_move rfl) rfl ?_
           refine ol_s rfl rfl rfl rfl ?_
           refine ol_s rfl rfl rfl rfl ?_
           refine ol_s rfl rfl rfl rfl ?_
           refine ol_r (r_pickT rfl rfl rfl) rfl ?_
           refine ol_nil (to_k0 (fun _ _ h => h) (hK48 _ _ _ _ _ ?_))
           clear hK48
           refine wp_condT rfl ?_
           refine wp_seq' fun K49 hK49 => ?_
           refine wp_reg ?_
           refine ol_r (r_assign rfl) rfl ?_
           refine ol_nil (to_k0 (fun _ _ h => h) (hK49 _ _ _ _ _ ?_))
           clear hK49
           refine hQ.ret (rvs1 (rv_t rfl)) (fun _ _ h => h) fun w hb hs hB hkd => ?_
           first
             | (have ho : ordS (ahead A.ss k) x9 = false := by
                  first
                    | (rw [ordS_0 (by omega), decide_eq_false (by omega)]; done)
                    | (rw [ordS_1 (by omega) hx28, decide_eq_false (by omega)]; done)
                have hin : 1000000 < x9.at_ ∨ 86399999999 < A.start + x9.at_ ∨ smpIn x9 = false := by
                  first
                    | (left; omega)
                    | (right; left; omega)
                    | (right; right
                       unfold smpIn
                       simp_all)
                have h := fS_9 (st := A.start) ho hin
                refine ⟨?_, hb⟩
                rw [h]
                done)
          ·have phs61 := hs61; try simp only [decide_eq_true_eq, decide_eq_false_iff_not, Bool.not_eq_true', Bool.not_eq_false', Bool.not_true, Bool.not_false] at phs61
           refine ol_g rfl rfl hs61 ?_
           refine ol_r (r_fa (o' := 5) rfl fl51_5 rfl) rfl ?_
           refine ol_g rfl rfl hs61 ?_
           refine ol_r (r_ld (id := 5) rfl rfl rfl sc3) rfl ?_
           refine ol_g rfl rfl hs61 ?_
           refine ol_call rfl rfl cb89 rfl (fun w1 hb1 hs1 hB1 => Calls.mono (ref2_outside _ _ _ _) ?_)
           rintro e w2 ⟨rfl, hb2⟩
           refine After.below rfl hb1 hs1 hB1 hb2 ?_
           clear hb2 hB1 hs1 hb1 w2 w1
           refine ol_r (r_pickF rfl hs61 rfl) rfl ?_
           refine ol_r (r_move rfl) rfl ?_
           refine ol_split (d := 66) rfl (fun hs66 => ?_) (fun hs66 => ?_)
           ·have phs66 := hs66; try simp only [decide_eq_true_eq, decide_eq_false_iff_not, Bool.not_eq_true', Bool.not_eq_false', Bool.not_true, Bool.not_false] at phs66
            refine ol_s rfl rfl hs66 rfl ?_
            refine ol_s rfl rfl hs66 rfl ?_
            refine ol_s rfl rfl hs66 rfl ?_
            refine ol_r (r_pickT rfl hs66 rfl) rfl ?_
            refine ol_nil (to_k0 (fun _ _ h => h) (hK48 _ _ _ _ _ ?_))
            clear hK48
            refine wp_condT rfl ?_
            refine wp_seq' fun K50 hK50 => ?_
            refine wp_reg ?_
            refine ol_r (r_assign rfl) rfl ?_
            refine ol_nil (to_k0 (fun _ _ h => h) (hK50 _ _ _ _ _ ?_))
            clear hK50
            refine hQ.ret (rvs1 (rv_t rfl)) (fun _ _ h => h) fun w hb hs hB hkd => ?_
            first
              | (have ho : ordS (ahead A.ss k) x9 = false := by
                   first
                     | (rw [ordS_0 (by omega), decide_eq_false (by omega)]; done)
                     | (rw [ordS_1 (by omega) hx28, decide_eq_false (by omega)]; done)
                 have hin : 1000000 < x9.at_ ∨ 86399999999 < A.start + x9.at_ ∨ smpIn x9 = false := by
                   first
                     | (left; omega)
                     | (right; left; omega)
                     | (right; right
                        unfold smpIn
                        simp_all)
                 have h := fS_9 (st := A.start) ho hin
                 refine ⟨?_, hb⟩
                 rw [h]
                 done)
           ·have phs66 := hs66; try simp only [decide_eq_true_eq, decide_eq_false_iff_not, Bool.not_eq_true', Bool.not_eq_false', Bool.not_true, Bool.not_false] at phs66
            refine ol_g rfl rfl hs66 ?_
            refine ol_r (r_fa (o' := 6) rfl fl51_6 rfl) rfl ?_
            refine ol_g rfl rfl hs66 ?_
            refine ol_r (r_ld (id := 5) rfl rfl rfl sc3) rfl ?_
            refine ol_g rfl rfl hs66 ?_
            refine ol_call rfl rfl cb89 rfl (fun w1 hb1 hs1 hB1 => Calls.mono (ref2_outside _ _ _ _) ?_)
            rintro e w2 ⟨rfl, hb2⟩
            refine After.below rfl hb1 hs1 hB1 hb2 ?_
            clear hb2 hB1 hs1 hb1 w2 w1
            refine ol_r (r_pickF rfl hs66 rfl) rfl ?_
            refine ol_nil (to_k0 (fun _ _ h => h) (hK48 _ _ _ _ _ ?_))
            clear hK48
            refine wp_condNB rfl (fun hc70 => ?_) (fun hc70 => ?_)
            ·refine wp_seq' fun K51 hK51 => ?_
             refine wp_reg ?_
             refine ol_r (r_assign rfl) rfl ?_
             refine ol_nil (to_k0 (fun _ _ h => h) (hK51 _ _ _ _ _ ?_))
             clear hK51
             refine hQ.ret (rvs1 (rv_t rfl)) (fun _ _ h => h) fun w hb hs hB hkd => ?_
             first
               | (have ho : ordS (ahead A.ss k) x9 = false := by
                    first
                      | (rw [ordS_0 (by omega), decide_eq_false (by omega)]; done)
                      | (rw [ordS_1 (by omega) hx28, decide_eq_false (by omega)]; done)
                  have hin : 1000000 < x9.at_ ∨ 86399999999 < A.start + x9.at_ ∨ smpIn x9 = false := by
                    first
                      | (left; omega)
                      | (right; left; omega)
                      | (right; right
                         unfold smpIn
                         simp_all)
                  have h := fS_9 (st := A.start) ho hin
                  refine ⟨?_, hb⟩
                  rw [h]
                  done)
            ·refine wp_skip' (to_k0 (fun _ _ h => h) (hK47 _ _ _ _ _ ?_))
             clear hK47
             refine wp_seq' fun K52 hK52 => ?_
             refine wp_reg ?_
             refine ol_r (r_assign rfl) rfl ?_
             refine ol_nil (to_k0 (fun _ _ h => h) (hK52 _ _ _ _ _ ?_))
             clear hK52
             refine hQ.ret (rvs1 (rv_t rfl)) (fun _ _ h => h) fun w hb hs hB hkd => ?_
             first
               | (have ho : ordS (ahead A.ss k) x9 = false := by
                    first
                      | (rw [ordS_0 (by omega), decide_eq_false (by omega)]; done)
                      | (rw [ordS_1 (by omega) hx28, decide_eq_false (by omega)]; done)
                  have hin : smpIn x9 = true := by
                    unfold smpIn
                    simp_all
                  have h := fS_is (st := A.start) ho (by omega) (by omega) hin
                  refine ⟨?_, hb⟩
                  rw [h]
                  done)
   ·have phs21 := hs21; try simp only [decide_eq_true_eq, decide_eq_false_iff_not, Bool.not_eq_true', Bool.not_eq_false', Bool.not_true, Bool.not_false] at phs21
    refine ql_s rfl rfl hs21 rfl ?_
    refine ql_s rfl rfl hs21 rfl ?_
    refine ql_s rfl rfl hs21 rfl ?_
    refine ql_s rfl rfl hs21 rfl ?_
    refine ql_s rfl rfl hs21 rfl ?_
    refine ql_s rfl rfl hs21 rfl ?_
    refine ql_s rfl rfl hs21 rfl ?_
    refine ql_s rfl rfl hs21 rfl ?_
    refine ql_s rfl rfl hs21 rfl ?_
    refine ql_s rfl rfl hs21 rfl ?_
    refine ql_g rfl rfl rfl ?_
    refine ql_r (r_pickF rfl hs21 rfl) rfl ?_
    refine ql_r (r_pickF rfl rfl rfl) rfl ?_
    refine ql_nil (to_k0 (fun _ _ h => h) (hK4 _ _ _ _ _ ?_))
    clear hK4
    refine wp_condF rfl ?_
    refine wp_skip' (to_k0 (fun _ _ h => h) (hK3 _ _ _ _ _ ?_))
    clear hK3
    refine wp_seq' fun K53 hK53 => ?_
    refine wp_seq' fun K54 hK54 => ?_
    refine wp_reg ?_
    refine ol_r (r_fa (o' := 0) rfl fl51_0 rfl) rfl ?_
    refine ol_r (r_ld (id := 5) rfl rfl rfl sc3) rfl ?_
    refine ol_r (r_gtr rfl rfl) rfl ?_
    refine ol_r (r_move rfl) rfl ?_
    refine ol_split (d := 37) rfl (fun hs37 => ?_) (fun hs37 => ?_)
    ·have phs37 := hs37; try simp only [decide_eq_true_eq, decide_eq_false_iff_not, Bool.not_eq_true', Bool.not_eq_false', Bool.not_true, Bool.not_false] at phs37
     refine ol_s rfl rfl hs37 rfl ?_
     refine ol_s rfl rfl hs37 rfl ?_
     refine ol_s rfl rfl hs37 rfl ?_
     refine ol_s rfl rfl hs37 rfl ?_
     refine ol_s rfl rfl hs37 rfl ?_
     refine ol_s rfl rfl hs37 rfl ?_
     refine ol_r (r_pickT rfl hs37 rfl) rfl ?_
     refine ol_nil (to_k0 (fun _ _ h => h) (hK54 _ _ _ _ _ ?_))
     clear hK54
     refine wp_condT rfl ?_
     refine wp_seq' fun K55 hK55 => ?_
     refine wp_reg ?_
     refine ol_r (r_assign rfl) rfl ?_
     refine ol_nil (to_k0 (fun _ _ h => h) (hK55 _ _ _ _ _ ?_))
     clear hK55
     refine hQ.ret (rvs1 (rv_t rfl)) (fun _ _ h => h) fun w hb hs hB hkd => ?_
     first
       | (exfalso; omega)
    ·have phs37 := hs37; try simp only [decide_eq_true_eq, decide_eq_false_iff_not, Bool.not_eq_true', Bool.not_eq_false', Bool.not_true, Bool.not_false] at phs37
     refine ol_g rfl rfl hs37 ?_
     refine ol_r (r_fa (o' := 2) rfl fl39_2 rfl) rfl ?_
     refine ol_g rfl rfl hs37 ?_
     refine ol_r (r_ld (id := 2) rfl rfl rfl sc3) rfl ?_
     refine ol_g rfl rfl hs37 ?_
     refine ol_r (r_fa (o' := 0) rfl fl51_0 rfl) rfl ?_
     refine ol_g rfl rfl hs37 ?_
     refine ol_r (r_ld (id := 5) rfl rfl rfl sc3) rfl ?_
     refine ol_g rfl rfl hs37 ?_
     have hlo := hA.lo _ (List.mem_of_getElem? hx9)
     have hat : 0 ≤ x9.at_ := by
       first
         | (have h1 := hpos _ _ (by omega) hx28
            omega)
         | omega
     refine ol_r (r_add rfl rfl (by omega)) rfl ?_
     refine ol_g rfl rfl hs37 ?_
     refine ol_r (r_gtr rfl rfl) rfl ?_
     refine ol_r (r_pickF rfl hs37 rfl) rfl ?_
     refine ol_nil (to_k0 (fun _ _ h => h) (hK54 _ _ _ _ _ ?_))
     clear hK54
     refine wp_condD rfl (fun hc44 => ?_) (fun hc44 => ?_)
     ·refine wp_seq' fun K56 hK56 => ?_
      refine wp_reg ?_
      refine ol_r (r_assign rfl) rfl ?_
      refine ol_nil (to_k0 (fun _ _ h => h) (hK56 _ _ _ _ _ ?_))
      clear hK56
      refine hQ.ret (rvs1 (rv_t rfl)) (fun _ _ h => h) fun w hb hs hB hkd => ?_
      first
        | (exfalso; omega)
     ·refine wp_skip' (to_k0 (fun _ _ h => h) (hK53 _ _ _ _ _ ?_))
      clear hK53
      refine wp_seq' fun K57 hK57 => ?_
      refine wp_seq' fun K58 hK58 => ?_
      refine wp_reg ?_
      refine ol_r (r_fa (o' := 1) rfl fl51_1 rfl) rfl ?_
      refine ol_r (r_ld (id := 5) rfl rfl rfl sc3) rfl ?_
      refine ol_call rfl rfl cb89 rfl (fun w1 hb1 hs1 hB1 => Calls.mono (ref2_outside _ _ _ _) ?_)
      rintro e w2 ⟨rfl, hb2⟩
      refine After.below rfl hb1 hs1 hB1 hb2 ?_
      clear hb2 hB1 hs1 hb1 w2 w1
      refine ol_r (r_move rfl) rfl ?_
      refine ol_split (d := 48) rfl (fun hs48 => ?_) (fun hs48 => ?_)
      ·have phs48 := hs48; try simp only [decide_eq_true_eq, decide_eq_false_iff_not, Bool.not_eq_true', Bool.not_eq_false', Bool.not_true, Bool.not_false] at phs48
       refine ol_s rfl rfl hs48 rfl ?_
       refine ol_s rfl rfl hs48 rfl ?_
       refine ol_s rfl rfl hs48 rfl ?_
       refine ol_r (r_pickT rfl hs48 rfl) rfl ?_
       refine ol_r (r_move rfl) rfl ?_
       refine ol_s rfl rfl rfl rfl ?_
       refine ol_s rfl rfl rfl rfl ?_
       refine ol_s rfl rfl rfl rfl ?_
       refine ol_r (r_pickT rfl rfl rfl) rfl ?_
       refine ol_nil (to_k0 (fun _ _ h => h) (hK58 _ _ _ _ _ ?_))
       clear hK58
       refine wp_condT rfl ?_
       refine wp_seq' fun K59 hK59 => ?_
       refine wp_reg ?_
       refine ol_r (r_assign rfl) rfl ?_
       refine ol_nil (to_k0 (fun _ _ h => h) (hK59 _ _ _ _ _ ?_))
       clear hK59
       refine hQ.ret (rvs1 (rv_t rfl)) (fun _ _ h => h) fun w hb hs hB hkd => ?_
       first
         | (exfalso; omega)
      ·have phs48 := hs48; try simp only [decide_eq_true_eq, decide_eq_false_iff_not, Bool.not_eq_true', Bool.not_eq_false', Bool.not_true, Bool.not_false] at phs48
       refine ol_g rfl rfl hs48 ?_
       refine ol_r (r_fa (o' := 2) rfl fl51_2 rfl) rfl ?_
       refine ol_g rfl rfl hs48 ?_
       refine ol_r (r_ld (id := 5) rfl rfl rfl sc3) rfl ?_
       refine ol_g rfl rfl hs48 ?_
       refine ol_call rfl rfl cb89 rfl (fun w1 hb1 hs1 hB1 => Calls.mono (ref2_outside _ _ _ _) ?_)
       rintro e w2 ⟨rfl, hb2⟩
       refine After.below rfl hb1 hs1 hB1 hb2 ?_
       clear hb2 hB1 hs1 hb1 w2 w1
       refine ol_r (r_pickF rfl hs48 rfl) rfl ?_
       refine ol_r (r_move rfl) rfl ?_
       refine ol_split (d := 53) rfl (fun hs53 => ?_) (fun hs53 => ?_)
       ·have phs53 := hs53; try simp only [decide_eq_true_eq, decide_eq_false_iff_not, Bool.not_eq_true', Bool.not_eq_false', Bool.not_true, Bool.not_false] at phs53
        refine ol_s rfl rfl hs53 rfl ?_
        refine ol_s rfl rfl hs53 rfl ?_
        refine ol_s rfl rfl hs53 rfl ?_
        refine ol_r (r_pickT rfl hs53 rfl) rfl ?_
        refine ol_nil (to_k0 (fun _ _ h => h) (hK58 _ _ _ _ _ ?_))
        clear hK58
        refine wp_condT rfl ?_
        refine wp_seq' fun K60 hK60 => ?_
        refine wp_reg ?_
        refine ol_r (r_assign rfl) rfl ?_
        refine ol_nil (to_k0 (fun _ _ h => h) (hK60 _ _ _ _ _ ?_))
        clear hK60
        refine hQ.ret (rvs1 (rv_t rfl)) (fun _ _ h => h) fun w hb hs hB hkd => ?_
        first
          | (exfalso; omega)
       ·have phs53 := hs53; try simp only [decide_eq_true_eq, decide_eq_false_iff_not, Bool.not_eq_true', Bool.not_eq_false', Bool.not_true, Bool.not_false] at phs53
        refine ol_g rfl rfl hs53 ?_
        refine ol_r (r_fa (o' := 3) rfl fl51_3 rfl) rfl ?_
        refine ol_g rfl rfl hs53 ?_
        refine ol_r (r_ld (id := 5) rfl rfl rfl sc3) rfl ?_
        refine ol_g rfl rfl hs53 ?_
        refine ol_call rfl rfl cb89 rfl (fun w1 hb1 hs1 hB1 => Calls.mono (ref2_outside _ _ _ _) ?_)
        rintro e w2 ⟨rfl, hb2⟩
        refine After.below rfl hb1 hs1 hB1 hb2 ?_
        clear hb2 hB1 hs1 hb1 w2 w1
        refine ol_r (r_pickF rfl hs53 rfl) rfl ?_
        refine ol_nil (to_k0 (fun _ _ h => h) (hK58 _ _ _ _ _ ?_))
        clear hK58
        refine wp_condNB rfl (fun hc57 => ?_) (fun hc57 => ?_)
        ·refine wp_seq' fun K61 hK61 => ?_
         refine wp_reg ?_
         refine ol_r (r_assign rfl) rfl ?_
         refine ol_nil (to_k0 (fun _ _ h => h) (hK61 _ _ _ _ _ ?_))
         clear hK61
         refine hQ.ret (rvs1 (rv_t rfl)) (fun _ _ h => h) fun w hb hs hB hkd => ?_
         first
           | (exfalso; omega)
        ·refine wp_skip' (to_k0 (fun _ _ h => h) (hK57 _ _ _ _ _ ?_))
         clear hK57
         refine wp_seq' fun K62 hK62 => ?_
         refine wp_seq' fun K63 hK63 => ?_
         refine wp_reg ?_
         refine ol_r (r_fa (o' := 4) rfl fl51_4 rfl) rfl ?_
         refine ol_r (r_ld (id := 5) rfl rfl rfl sc3) rfl ?_
         refine ol_call rfl rfl cb89 rfl (fun w1 hb1 hs1 hB1 => Calls.mono (ref2_outside _ _ _ _) ?_)
         rintro e w2 ⟨rfl, hb2⟩
         refine After.below rfl hb1 hs1 hB1 hb2 ?_
         clear hb2 hB1 hs1 hb1 w2 w1
         refine ol_r (r_move rfl) rfl ?_
         refine ol_split (d := 61) rfl (fun hs61 => ?_) (fun hs61 => ?_)
         ·have phs61 := hs61; try simp only [decide_eq_true_eq, decide_eq_false_iff_not, Bool.not_eq_true', Bool.not_eq_false', Bool.not_true, Bool.not_false] at phs61
          refine ol_s rfl rfl hs61 rfl ?_
          refine ol_s rfl rfl hs61 rfl ?_
          refine ol_s rfl rfl hs61 rfl ?_
          refine ol_r (r_pickT rfl hs61 rfl) rfl ?_
          refine ol_r (r_move rfl) rfl ?_
          refine ol_s rfl rfl rfl rfl ?_
          refine ol_s rfl rfl rfl rfl ?_
          refine ol_s rfl rfl rfl rfl ?_
          refine ol_r (r_pickT rfl rfl rfl) rfl ?_
          refine ol_nil (to_k0 (fun _ _ h => h) (hK63 _ _ _ _ _ ?_))
          clear hK63
          refine wp_condT rfl ?_
          refine wp_seq' fun K64 hK64 => ?_
          refine wp_reg ?_
          refine ol_r (r_assign rfl) rfl ?_
          refine ol_nil (to_k0 (fun _ _ h => h) (hK64 _ _ _ _ _ ?_))
          clear hK64
          refine hQ.ret (rvs1 (rv_t rfl)) (fun _ _ h => h) fun w hb hs hB hkd => ?_
          first
            | (exfalso; omega)
         ·have phs61 := hs61; try simp only [decide_eq_true_eq, decide_eq_false_iff_not, Bool.not_eq_true', Bool.not_eq_false', Bool.not_true, Bool.not_false] at phs61
          refine ol_g rfl rfl hs61 ?_
          refine ol_r (r_fa (o' := 5) rfl fl51_5 rfl) rfl ?_
          refine ol_g rfl rfl hs61 ?_
          refine ol_r (r_ld (id := 5) rfl rfl rfl sc3) rfl ?_
          refine ol_g rfl rfl hs61 ?_
          refine ol_call rfl rfl cb89 rfl (fun w1 hb1 hs1 hB1 => Calls.mono (ref2_outside _ _ _ _) ?_)
          rintro e w2 ⟨rfl, hb2⟩
          refine After.below rfl hb1 hs1 hB1 hb2 ?_
          clear hb2 hB1 hs1 hb1 w2 w1
          refine ol_r (r_pickF rfl hs61 rfl) rfl ?_
          refine ol_r (r_move rfl) rfl ?_
          refine ol_split (d := 66) rfl (fun hs66 => ?_) (fun hs66 => ?_)
          ·have phs66 := hs66; try simp only [decide_eq_true_eq, decide_eq_false_iff_not, Bool.not_eq_true', Bool.not_eq_false', Bool.not_true, Bool.not_false] at phs66
           refine ol_s rfl rfl hs66 rfl ?_
           refine ol_s rfl rfl hs66 rfl ?_
           refine ol_s rfl rfl hs66 rfl ?_
           refine ol_r (r_pickT rfl hs66 rfl) rfl ?_
           refine ol_nil (to_k0 (fun _ _ h => h) (hK63 _ _ _ _ _ ?_))
           clear hK63
           refine wp_condT rfl ?_
           refine wp_seq' fun K65 hK65 => ?_
           refine wp_reg ?_
           refine ol_r (r_assign rfl) rfl ?_
           refine ol_nil (to_k0 (fun _ _ h => h) (hK65 _ _ _ _ _ ?_))
           clear hK65
           refine hQ.ret (rvs1 (rv_t rfl)) (fun _ _ h => h) fun w hb hs hB hkd => ?_
           first
             | (exfalso; omega)
          ·have phs66 := hs66; try simp only [decide_eq_true_eq, decide_eq_false_iff_not, Bool.not_eq_true', Bool.not_eq_false', Bool.not_true, Bool.not_false] at phs66
           refine ol_g rfl rfl hs66 ?_
           refine ol_r (r_fa (o' := 6) rfl fl51_6 rfl) rfl ?_
           refine ol_g rfl rfl hs66 ?_
           refine ol_r (r_ld (id := 5) rfl rfl rfl sc3) rfl ?_
           refine ol_g rfl rfl hs66 ?_
           refine ol_call rfl rfl cb89 rfl (fun w1 hb1 hs1 hB1 => Calls.mono (ref2_outside _ _ _ _) ?_)
           rintro e w2 ⟨rfl, hb2⟩
           refine After.below rfl hb1 hs1 hB1 hb2 ?_
           clear hb2 hB1 hs1 hb1 w2 w1
           refine ol_r (r_pickF rfl hs66 rfl) rfl ?_
           refine ol_nil (to_k0 (fun _ _ h => h) (hK63 _ _ _ _ _ ?_))
           clear hK63
           refine wp_condNB rfl (fun hc70 => ?_) (fun hc70 => ?_)
           ·refine wp_seq' fun K66 hK66 => ?_
            refine wp_reg ?_
            refine ol_r (r_assign rfl) rfl ?_
            refine ol_nil (to_k0 (fun _ _ h => h) (hK66 _ _ _ _ _ ?_))
            clear hK66
            refine hQ.ret (rvs1 (rv_t rfl)) (fun _ _ h => h) fun w hb hs hB hkd => ?_
            first
              | (exfalso; omega)
           ·refine wp_skip' (to_k0 (fun _ _ h => h) (hK62 _ _ _ _ _ ?_))
            clear hK62
            refine wp_seq' fun K67 hK67 => ?_
            refine wp_reg ?_
            refine ol_r (r_assign rfl) rfl ?_
            refine ol_nil (to_k0 (fun _ _ h => h) (hK67 _ _ _ _ _ ?_))
            clear hK67
            refine hQ.ret (rvs1 (rv_t rfl)) (fun _ _ h => h) fun w hb hs hB hkd => ?_
            first
              | (exfalso; omega)
theorem ref2_lapFault (A : ActV) (k : Nat) (x : LapR) (w : World) (hA : A.Ok w.heap.size w) (hx : A.ls[k]? = some x) :
    Calls Try.prog 91 #[.agg #[.string A.name, .int .i64 A.sport, .int .i64 A.start, .slice A.sa A.sn A.sc, .slice A.la A.ln A.lc, .slice A.ta A.tn A.tc], .int .i64 k] w fun e w' => e = .returned (.int .i64 (fL (spanL A.ss) (ahead A.ls k) x)) ∧ Below w.heap.size w w' := by
  have hln := hA.l.len
  have hlf := hA.l.fit
  have hlt := (List.getElem?_eq_some_iff.1 hx).1
  have hnm := hA.lm _ (List.mem_of_getElem? hx)
  refine enterQ (N := 60) (C := fun _ => True) (H := []) (B := w.heap.size) (args := [_, _]) Try.func91 rfl rfl rfl (Nat.le_refl _) (Sat.nil _ _) fun Q hQ => ?_
  refine wp_seq' fun K1 hK1 => ?_
  refine wp_reg ?_
  refine ol_box 2 rfl rfl rfl fun b2 => ?_
  refine ol_r (r_assign rfl) rfl ?_
  refine ol_nil (to_k0 (fun _ _ h => h) (hK1 _ _ _ _ _ ?_))
  clear hK1
  refine wp_seq' fun K2 hK2 => ?_
  refine wp_reg ?_
  refine ol_r (r_fa (o' := 4) rfl fl39_4 rfl) rfl ?_
  refine ol_r (r_ld (id := 2) rfl rfl rfl sc36) rfl ?_
  refine ol_r (r_move rfl) rfl ?_
  refine ol_ixr hA.l rfl rfl sl36 (by omega) rfl fun x10 hx10 => ?_
  try simp only [Int.toNat_natCast] at hx10
  have h9 : x10 = x := by rw [hx] at hx10; cases hx10; rfl
  subst h9
  refine ol_r (r_ldw rfl (fun w1 hb1 hs1 hB1 => Rd.loads hA.l ty135 hx10 hb1)) rfl ?_
  refine ol_alloc 5 z135 rfl fun b5 => ?_
  refine ol_store (id := 5) rfl rfl rfl rfl sz135 rfl rfl (by first | decide | exact Nat.zero_lt_succ _ | simp) ?_
  refine ol_nil (to_k0 (fun _ _ h => h) (hK2 _ _ _ _ _ ?_))
  clear hK2
  refine wp_seq' fun K3 hK3 => ?_
  refine wp_seq' fun K4 hK4 => ?_
  refine wp_regq (by kernel_rfl) (by kernel_rfl) ?_
  refine ql_r (r_fa (o' := 0) rfl fl135_0 rfl) rfl ?_
  refine ql_r (r_ld (id := 5) rfl rfl rfl sc3) rfl ?_
  refine ql_r (r_lss rfl rfl) rfl ?_
  refine ql_r (r_move rfl) rfl ?_
  refine ql_split (d := 15) rfl (fun hs15 => ?_) (fun hs15 => ?_)
  ·have phs15 := hs15; try simp only [decide_eq_true_eq, decide_eq_false_iff_not, Bool.not_eq_true', Bool.not_eq_false', Bool.not_true, Bool.not_false] at phs15
   refine ql_s rfl rfl hs15 rfl ?_
   refine ql_s rfl rfl hs15 rfl ?_
   refine ql_s rfl rfl hs15 rfl ?_
   refine ql_s rfl rfl hs15 rfl ?_
   refine ql_s rfl rfl hs15 rfl ?_
   refine ql_r (r_pickT rfl hs15 rfl) rfl ?_
   refine ql_r (r_move rfl) rfl ?_
   refine ql_s rfl rfl rfl rfl ?_
   refine ql_s rfl rfl rfl rfl ?_
   refine ql_s rfl rfl rfl rfl ?_
   refine ql_s rfl rfl rfl rfl ?_
   refine ql_s rfl rfl rfl rfl ?_
   refine ql_r (r_pickT rfl rfl rfl) rfl ?_
   refine ql_nil (to_k0 (fun _ _ h => h) (hK4 _ _ _ _ _ ?_))
   clear hK4
   refine wp_condT rfl ?_
   refine wp_seq' fun K5 hK5 => ?_
   refine wp_reg ?_
   refine ol_r (r_assign rfl) rfl ?_
   refine ol_nil (to_k0 (fun _ _ h => h) (hK5 _ _ _ _ _ ?_))
   clear hK5
   refine hQ.ret (rvs1 (rv_t rfl)) (fun _ _ h => h) fun w hb hs hB hkd => ?_
   first
     | (have h := fL_9 (sp := spanL A.ss) (p := ahead A.ls k) (x := x10) (by omega)
        refine ⟨?_, hb⟩
        rw [h]
        done)
  ·have phs15 := hs15; try simp only [decide_eq_true_eq, decide_eq_false_iff_not, Bool.not_eq_true', Bool.not_eq_false', Bool.not_true, Bool.not_false] at phs15
   refine ql_g rfl rfl hs15 ?_
   refine ql_r (r_fa (o' := 0) rfl fl135_0 rfl) rfl ?_
   refine ql_g rfl rfl hs15 ?_
   refine ql_r (r_ld (id := 5) rfl rfl rfl sc3) rfl ?_
   refine ql_g rfl rfl hs15 ?_
   refine ql_r (r_fa (o' := 1) rfl fl135_1 rfl) rfl ?_
   refine ql_g rfl rfl hs15 ?_
   refine ql_r (r_ld (id := 5) rfl rfl rfl sc3) rfl ?_
   refine ql_g rfl rfl hs15 ?_
   refine ql_r (r_geq rfl rfl) rfl ?_
   refine ql_r (r_pickF rfl hs15 rfl) rfl ?_
   refine ql_r (r_move rfl) rfl ?_
   refine ql_split (d := 22) rfl (fun hs22 => ?_) (fun hs22 => ?_)
   ·have phs22 := hs22; try simp only [decide_eq_true_eq, decide_eq_false_iff_not, Bool.not_eq_true', Bool.not_eq_false', Bool.not_true, Bool.not_false] at phs22
    refine ql_s rfl rfl hs22 rfl ?_
    refine ql_s rfl rfl hs22 rfl ?_
    refine ql_s rfl rfl hs22 rfl ?_
    refine ql_s rfl rfl hs22 rfl ?_
    refine ql_s rfl rfl hs22 rfl ?_
    refine ql_r (r_pickT rfl hs22 rfl) rfl ?_
    refine ql_nil (to_k0 (fun _ _ h => h) (hK4 _ _ _ _ _ ?_))
    clear hK4
    refine wp_condT rfl ?_
    refine wp_seq' fun K6 hK6 => ?_
    refine wp_reg ?_
    refine ol_r (r_assign rfl) rfl ?_
    refine ol_nil (to_k0 (fun _ _ h => h) (hK6 _ _ _ _ _ ?_))
    clear hK6
    refine hQ.ret (rvs1 (rv_t rfl)) (fun _ _ h => h) fun w hb hs hB hkd => ?_
    first
      | (have h := fL_9 (sp := spanL A.ss) (p := ahead A.ls k) (x := x10) (by omega)
         refine ⟨?_, hb⟩
         rw [h]
         done)
   ·have phs22 := hs22; try simp only [decide_eq_true_eq, decide_eq_false_iff_not, Bool.not_eq_true', Bool.not_eq_false', Bool.not_true, Bool.not_false] at phs22
    refine ql_g rfl rfl hs22 ?_
    refine ql_r (r_fa (o' := 1) rfl fl135_1 rfl) rfl ?_
    refine ql_g rfl rfl hs22 ?_
    refine ql_r (r_ld (id := 5) rfl rfl rfl sc3) rfl ?_
    refine ql_g rfl rfl hs22 ?_
    refine ql_r (r_lda (id := 2) (n := 6) rfl rfl rfl ag39) rfl ?_
    refine ql_g rfl rfl hs22 ?_
    refine ql_call rfl rfl cb107 rfl (fun w1 hb1 hs1 hB1 => ref2_SpanOf A _ (hA.at hb1 hB1)) ?_
    refine ql_g rfl rfl hs22 ?_
    refine ql_r (r_gtr rfl rfl) rfl ?_
    refine ql_r (r_pickF rfl hs22 rfl) rfl ?_
    refine ql_nil (to_k0 (fun _ _ h => h) (hK4 _ _ _ _ _ ?_))
    clear hK4
    refine wp_condD rfl (fun hc28 => ?_) (fun hc28 => ?_)
    ·refine wp_seq' fun K7 hK7 => ?_
     refine wp_reg ?_
     refine ol_r (r_assign rfl) rfl ?_
     refine ol_nil (to_k0 (fun _ _ h => h) (hK7 _ _ _ _ _ ?_))
     clear hK7
     refine hQ.ret (rvs1 (rv_t rfl)) (fun _ _ h => h) fun w hb hs hB hkd => ?_
     first
       | (have h := fL_9 (sp := spanL A.ss) (p := ahead A.ls k) (x := x10) (by omega)
          refine ⟨?_, hb⟩
          rw [h]
          done)
    ·refine wp_skip' (to_k0 (fun _ _ h => h) (hK3 _ _ _ _ _ ?_))
     clear hK3
     refine wp_seq' fun K8 hK8 => ?_
     refine wp_seq' fun K9 hK9 => ?_
     refine wp_regq (by kernel_rfl) (by kernel_rfl) ?_
     refine ql_r (r_move rfl) rfl ?_
     refine ql_r (r_gtr rfl rfl) rfl ?_
     refine ql_r (r_move rfl) rfl ?_
     refine ql_split (d := 31) rfl (fun hs31 => ?_) (fun hs31 => ?_)
     ·have phs31 := hs31; try simp only [decide_eq_true_eq, decide_eq_false_iff_not, Bool.not_eq_true', Bool.not_eq_false', Bool.not_true, Bool.not_false] at phs31
      refine ql_g rfl rfl hs31 ?_
      refine ql_r (r_fa (o' := 0) rfl fl135_0 rfl) rfl ?_
      refine ql_g rfl rfl hs31 ?_
      refine ql_r (r_ld (id := 5) rfl rfl rfl sc3) rfl ?_
      refine ql_g rfl rfl hs31 ?_
      refine ql_r (r_fa (o' := 4) rfl fl39_4 rfl) rfl ?_
      refine ql_g rfl rfl hs31 ?_
      refine ql_r (r_ld (id := 2) rfl rfl rfl sc36) rfl ?_
      refine ql_g rfl rfl hs31 ?_
      refine ql_r (r_move rfl) rfl ?_
      refine ql_g rfl rfl hs31 ?_
      refine ql_r (r_sub rfl rfl (by omega)) rfl ?_
      refine ql_g rfl rfl hs31 ?_
      refine ql_ixr hA.l rfl rfl sl36 (by omega) rfl fun x38 hx38 => ?_
      try simp only [Int.toNat_natCast] at hx38
      refine ql_g rfl rfl hs31 ?_
      refine ql_r (r_faw rfl (ix_some hA.l (by omega)) fl135_1) rfl ?_
      refine ql_g rfl rfl hs31 ?_
      refine ql_r (r_ldw rfl (fun w1 hb1 hs1 hB1 => Rd.loadsF (o := 1) hA.l sc3 hx38 hb1 rfl)) rfl ?_
      refine ql_g rfl rfl hs31 ?_
      refine ql_r (r_lss rfl rfl) rfl ?_
      refine ql_r (r_pickT rfl hs31 rfl) rfl ?_
      refine ql_nil (to_k0 (fun _ _ h => h) (hK9 _ _ _ _ _ ?_))
      clear hK9
      refine wp_condD rfl (fun hc42 => ?_) (fun hc42 => ?_)
      ·refine wp_seq' fun K10 hK10 => ?_
       refine wp_reg ?_
       refine ol_r (r_assign rfl) rfl ?_
       refine ol_nil (to_k0 (fun _ _ h => h) (hK10 _ _ _ _ _ ?_))
       clear hK10
       refine hQ.ret (rvs1 (rv_t rfl)) (fun _ _ h => h) fun w hb hs hB hkd => ?_
       first
         | (have h := fL_10 (sp := spanL A.ss) (p := ahead A.ls k) (x := x10) (by omega) (by rw [ordL_1 (by omega) hx38, decide_eq_true (by omega)])
            refine ⟨?_, hb⟩
            rw [h]
            done)
      ·refine wp_skip' (to_k0 (fun _ _ h => h) (hK8 _ _ _ _ _ ?_))
       clear hK8
       refine wp_seq' fun K11 hK11 => ?_
       refine wp_seq' fun K12 hK12 => ?_
       refine wp_reg ?_
       refine ol_r (r_assign rfl) rfl ?_
       refine ol_nil (to_k0 (fun _ _ h => h) (hK12 _ _ _ _ _ ?_))
       clear hK12
       refine wp_block' ?_
       apply wp_loopM (σ := Nat) (fun s => s ≤ x10.name.size ∧ ∀ i, i < s → inB (byteAt x10.name i) 32 126 = true) (fun s => [(6, .int .i64 s)]) [(5, _)] (fun s => []) [(2, _), (5, _)] (fun s => x10.name.size - s) (0)
       ·try dsimp only
        exact ⟨Nat.zero_le _, fun i h => by omega⟩
       ·exact (sub_cons rfl sub_nil)
       ·exact (sub_cons rfl sub_nil)
       ·exact subH_nil
       ·exact (subH_same rfl (subH_same rfl subH_nil))
       ·rintro i ⟨hi, hP⟩
        intro K13 hK13
        refine wp_seq' fun K14 hK14 => ?_
        refine wp_seq' fun K15 hK15 => ?_
        refine wp_reg ?_
        have ho : ordL (ahead A.ls k) x10 = false := by
          first
            | (rw [ordL_0 (by omega)]; done)
            | (rw [ordL_1 (by omega) hx38, decide_eq_false (by omega)]; done)
        have hr : ¬(x10.from_ < 0 ∨ x10.to ≤ x10.from_ ∨ spanL A.ss < x10.to) := by omega
        refine ol_r (r_move rfl) rfl ?_
        refine ol_r (r_fa (o' := 2) rfl fl135_2 rfl) rfl ?_
        refine ol_r (r_ld (id := 5) rfl rfl rfl sc9) rfl ?_
        refine ol_r (r_lens rfl st9) rfl ?_
        refine ol_r (r_lss rfl rfl) rfl ?_
        refine ol_nil (to_k0 (fun _ _ h => h) (hK15 _ _ _ _ _ ?_))
        clear hK15
        refine wp_condD rfl (fun hc47 => ?_) (fun hc47 => ?_)
        ·refine wp_skip' (to_k0 (fun _ _ h => h) (hK14 _ _ _ _ _ ?_))
         clear hK14
         refine wp_seq' fun K16 hK16 => ?_
         refine wp_block' ?_
         refine wp_seq' fun K17 hK17 => ?_
         refine wp_reg ?_
         refine ol_r (r_fa (o' := 2) rfl fl135_2 rfl) rfl ?_
         refine ol_r (r_ld (id := 5) rfl rfl rfl sc9) rfl ?_
         refine ol_r (r_move rfl) rfl ?_
         refine ol_r (r_sidx rfl rfl st9 (by omega)) rfl ?_
         try simp only [Int.toNat_natCast]
         have hbb := byteAt_bd x10.name i
         refine ol_r (r_conv (k2 := .i64) rfl (by kernel_rfl) (by kernel_rfl) (IntWalk.i64_in _ (by omega))) rfl ?_
         refine ol_call rfl rfl cb89 rfl (fun w1 hb1 hs1 hB1 => Calls.mono (ref2_outside _ _ _ _) ?_)
         rintro e w2 ⟨rfl, hb2⟩
         refine After.below rfl hb1 hs1 hB1 hb2 ?_
         clear hb2 hB1 hs1 hb1 w2 w1
         refine ol_nil (to_k0 (fun _ _ h => h) (hK17 _ _ _ _ _ ?_))
         clear hK17
         refine wp_condNB rfl (fun hc55 => ?_) (fun hc55 => ?_)
         ·refine wp_seq' fun K18 hK18 => ?_
          refine wp_reg ?_
          refine ol_r (r_assign rfl) rfl ?_
          refine ol_nil (to_k0 (fun _ _ h => h) (hK18 _ _ _ _ _ ?_))
          clear hK18
          refine hQ.ret (rvs1 (rv_t rfl)) (fun _ _ h => h) fun w hb hs hB hkd => ?_
          first
            | (have h1 : inB (byteAt x10.name i) 32 126 = false := by simpa using hc55
               have h2 : titleB x10.name = false := by unfold titleB; rw [bytesAll_not (p := fun c => inB c 32 126) (by omega) h1]; rfl
               have h := fL_8 hr ho h2
               refine ⟨?_, hb⟩
               rw [h]
               done)
         ·refine wp_skip' (to_k0 (fun _ _ h => h) (hK16 _ _ _ _ _ ?_))
          clear hK16
          refine wp_reg ?_
          refine ol_r (r_move rfl) rfl ?_
          refine ol_r (r_add rfl rfl (by omega)) rfl ?_
          refine ol_r (r_assign rfl) rfl ?_
          refine ol_nil (to_k0 (fun _ _ h => h) (hK13 (i + 1) _ _ ?_ ?_ (sub_cons rfl sub_nil) (sub_cons rfl sub_nil) (by exact subH_nil) (subH_same rfl (subH_same rfl subH_nil))))
          ·try dsimp only
           refine ⟨by omega, fun j hj => ?_⟩
           by_cases h : j < i
           · exact hP j h
           · have : j = i := by omega
             subst this
             simpa using hc55
          ·try dsimp only
           omega
        ·refine wp_exit' (to_k0 (fun _ _ h => h) (hK11 _ _ _ _ _ ?_))
         clear hK11
         refine wp_seq' fun K19 hK19 => ?_
         refine wp_seq' fun K20 hK20 => ?_
         refine wp_reg ?_
         refine ol_r (r_fa (o' := 2) rfl fl135_2 rfl) rfl ?_
         refine ol_r (r_ld (id := 5) rfl rfl rfl sc9) rfl ?_
         refine ol_r (r_lens rfl st9) rfl ?_
         refine ol_r (r_gtr rfl rfl) rfl ?_
         refine ol_nil (to_k0 (fun _ _ h => h) (hK20 _ _ _ _ _ ?_))
         clear hK20
         refine wp_condD rfl (fun hc59 => ?_) (fun hc59 => ?_)
         ·refine wp_seq' fun K21 hK21 => ?_
          refine wp_reg ?_
          refine ol_r (r_assign rfl) rfl ?_
          refine ol_nil (to_k0 (fun _ _ h => h) (hK21 _ _ _ _ _ ?_))
          clear hK21
          refine hQ.ret (rvs1 (rv_t rfl)) (fun _ _ h => h) fun w hb hs hB hkd => ?_
          first
            | (have h1 : bytesAll (fun c => inB c 32 126) x10.name = true := bytesAll_iff.2 fun j hj => hP j (by omega)
               have h2 : titleB x10.name = decide (x10.name.size ≤ 60) := by unfold titleB; rw [h1, Bool.true_and]
               first
                 | (rw [decide_eq_true (by omega)] at h2
                    have h := fL_0 hr ho h2
                    refine ⟨?_, hb⟩
                    rw [h]
                    done)
                 | (rw [decide_eq_false (by omega)] at h2
                    have h := fL_8 hr ho h2
                    refine ⟨?_, hb⟩
                    rw [h]
                    done))
         ·refine wp_skip' (to_k0 (fun _ _ h => h) (hK19 _ _ _ _ _ ?_))
          clear hK19
          refine wp_seq' fun K22 hK22 => ?_
          refine wp_reg ?_
          refine ol_r (r_assign rfl) rfl ?_
          refine ol_nil (to_k0 (fun _ _ h => h) (hK22 _ _ _ _ _ ?_))
          clear hK22
          refine hQ.ret (rvs1 (rv_t rfl)) (fun _ _ h => h) fun w hb hs hB hkd => ?_
          first
            | (have h1 : bytesAll (fun c => inB c 32 126) x10.name = true := bytesAll_iff.2 fun j hj => hP j (by omega)
               have h2 : titleB x10.name = decide (x10.name.size ≤ 60) := by unfold titleB; rw [h1, Bool.true_and]
               first
                 | (rw [decide_eq_true (by omega)] at h2
                    have h := fL_0 hr ho h2
                    refine ⟨?_, hb⟩
                    rw [h]
                    done)
                 | (rw [decide_eq_false (by omega)] at h2
                    have h := fL_8 hr ho h2
                    refine ⟨?_, hb⟩
                    rw [h]
                    done))
     ·have phs31 := hs31; try simp only [decide_eq_true_eq, decide_eq_false_iff_not, Bool.not_eq_true', Bool.not_eq_false', Bool.not_true, Bool.not_false] at phs31
      refine ql_s rfl rfl hs31 rfl ?_
      refine ql_s rfl rfl hs31 rfl ?_
      refine ql_s rfl rfl hs31 rfl ?_
      refine ql_s rfl rfl hs31 rfl ?_
      refine ql_s rfl rfl hs31 rfl ?_
      refine ql_s rfl rfl hs31 rfl ?_
      refine ql_s rfl rfl hs31 rfl ?_
      refine ql_s rfl rfl hs31 rfl ?_
      refine ql_s rfl rfl hs31 rfl ?_
      refine ql_s rfl rfl hs31 rfl ?_
      refine ql_r (r_pickF rfl hs31 rfl) rfl ?_
      refine ql_nil (to_k0 (fun _ _ h => h) (hK9 _ _ _ _ _ ?_))
      clear hK9
      refine wp_condF rfl ?_
      refine wp_skip' (to_k0 (fun _ _ h => h) (hK8 _ _ _ _ _ ?_))
      clear hK8
      refine wp_seq' fun K23 hK23 => ?_
      refine wp_seq' fun K24 hK24 => ?_
      refine wp_reg ?_
      refine ol_r (r_assign rfl) rfl ?_
      refine ol_nil (to_k0 (fun _ _ h => h) (hK24 _ _ _ _ _ ?_))
      clear hK24
      refine wp_block' ?_
      apply wp_loopM (σ := Nat) (fun s => s ≤ x10.name.size ∧ ∀ i, i < s → inB (byteAt x10.name i) 32 126 = true) (fun s => [(6, .int .i64 s)]) [(5, _)] (fun s => []) [(2, _), (5, _)] (fun s => x10.name.size - s) (0)
      ·try dsimp only
       exact ⟨Nat.zero_le _, fun i h => by omega⟩
      ·exact (sub_cons rfl sub_nil)
      ·exact (sub_cons rfl sub_nil)
      ·exact subH_nil
      ·exact (subH_same rfl (subH_same rfl subH_nil))
      ·rintro i ⟨hi, hP⟩
       intro K25 hK25
       refine wp_seq' fun K26 hK26 => ?_
       refine wp_seq' fun K27 hK27 => ?_
       refine wp_reg ?_
       have ho : ordL (ahead A.ls k) x10 = false := by
         first
           | (rw [ordL_0 (by omega)]; done)
           | (rw [ordL_1 (by omega) hx38, decide_eq_false (by omega)]; done)
       have hr : ¬(x10.from_ < 0 ∨ x10.to ≤ x10.from_ ∨ spanL A.ss < x10.to) := by omega
       refine ol_r (r_move rfl) rfl ?_
       refine ol_r (r_fa (o' := 2) rfl fl135_2 rfl) rfl ?_
       refine ol_r (r_ld (id := 5) rfl rfl rfl sc9) rfl ?_
       refine ol_r (r_lens rfl st9) rfl ?_
       refine ol_r (r_lss rfl rfl) rfl ?_
       refine ol_nil (to_k0 (fun _ _ h => h) (hK27 _ _ _ _ _ ?_))
       clear hK27
       refine wp_condD rfl (fun hc47 => ?_) (fun hc47 => ?_)
       ·refine wp_skip' (to_k0 (fun _ _ h => h) (hK26 _ _ _ _ _ ?_))
        clear hK26
        refine wp_seq' fun K28 hK28 => ?_
        refine wp_block' ?_
        refine wp_seq' fun K29 hK29 => ?_
        refine wp_reg ?_
        refine ol_r (r_fa (o' := 2) rfl fl135_2 rfl) rfl ?_
        refine ol_r (r_ld (id := 5) rfl rfl rfl sc9) rfl ?_
        refine ol_r (r_move rfl) rfl ?_
        refine ol_r (r_sidx rfl rfl st9 (by omega)) rfl ?_
        try simp only [Int.toNat_natCast]
        have hbb := byteAt_bd x10.name i
        refine ol_r (r_conv (k2 := .i64) rfl (by kernel_rfl) (by kernel_rfl) (IntWalk.i64_in _ (by omega))) rfl ?_
        refine ol_call rfl rfl cb89 rfl (fun w1 hb1 hs1 hB1 => Calls.mono (ref2_outside _ _ _ _) ?_)
        rintro e w2 ⟨rfl, hb2⟩
        refine After.below rfl hb1 hs1 hB1 hb2 ?_
        clear hb2 hB1 hs1 hb1 w2 w1
        refine ol_nil (to_k0 (fun _ _ h => h) (hK29 _ _ _ _ _ ?_))
        clear hK29
        refine wp_condNB rfl (fun hc55 => ?_) (fun hc55 => ?_)
        ·refine wp_seq' fun K30 hK30 => ?_
         refine wp_reg ?_
         refine ol_r (r_assign rfl) rfl ?_
         refine ol_nil (to_k0 (fun _ _ h => h) (hK30 _ _ _ _ _ ?_))
         clear hK30
         refine hQ.ret (rvs1 (rv_t rfl)) (fun _ _ h => h) fun w hb hs hB hkd => ?_
         first
           | (have h1 : inB (byteAt x10.name i) 32 126 = false := by simpa using hc55
              have h2 : titleB x10.name = false := by unfold titleB; rw [bytesAll_not (p := fun c => inB c 32 126) (by omega) h1]; rfl
              have h := fL_8 hr ho h2
              refine ⟨?_, hb⟩
              rw [h]
              done)
        ·refine wp_skip' (to_k0 (fun _ _ h => h) (hK28 _ _ _ _ _ ?_))
         clear hK28
         refine wp_reg ?_
         refine ol_r (r_move rfl) rfl ?_
         refine ol_r (r_add rfl rfl (by omega)) rfl ?_
         refine ol_r (r_assign rfl) rfl ?_
         refine ol_nil (to_k0 (fun _ _ h => h) (hK25 (i + 1) _ _ ?_ ?_ (sub_cons rfl sub_nil) (sub_cons rfl sub_nil) (by exact subH_nil) (subH_same rfl (subH_same rfl subH_nil))))
         ·try dsimp only
          refine ⟨by omega, fun j hj => ?_⟩
          by_cases h : j < i
          · exact hP j h
          · have : j = i := by omega
            subst this
            simpa using hc55
         ·try dsimp only
          omega
       ·refine wp_exit' (to_k0 (fun _ _ h => h) (hK23 _ _ _ _ _ ?_))
        clear hK23
        refine wp_seq' fun K31 hK31 => ?_
        refine wp_seq' fun K32 hK32 => ?_
        refine wp_reg ?_
        refine ol_r (r_fa (o' := 2) rfl fl135_2 rfl) rfl ?_
        refine ol_r (r_ld (id := 5) rfl rfl rfl sc9) rfl ?_
        refine ol_r (r_lens rfl st9) rfl ?_
        refine ol_r (r_gtr rfl rfl) rfl ?_
        refine ol_nil (to_k0 (fun _ _ h => h) (hK32 _ _ _ _ _ ?_))
        clear hK32
        refine wp_condD rfl (fun hc59 => ?_) (fun hc59 => ?_)
        ·refine wp_seq' fun K33 hK33 => ?_
         refine wp_reg ?_
         refine ol_r (r_assign rfl) rfl ?_
         refine ol_nil (to_k0 (fun _ _ h => h) (hK33 _ _ _ _ _ ?_))
         clear hK33
         refine hQ.ret (rvs1 (rv_t rfl)) (fun _ _ h => h) fun w hb hs hB hkd => ?_
         first
           | (have h1 : bytesAll (fun c => inB c 32 126) x10.name = true := bytesAll_iff.2 fun j hj => hP j (by omega)
              have h2 : titleB x10.name = decide (x10.name.size ≤ 60) := by unfold titleB; rw [h1, Bool.true_and]
              first
                | (rw [decide_eq_true (by omega)] at h2
                   have h := fL_0 hr ho h2
                   refine ⟨?_, hb⟩
                   rw [h]
                   done)
                | (rw [decide_eq_false (by omega)] at h2
                   have h := fL_8 hr ho h2
                   refine ⟨?_, hb⟩
                   rw [h]
                   done))
        ·refine wp_skip' (to_k0 (fun _ _ h => h) (hK31 _ _ _ _ _ ?_))
         clear hK31
         refine wp_seq' fun K34 hK34 => ?_
         refine wp_reg ?_
         refine ol_r (r_assign rfl) rfl ?_
         refine ol_nil (to_k0 (fun _ _ h => h) (hK34 _ _ _ _ _ ?_))
         clear hK34
         refine hQ.ret (rvs1 (rv_t rfl)) (fun _ _ h => h) fun w hb hs hB hkd => ?_
         first
           | (have h1 : bytesAll (fun c => inB c 32 126) x10.name = true := bytesAll_iff.2 fun j hj => hP j (by omega)
              have h2 : titleB x10.name = decide (x10.name.size ≤ 60) := by unfold titleB; rw [h1, Bool.true_and]
              first
                | (rw [decide_eq_true (by omega)] at h2
                   have h := fL_0 hr ho h2
                   refine ⟨?_, hb⟩
                   rw [h]
                   done)
                | (rw [decide_eq_false (by omega)] at h2
                   have h := fL_8 hr ho h2
                   refine ⟨?_, hb⟩
                   rw [h]
                   done))
theorem ref2_Check (A : ActV) (w : World) (hA : A.Ok w.heap.size w) : Calls Try.prog 60 #[.agg #[.string A.name, .int .i64 A.sport, .int .i64 A.start, .slice A.sa A.sn A.sc, .slice A.la A.ln A.lc, .slice A.ta A.tn A.tc]] w fun e w' => e = .returned (.int .i64 (chkA A.d)) ∧ Below w.heap.size w w' := by
  have hsn := hA.s.len
  have hln := hA.l.len
  have htn := hA.t.len
  have hsf := hA.s.fit
  have hlf := hA.l.fit
  have htf := hA.t.fit
  refine enterQ (N := 89) (C := fun _ => True) (H := []) (B := w.heap.size) (args := [_]) Try.func60 rfl rfl rfl (Nat.le_refl _) (Sat.nil _ _) fun Q hQ => ?_
  refine wp_seq' fun K1 hK1 => ?_
  refine wp_reg ?_
  refine ol_box 1 rfl rfl rfl fun b1 => ?_
  refine ol_r (r_assign rfl) rfl ?_
  refine ol_nil (to_k0 (fun _ _ h => h) (hK1 _ _ _ _ _ ?_))
  clear hK1
  refine wp_seq' fun K2 hK2 => ?_
  refine wp_block' ?_
  refine wp_seq' fun K3 hK3 => ?_
  refine wp_reg ?_
  refine ol_r (r_fa (o' := 0) rfl fl39_0 rfl) rfl ?_
  refine ol_r (r_ld (id := 1) rfl rfl rfl sc9) rfl ?_
  refine ol_call rfl rfl cb88 rfl (fun w1 hb1 hs1 hB1 => Calls.mono (ref2_IsName A.name _ hA.nm) ?_)
  rintro e w2 ⟨rfl, hb2⟩
  refine After.below rfl hb1 hs1 hB1 hb2 ?_
  clear hb2 hB1 hs1 hb1 w2 w1
  refine ol_r (r_not rfl) rfl ?_
  refine ol_r (r_assign rfl) rfl ?_
  refine ol_nil (to_k0 (fun _ _ h => h) (hK3 _ _ _ _ _ ?_))
  clear hK3
  refine wp_condNB rfl (fun hc9 => ?_) (fun hc9 => ?_)
  ·refine wp_seq' fun K4 hK4 => ?_
   refine wp_reg ?_
   refine ol_r (r_assign rfl) rfl ?_
   refine ol_nil (to_k0 (fun _ _ h => h) (hK4 _ _ _ _ _ ?_))
   clear hK4
   refine hQ.ret (rvs1 (rv_t rfl)) (fun _ _ h => h) fun w hb hs hB hkd => ?_
   first
     | (have h := chkA_8 (a := A.d) (show nameB A.name = false by simpa using hc9)
        refine ⟨?_, hb⟩
        rw [h]
        done)
  ·refine wp_seq' fun K5 hK5 => ?_
   refine wp_reg ?_
   refine ol_r (r_fa (o' := 1) rfl fl39_1 rfl) rfl ?_
   refine ol_r (r_ld (id := 1) rfl rfl rfl sc3) rfl ?_
   refine ol_call rfl rfl cb89 rfl (fun w1 hb1 hs1 hB1 => Calls.mono (ref2_outside _ _ _ _) ?_)
   rintro e w2 ⟨rfl, hb2⟩
   refine After.below rfl hb1 hs1 hB1 hb2 ?_
   clear hb2 hB1 hs1 hb1 w2 w1
   refine ol_r (r_assign rfl) rfl ?_
   refine ol_nil (to_k0 (fun _ _ h => h) (hK5 _ _ _ _ _ ?_))
   clear hK5
   refine wp_condNB rfl (fun hc14 => ?_) (fun hc14 => ?_)
   ·refine wp_seq' fun K6 hK6 => ?_
    refine wp_reg ?_
    refine ol_r (r_assign rfl) rfl ?_
    refine ol_nil (to_k0 (fun _ _ h => h) (hK6 _ _ _ _ _ ?_))
    clear hK6
    refine hQ.ret (rvs1 (rv_t rfl)) (fun _ _ h => h) fun w hb hs hB hkd => ?_
    first
      | (have h := chkA_7 (a := A.d) (show nameB A.name = true by simpa using hc9) (show inB A.sport 1 5 = false by simpa using hc14)
         refine ⟨?_, hb⟩
         rw [h]
         done)
   ·refine wp_seq' fun K7 hK7 => ?_
    refine wp_reg ?_
    refine ol_r (r_fa (o' := 2) rfl fl39_2 rfl) rfl ?_
    refine ol_r (r_ld (id := 1) rfl rfl rfl sc3) rfl ?_
    refine ol_call rfl rfl cb89 rfl (fun w1 hb1 hs1 hB1 => Calls.mono (ref2_outside _ _ _ _) ?_)
    rintro e w2 ⟨rfl, hb2⟩
    refine After.below rfl hb1 hs1 hB1 hb2 ?_
    clear hb2 hB1 hs1 hb1 w2 w1
    refine ol_r (r_assign rfl) rfl ?_
    refine ol_nil (to_k0 (fun _ _ h => h) (hK7 _ _ _ _ _ ?_))
    clear hK7
    refine wp_condNB rfl (fun hc18 => ?_) (fun hc18 => ?_)
    ·refine wp_seq' fun K8 hK8 => ?_
     refine wp_reg ?_
     refine ol_r (r_assign rfl) rfl ?_
     refine ol_nil (to_k0 (fun _ _ h => h) (hK8 _ _ _ _ _ ?_))
     clear hK8
     refine hQ.ret (rvs1 (rv_t rfl)) (fun _ _ h => h) fun w hb hs hB hkd => ?_
     first
       | (have h := chkA_9 (a := A.d) (show nameB A.name = true by simpa using hc9) (show inB A.sport 1 5 = true by simpa using hc14) (show inB A.start 0 86399999999 = false by simpa using hc18)
          refine ⟨?_, hb⟩
          rw [h]
          done)
    ·refine wp_seq' fun K9 hK9 => ?_
     refine wp_reg ?_
     refine ol_r (r_fa (o' := 3) rfl fl39_3 rfl) rfl ?_
     refine ol_r (r_ld (id := 1) rfl rfl rfl sc35) rfl ?_
     refine ol_r (r_len rfl sl35) rfl ?_
     refine ol_r (r_gtr rfl rfl) rfl ?_
     refine ol_r (r_move rfl) rfl ?_
     refine ol_split (d := 27) rfl (fun hs27 => ?_) (fun hs27 => ?_)
     ·have phs27 := hs27; try simp only [decide_eq_true_eq, decide_eq_false_iff_not, Bool.not_eq_true', Bool.not_eq_false', Bool.not_true, Bool.not_false] at phs27
      refine ol_s rfl rfl hs27 rfl ?_
      refine ol_s rfl rfl hs27 rfl ?_
      refine ol_s rfl rfl hs27 rfl ?_
      refine ol_s rfl rfl hs27 rfl ?_
      refine ol_r (r_pickT rfl hs27 rfl) rfl ?_
      refine ol_r (r_move rfl) rfl ?_
      refine ol_s rfl rfl rfl rfl ?_
      refine ol_s rfl rfl rfl rfl ?_
      refine ol_s rfl rfl rfl rfl ?_
      refine ol_s rfl rfl rfl rfl ?_
      refine ol_r (r_pickT rfl rfl rfl) rfl ?_
      refine ol_r (r_assign rfl) rfl ?_
      refine ol_nil (to_k0 (fun _ _ h => h) (hK9 _ _ _ _ _ ?_))
      clear hK9
      refine wp_condT rfl ?_
      refine wp_seq' fun K10 hK10 => ?_
      refine wp_reg ?_
      refine ol_r (r_assign rfl) rfl ?_
      refine ol_nil (to_k0 (fun _ _ h => h) (hK10 _ _ _ _ _ ?_))
      clear hK10
      refine hQ.ret (rvs1 (rv_t rfl)) (fun _ _ h => h) fun w hb hs hB hkd => ?_
      first
        | (have h := chkA_3 (a := A.d) (show nameB A.name = true by simpa using hc9) (show inB A.sport 1 5 = true by simpa using hc14) (show inB A.start 0 86399999999 = true by simpa using hc18) (show 20000 < A.ss.length ∨ 200 < A.ls.length ∨ 20 < A.ts.length by omega)
           refine ⟨?_, hb⟩
           rw [h]
           done)
     ·have phs27 := hs27; try simp only [decide_eq_true_eq, decide_eq_false_iff_not, Bool.not_eq_true', Bool.not_eq_false', Bool.not_true, Bool.not_false] at phs27
      refine ol_g rfl rfl hs27 ?_
      refine ol_r (r_fa (o' := 4) rfl fl39_4 rfl) rfl ?_
      refine ol_g rfl rfl hs27 ?_
      refine ol_r (r_ld (id := 1) rfl rfl rfl sc36) rfl ?_
      refine ol_g rfl rfl hs27 ?_
      refine ol_r (r_len rfl sl36) rfl ?_
      refine ol_g rfl rfl hs27 ?_
      refine ol_r (r_gtr rfl rfl) rfl ?_
      refine ol_r (r_pickF rfl hs27 rfl) rfl ?_
      refine ol_r (r_move rfl) rfl ?_
      refine ol_split (d := 33) rfl (fun hs33 => ?_) (fun hs33 => ?_)
      ·have phs33 := hs33; try simp only [decide_eq_true_eq, decide_eq_false_iff_not, Bool.not_eq_true', Bool.not_eq_false', Bool.not_true, Bool.not_false] at phs33
       refine ol_s rfl rfl hs33 rfl ?_
       refine ol_s rfl rfl hs33 rfl ?_
       refine ol_s rfl rfl hs33 rfl ?_
       refine ol_s rfl rfl hs33 rfl ?_
       refine ol_r (r_pickT rfl hs33 rfl) rfl ?_
       refine ol_r (r_assign rfl) rfl ?_
       refine ol_nil (to_k0 (fun _ _ h => h) (hK9 _ _ _ _ _ ?_))
       clear hK9
       refine wp_condT rfl ?_
       refine wp_seq' fun K11 hK11 => ?_
       refine wp_reg ?_
       refine ol_r (r_assign rfl) rfl ?_
       refine ol_nil (to_k0 (fun _ _ h => h) (hK11 _ _ _ _ _ ?_))
       clear hK11
       refine hQ.ret (rvs1 (rv_t rfl)) (fun _ _ h => h) fun w hb hs hB hkd => ?_
       first
         | (have h := chkA_3 (a := A.d) (show nameB A.name = true by simpa using hc9) (show inB A.sport 1 5 = true by simpa using hc14) (show inB A.start 0 86399999999 = true by simpa using hc18) (show 20000 < A.ss.length ∨ 200 < A.ls.length ∨ 20 < A.ts.length by omega)
            refine ⟨?_, hb⟩
            rw [h]
            done)
      ·have phs33 := hs33; try simp only [decide_eq_true_eq, decide_eq_false_iff_not, Bool.not_eq_true', Bool.not_eq_false', Bool.not_true, Bool.not_false] at phs33
       refine ol_g rfl rfl hs33 ?_
       refine ol_r (r_fa (o' := 5) rfl fl39_5 rfl) rfl ?_
       refine ol_g rfl rfl hs33 ?_
       refine ol_r (r_ld (id := 1) rfl rfl rfl sc37) rfl ?_
       refine ol_g rfl rfl hs33 ?_
       refine ol_r (r_len rfl sl37) rfl ?_
       refine ol_g rfl rfl hs33 ?_
       refine ol_r (r_gtr rfl rfl) rfl ?_
       refine ol_r (r_pickF rfl hs33 rfl) rfl ?_
       refine ol_r (r_assign rfl) rfl ?_
       refine ol_nil (to_k0 (fun _ _ h => h) (hK9 _ _ _ _ _ ?_))
       clear hK9
       refine wp_condD rfl (fun hc22 => ?_) (fun hc22 => ?_)
       ·refine wp_seq' fun K12 hK12 => ?_
        refine wp_reg ?_
        refine ol_r (r_assign rfl) rfl ?_
        refine ol_nil (to_k0 (fun _ _ h => h) (hK12 _ _ _ _ _ ?_))
        clear hK12
        refine hQ.ret (rvs1 (rv_t rfl)) (fun _ _ h => h) fun w hb hs hB hkd => ?_
        first
          | (have h := chkA_3 (a := A.d) (show nameB A.name = true by simpa using hc9) (show inB A.sport 1 5 = true by simpa using hc14) (show inB A.start 0 86399999999 = true by simpa using hc18) (show 20000 < A.ss.length ∨ 200 < A.ls.length ∨ 20 < A.ts.length by omega)
             refine ⟨?_, hb⟩
             rw [h]
             done)
       ·refine wp_skip' (to_k0 (fun _ _ h => h) (hK2 _ _ _ _ _ ?_))
        clear hK2
        refine wp_seq' fun K13 hK13 => ?_
        refine wp_seq' fun K14 hK14 => ?_
        refine wp_reg ?_
        have hH : headA A.d := ⟨show nameB A.name = true by simpa using hc9, show inB A.sport 1 5 = true by simpa using hc14, show inB A.start 0 86399999999 = true by simpa using hc18, by show A.ss.length ≤ 20000; omega, by show A.ls.length ≤ 200; omega, by show A.ts.length ≤ 20; omega⟩
        have hst := inB_iff.1 hH.2.2.1
        simp only [ActV.d] at hst
        refine ol_r (r_fa (o' := 3) rfl fl39_3 rfl) rfl ?_
        refine ol_r (r_ld (id := 1) rfl rfl rfl sc35) rfl ?_
        refine ol_r (r_len rfl sl35) rfl ?_
        refine ol_r (r_move rfl) rfl ?_
        refine ol_nil (to_k0 (fun _ _ h => h) (hK14 _ _ _ _ _ ?_))
        clear hK14
        refine wp_block' ?_
        apply wp_loopM (σ := Nat) (fun s => s ≤ A.sn ∧ chkE (fS A.start) none A.ss = chkE (fS A.start) (ahead A.ss s) (A.ss.drop s) ∧ (∀ j y, j < s → A.ss[j]? = some y → 0 ≤ y.at_)) (fun s => [(42, .int .i64 s)]) [(1, _), (41, _)] (fun s => []) [(1, _)] (fun s => A.sn - s) (0)
        ·try dsimp only
         exact ⟨Nat.zero_le _, chkE_start _ _, fun j y h => by omega⟩
        ·exact (sub_cons rfl sub_nil)
        ·exact (sub_cons rfl (sub_cons rfl sub_nil))
        ·exact subH_nil
        ·exact (subH_same rfl subH_nil)
        ·rintro k ⟨hk, hP, hpos⟩
         intro K15 hK15
         refine wp_seq' fun K16 hK16 => ?_
         refine wp_reg ?_
         refine ol_r (r_lss rfl rfl) rfl ?_
         refine ol_nil (to_k0 (fun _ _ h => h) (hK16 _ _ _ _ _ ?_))
         clear hK16
         refine wp_seq' fun K17 hK17 => ?_
         refine wp_condD rfl (fun hc43 => ?_) (fun hc43 => ?_)
         ·refine wp_skip' (to_k0 (fun _ _ h => h) (hK17 _ _ _ _ _ ?_))
          clear hK17
          refine wp_seq' fun K18 hK18 => ?_
          refine wp_block' ?_
          refine wp_seq' fun K19 hK19 => ?_
          refine wp_reg ?_
          obtain ⟨x0, hx0⟩ : ∃ x, A.ss[k]? = some x := ⟨A.ss[k]'(by omega), List.getElem?_eq_getElem (by omega)⟩
          refine ol_r (r_move rfl) rfl ?_
          refine ol_r (r_assign rfl) rfl ?_
          refine ol_nil (to_k0 (fun _ _ h => h) (hK19 _ _ _ _ _ ?_))
          clear hK19
          refine wp_seq' fun K20 hK20 => ?_
          refine wp_reg ?_
          refine ol_r (r_lda (id := 1) (n := 6) rfl rfl rfl ag39) rfl ?_
          refine ol_r (r_move rfl) rfl ?_
          refine ol_call rfl rfl cb90 rfl (fun w1 hb1 hs1 hB1 => Calls.mono (ref2_sampleFault A k x0 _ (hA.at hb1 hB1) hx0 hst hpos) ?_)
          rintro e w2 ⟨rfl, hb2⟩
          refine After.below rfl hb1 hs1 hB1 hb2 ?_
          clear hb2 hB1 hs1 hb1 w2 w1
          refine ol_r (r_assign rfl) rfl ?_
          refine ol_nil (to_k0 (fun _ _ h => h) (hK20 _ _ _ _ _ ?_))
          clear hK20
          refine wp_seq' fun K21 hK21 => ?_
          refine wp_reg ?_
          refine ol_r (r_move rfl) rfl ?_
          refine ol_r (r_neq rfl rfl) rfl ?_
          refine ol_nil (to_k0 (fun _ _ h => h) (hK21 _ _ _ _ _ ?_))
          clear hK21
          refine wp_condD rfl (fun hc49 => ?_) (fun hc49 => ?_)
          ·refine wp_seq' fun K22 hK22 => ?_
           refine wp_reg ?_
           refine ol_r (r_move rfl) rfl ?_
           refine ol_r (r_assign rfl) rfl ?_
           refine ol_nil (to_k0 (fun _ _ h => h) (hK22 _ _ _ _ _ ?_))
           clear hK22
           refine hQ.ret (rvs1 (rv_t rfl)) (fun _ _ h => h) fun w hb hs hB hkd => ?_
           first
             | (have h := chkE_bad hP hx0 rfl hc49
                refine ⟨?_, hb⟩
                rw [(chkA_s hH (by show chkE (fS A.start) none A.ss ≠ 0; rw [h]; exact hc49)).trans h]
                done)
          ·refine wp_skip' (to_k0 (fun _ _ h => h) (hK18 _ _ _ _ _ ?_))
           clear hK18
           refine wp_reg ?_
           refine ol_r (r_add rfl rfl (by omega)) rfl ?_
           refine ol_r (r_move rfl) rfl ?_
           refine ol_nil (to_k0 (fun _ _ h => h) (hK15 (k + 1) _ _ ?_ ?_ (sub_cons rfl sub_nil) (sub_cons rfl (sub_cons rfl sub_nil)) (by exact subH_nil) (subH_same rfl subH_nil)))
           ·try dsimp only
            have hz := Decidable.not_not.1 hc49
            have ho := (fS_zero hz).1
            have h0 : 0 ≤ x0.at_ := by
              by_cases hk0 : (k : Int) = 0
              · rw [ordS_0 hk0] at ho
                simp at ho; omega
              · obtain ⟨y, hy⟩ : ∃ y, A.ss[((k : Int) - 1).toNat]? = some y := ⟨A.ss[((k : Int) - 1).toNat]'(by omega), List.getElem?_eq_getElem (by omega)⟩
                rw [ordS_1 (by omega) hy] at ho
                have := hpos _ _ (by omega) hy
                simp at ho; omega
            exact ⟨by omega, chkE_next hP hx0 hz, pos_next hpos hx0 h0⟩
           ·try dsimp only
            omega
         ·refine wp_exit' (to_k0 (fun _ _ h => h) (hK13 _ _ _ _ _ ?_))
          clear hK13
          refine wp_seq' fun K23 hK23 => ?_
          refine wp_seq' fun K24 hK24 => ?_
          refine wp_reg ?_
          have hS0 := chkE_end hP (by omega)
          refine ol_r (r_fa (o' := 4) rfl fl39_4 rfl) rfl ?_
          refine ol_r (r_ld (id := 1) rfl rfl rfl sc36) rfl ?_
          refine ol_r (r_len rfl sl36) rfl ?_
          refine ol_r (r_move rfl) rfl ?_
          refine ol_nil (to_k0 (fun _ _ h => h) (hK24 _ _ _ _ _ ?_))
          clear hK24
          refine wp_block' ?_
          apply wp_loopM (σ := Nat) (fun s => s ≤ A.ln ∧ chkE (fL (spanL A.ss)) none A.ls = chkE (fL (spanL A.ss)) (ahead A.ls s) (A.ls.drop s)) (fun s => [(55, .int .i64 s)]) [(1, _), (54, _)] (fun s => []) [(1, _)] (fun s => A.ln - s) (0)
          ·try dsimp only
           exact ⟨Nat.zero_le _, chkE_start _ _⟩
          ·exact (sub_cons rfl sub_nil)
          ·exact (sub_cons rfl (sub_cons rfl sub_nil))
          ·exact subH_nil
          ·exact (subH_same rfl subH_nil)
          ·rintro k ⟨hk, hPl⟩
           intro K25 hK25
           refine wp_seq' fun K26 hK26 => ?_
           refine wp_reg ?_
           refine ol_r (r_lss rfl rfl) rfl ?_
           refine ol_nil (to_k0 (fun _ _ h => h) (hK26 _ _ _ _ _ ?_))
           clear hK26
           refine wp_seq' fun K27 hK27 => ?_
           refine wp_condD rfl (fun hc56 => ?_) (fun hc56 => ?_)
           ·refine wp_skip' (to_k0 (fun _ _ h => h) (hK27 _ _ _ _ _ ?_))
            clear hK27
            refine wp_seq' fun K28 hK28 => ?_
            refine wp_block' ?_
            refine wp_seq' fun K29 hK29 => ?_
            refine wp_reg ?_
            obtain ⟨x0, hx0⟩ : ∃ x, A.ls[k]? = some x := ⟨A.ls[k]'(by omega), List.getElem?_eq_getElem (by omega)⟩
            refine ol_r (r_move rfl) rfl ?_
            refine ol_r (r_assign rfl) rfl ?_
            refine ol_nil (to_k0 (fun _ _ h => h) (hK29 _ _ _ _ _ ?_))
            clear hK29
            refine wp_seq' fun K30 hK30 => ?_
            refine wp_reg ?_
            refine ol_r (r_lda (id := 1) (n := 6) rfl rfl rfl ag39) rfl ?_
            refine ol_r (r_move rfl) rfl ?_
            refine ol_call rfl rfl cb91 rfl (fun w1 hb1 hs1 hB1 => Calls.mono (ref2_lapFault A k x0 _ (hA.at hb1 hB1) hx0) ?_)
            rintro e w2 ⟨rfl, hb2⟩
            refine After.below rfl hb1 hs1 hB1 hb2 ?_
            clear hb2 hB1 hs1 hb1 w2 w1
            refine ol_r (r_assign rfl) rfl ?_
            refine ol_nil (to_k0 (fun _ _ h => h) (hK30 _ _ _ _ _ ?_))
            clear hK30
            refine wp_seq' fun K31 hK31 => ?_
            refine wp_reg ?_
            refine ol_r (r_move rfl) rfl ?_
            refine ol_r (r_neq rfl rfl) rfl ?_
            refine ol_nil (to_k0 (fun _ _ h => h) (hK31 _ _ _ _ _ ?_))
            clear hK31
            refine wp_condD rfl (fun hc62 => ?_) (fun hc62 => ?_)
            ·refine wp_seq' fun K32 hK32 => ?_
             refine wp_reg ?_
             refine ol_r (r_move rfl) rfl ?_
             refine ol_r (r_assign rfl) rfl ?_
             refine ol_nil (to_k0 (fun _ _ h => h) (hK32 _ _ _ _ _ ?_))
             clear hK32
             refine hQ.ret (rvs1 (rv_t rfl)) (fun _ _ h => h) fun w hb hs hB hkd => ?_
             first
               | (have h := chkE_bad hPl hx0 rfl hc62
                  refine ⟨?_, hb⟩
                  rw [(chkA_l hH hS0 (by show chkE (fL (spanL A.ss)) none A.ls ≠ 0; rw [h]; exact hc62)).trans h]
                  done)
            ·refine wp_skip' (to_k0 (fun _ _ h => h) (hK28 _ _ _ _ _ ?_))
             clear hK28
             refine wp_reg ?_
             refine ol_r (r_add rfl rfl (by omega)) rfl ?_
             refine ol_r (r_move rfl) rfl ?_
             refine ol_nil (to_k0 (fun _ _ h => h) (hK25 (k + 1) _ _ ?_ ?_ (sub_cons rfl sub_nil) (sub_cons rfl (sub_cons rfl sub_nil)) (by exact subH_nil) (subH_same rfl subH_nil)))
             ·try dsimp only
              exact ⟨by omega, chkE_next hPl hx0 (Decidable.not_not.1 hc62)⟩
             ·try dsimp only
              omega
           ·refine wp_exit' (to_k0 (fun _ _ h => h) (hK23 _ _ _ _ _ ?_))
            clear hK23
            refine wp_seq' fun K33 hK33 => ?_
            refine wp_seq' fun K34 hK34 => ?_
            refine wp_reg ?_
            have hL0 := chkE_end hPl (by omega)
            refine ol_r (r_fa (o' := 5) rfl fl39_5 rfl) rfl ?_
            refine ol_r (r_ld (id := 1) rfl rfl rfl sc37) rfl ?_
            refine ol_r (r_len rfl sl37) rfl ?_
            refine ol_r (r_move rfl) rfl ?_
            refine ol_nil (to_k0 (fun _ _ h => h) (hK34 _ _ _ _ _ ?_))
            clear hK34
            refine wp_block' ?_
            apply wp_loopM (σ := Nat) (fun s => s ≤ A.tn ∧ chkE fT none A.ts = chkE fT (ahead A.ts s) (A.ts.drop s)) (fun s => [(68, .int .i64 s)]) [(1, _), (66, _), (67, _)] (fun s => []) [(1, _)] (fun s => A.tn - s) (0)
            ·try dsimp only
             exact ⟨Nat.zero_le _, chkE_start _ _⟩
            ·exact (sub_cons rfl sub_nil)
            ·exact (sub_cons rfl (sub_cons rfl (sub_cons rfl sub_nil)))
            ·exact subH_nil
            ·exact (subH_same rfl subH_nil)
            ·rintro k ⟨hk, hPt⟩
             intro K35 hK35
             refine wp_seq' fun K36 hK36 => ?_
             refine wp_reg ?_
             refine ol_r (r_lss rfl rfl) rfl ?_
             refine ol_nil (to_k0 (fun _ _ h => h) (hK36 _ _ _ _ _ ?_))
             clear hK36
             refine wp_seq' fun K37 hK37 => ?_
             refine wp_condD rfl (fun hc69 => ?_) (fun hc69 => ?_)
             ·refine wp_skip' (to_k0 (fun _ _ h => h) (hK37 _ _ _ _ _ ?_))
              clear hK37
              refine wp_seq' fun K38 hK38 => ?_
              refine wp_block' ?_
              refine wp_seq' fun K39 hK39 => ?_
              refine wp_reg ?_
              refine ol_r (r_move rfl) rfl ?_
              refine ol_ixr hA.t rfl rfl sl37 (by omega) rfl fun x71 hx71 => ?_
              try simp only [Int.toNat_natCast] at hx71
              refine ol_r (r_ldw rfl (fun w1 hb1 hs1 hB1 => Rd.loads hA.t ty9 hx71 hb1)) rfl ?_
              refine ol_r (r_assign rfl) rfl ?_
              refine ol_r (r_assign rfl) rfl ?_
              refine ol_nil (to_k0 (fun _ _ h => h) (hK39 _ _ _ _ _ ?_))
              clear hK39
              refine wp_seq' fun K40 hK40 => ?_
              refine wp_seq' fun K41 hK41 => ?_
              refine wp_reg ?_
              refine ol_r (r_move rfl) rfl ?_
              refine ol_call rfl rfl cb88 rfl (fun w1 hb1 hs1 hB1 => Calls.mono (ref2_IsName x71 _ (hA.tm _ (List.mem_of_getElem? hx71))) ?_)
              rintro e w2 ⟨rfl, hb2⟩
              refine After.below rfl hb1 hs1 hB1 hb2 ?_
              clear hb2 hB1 hs1 hb1 w2 w1
              refine ol_r (r_not rfl) rfl ?_
              refine ol_nil (to_k0 (fun _ _ h => h) (hK41 _ _ _ _ _ ?_))
              clear hK41
              refine wp_condNB rfl (fun hc75 => ?_) (fun hc75 => ?_)
              ·refine wp_seq' fun K42 hK42 => ?_
               refine wp_reg ?_
               refine ol_r (r_assign rfl) rfl ?_
               refine ol_nil (to_k0 (fun _ _ h => h) (hK42 _ _ _ _ _ ?_))
               clear hK42
               refine hQ.ret (rvs1 (rv_t rfl)) (fun _ _ h => h) fun w hb hs hB hkd => ?_
               first
                 | (have h := chkE_bad hPt hx71 (fT_8 (by simpa using hc75)) (by simp)
                    refine ⟨?_, hb⟩
                    rw [(chkA_t hH hS0 hL0).trans h]
                    done)
              ·refine wp_skip' (to_k0 (fun _ _ h => h) (hK40 _ _ _ _ _ ?_))
               clear hK40
               refine wp_seq' fun K43 hK43 => ?_
               refine wp_reg ?_
               refine ol_r (r_move rfl) rfl ?_
               refine ol_r (r_gtr rfl rfl) rfl ?_
               refine ol_r (r_move rfl) rfl ?_
               refine ol_split (d := 78) rfl (fun hs78 => ?_) (fun hs78 => ?_)
               ·have phs78 := hs78; try simp only [decide_eq_true_eq, decide_eq_false_iff_not, Bool.not_eq_true', Bool.not_eq_false', Bool.not_true, Bool.not_false] at phs78
                refine ol_g rfl rfl hs78 ?_
                refine ol_r (r_move rfl) rfl ?_
                refine ol_g rfl rfl hs78 ?_
                refine ol_r (r_fa (o' := 5) rfl fl39_5 rfl) rfl ?_
                refine ol_g rfl rfl hs78 ?_
                refine ol_r (r_ld (id := 1) rfl rfl rfl sc37) rfl ?_
                refine ol_g rfl rfl hs78 ?_
                refine ol_r (r_move rfl) rfl ?_
                refine ol_g rfl rfl hs78 ?_
                refine ol_r (r_sub rfl rfl (by omega)) rfl ?_
                refine ol_g rfl rfl hs78 ?_
                refine ol_ixr hA.t rfl rfl sl37 (by omega) rfl fun x84 hx84 => ?_
                try simp only [Int.toNat_natCast] at hx84
                refine ol_g rfl rfl hs78 ?_
                refine ol_r (r_ldw rfl (fun w1 hb1 hs1 hB1 => Rd.loads hA.t ty9 hx84 hb1)) rfl ?_
                refine ol_g rfl rfl hs78 ?_
                refine ol_r (r_sleq rfl rfl) rfl ?_
                refine ol_r (r_pickT rfl hs78 rfl) rfl ?_
                refine ol_nil (to_k0 (fun _ _ h => h) (hK43 _ _ _ _ _ ?_))
                clear hK43
                refine wp_cond' rfl (fun hc87 => ?_) (fun hc87 => ?_)
                ·refine wp_seq' fun K44 hK44 => ?_
                 refine wp_reg ?_
                 refine ol_r (r_assign rfl) rfl ?_
                 refine ol_nil (to_k0 (fun _ _ h => h) (hK44 _ _ _ _ _ ?_))
                 clear hK44
                 refine hQ.ret (rvs1 (rv_t rfl)) (fun _ _ h => h) fun w hb hs hB hkd => ?_
                 first
                   | (have hc : sLe x71 x84 = true := hc87
                      have h := chkE_bad hPt hx71 (fT_10 (by simpa using hc75) (by rw [ordT_1 (by omega) hx84, hc])) (by simp)
                      refine ⟨?_, hb⟩
                      rw [(chkA_t hH hS0 hL0).trans h]
                      done)
                ·refine wp_skip' (to_k0 (fun _ _ h => h) (hK38 _ _ _ _ _ ?_))
                 clear hK38
                 refine wp_reg ?_
                 refine ol_r (r_add rfl rfl (by omega)) rfl ?_
                 refine ol_r (r_move rfl) rfl ?_
                 refine ol_nil (to_k0 (fun _ _ h => h) (hK35 (k + 1) _ _ ?_ ?_ (sub_cons rfl sub_nil) (sub_cons rfl (sub_cons rfl (sub_cons rfl sub_nil))) (by exact subH_nil) (subH_same rfl subH_nil)))
                 ·try dsimp only
                  first
                    | (have ho := ordT_1 (ts := A.ts) (k := k) (x := x71) (by omega) hx84
                       have hc : sLe x71 x84 = false := hc87
                       rw [hc] at ho
                       exact ⟨by omega, chkE_next hPt hx71 (fT_0 (by simpa using hc75) ho)⟩)
                 ·try dsimp only
                  omega
               ·have phs78 := hs78; try simp only [decide_eq_true_eq, decide_eq_false_iff_not, Bool.not_eq_true', Bool.not_eq_false', Bool.not_true, Bool.not_false] at phs78
                refine ol_s rfl rfl hs78 rfl ?_
                refine ol_s rfl rfl hs78 rfl ?_
                refine ol_s rfl rfl hs78 rfl ?_
                refine ol_s rfl rfl hs78 rfl ?_
                refine ol_s rfl rfl hs78 rfl ?_
                refine ol_s rfl rfl hs78 rfl ?_
                refine ol_s rfl rfl hs78 rfl ?_
                refine ol_s rfl rfl hs78 rfl ?_
                refine ol_r (r_pickF rfl hs78 rfl) rfl ?_
                refine ol_nil (to_k0 (fun _ _ h => h) (hK43 _ _ _ _ _ ?_))
                clear hK43
                refine wp_condF rfl ?_
                refine wp_skip' (to_k0 (fun _ _ h => h) (hK38 _ _ _ _ _ ?_))
                clear hK38
                refine wp_reg ?_
                refine ol_r (r_add rfl rfl (by omega)) rfl ?_
                refine ol_r (r_move rfl) rfl ?_
                refine ol_nil (to_k0 (fun _ _ h => h) (hK35 (k + 1) _ _ ?_ ?_ (sub_cons rfl sub_nil) (sub_cons rfl (sub_cons rfl (sub_cons rfl sub_nil))) (by exact subH_nil) (subH_same rfl subH_nil)))
                ·try dsimp only
                 first
                   | (have ho := ordT_0 (ts := A.ts) (k := k) (x := x71) (by omega)
                      exact ⟨by omega, chkE_next hPt hx71 (fT_0 (by simpa using hc75) ho)⟩)
                ·try dsimp only
                 omega
             ·refine wp_exit' (to_k0 (fun _ _ h => h) (hK33 _ _ _ _ _ ?_))
              clear hK33
              refine wp_seq' fun K45 hK45 => ?_
              refine wp_reg ?_
              refine ol_r (r_assign rfl) rfl ?_
              refine ol_nil (to_k0 (fun _ _ h => h) (hK45 _ _ _ _ _ ?_))
              clear hK45
              refine hQ.ret (rvs1 (rv_t rfl)) (fun _ _ h => h) fun w hb hs hB hkd => ?_
              first
                | (have h := (chkA_t hH hS0 hL0).trans (chkE_end hPt (by omega))
                   refine ⟨?_, hb⟩
                   rw [h]
                   done)
end Go.Proofs.Ytjflbnbofedlkaa

/-
  More rules: structs within structs.
-/

namespace Go.Proofs.Ytjflbnbofedlkaa.Hx
open Go Go.RowKit
set_option linter.unusedVariables false
set_option linter.unusedSimpArgs false
section
variable {P : Program} {B : Nat} {w0 : World} {H : HL} {α : Type} {E : Enc α} {a : Option Addr} {n cap : Nat} {xs : List α}
theorem Rd.loadsFA {w : World} {t : TypeId} {x : α} {i o m : Nat} {us : List Value} (h : Rd E B w0 a n cap xs) (hT : Aggr P t m) (hx : xs[i]? = some x) (hb : Below B w0 w) (hu : ((E.cells x).drop o).take m = us) (hm : us.length = m) :
    Loads P w t ((a.map (·.add (i * E.size))).map (·.add o)) (.agg us.toArray) := by
  obtain ⟨b, off, rfl, h2, h3⟩ := (h.below hb).cell i x hx
  refine ⟨_, rfl, ?_⟩
  simp only [add_none]
  refine run_loadVar_agg (by rw [hm]; exact hT) fun j u hj => ?_
  rw [add_none, Nat.add_assoc, Nat.add_assoc, ← Nat.add_assoc]
  refine h3 (o + j) u ?_
  subst hu
  rw [List.getElem?_take] at hj
  split at hj
  · rw [List.getElem?_drop] at hj; exact hj
  · cases hj
theorem ld_ownFA {w : World} {t e : TypeId} {id size i o m : Nat} {x : α} {us : List Value} (hs : Sat B w H) (hH : look H id = some (.row a n cap (E.enc xs) e size)) (hz : size = E.size) (hT : Aggr P t m) (hx : xs[i]? = some x) (hu : ((E.cells x).drop o).take m = us) (hm : us.length = m) : Loads P w t ((a.map (·.add (i * E.size))).map (·.add o)) (.agg us.toArray) :=
  (hs.rd hH hz).loadsFA hT hx (Below.refl _ _) hu hm
end
section
variable {P : Program} {N : Fr} {B : Nat} {w0 : World} {Q : Exit → Act → World → Prop} {al : AL} {H : HL} {ops : Array Oper} {Ss : List (Nat × HL)} {n : Nat} {listed : Array Bool}
theorem aq_three {i j l : Nat} {o o' o2 : Oper} (hr : Region.ready .any ops listed = [i, j, l]) (ho : ops[i]? = some o) (ho' : ops[j]? = some o') (ho2 : ops[l]? = some o2)
    (h : Next P N B w0 ops Q Ss n listed al H i o) (h' : Next P N B w0 ops Q Ss n listed al H j o') (h2 : Next P N B w0 ops Q Ss n listed al H l o2) : AQ P N B w0 ops Q Ss (n + 1) listed al H := by
  intro hsh a w hst hS
  refine ⟨fun h0 => (by rw [hr] at h0; cases h0), fun k hk => ?_⟩
  have hk' := hk
  rw [hr] at hk'
  rcases (by simpa using hk' : k = i ∨ k = j ∨ k = l) with rfl | rfl | rfl
  · exact aq_op ho (hsh.set hk) h a w hst
  · exact aq_op ho' (hsh.set hk) h' a w hst
  · exact aq_op ho2 (hsh.set hk) h2 a w hst
end
section
variable {P : Program}
/-- The fields from number i on lie one behind the other, and the values fit them; fields that are structs, too. -/
def okFG (P : Program) : Nat → List Field → Nat → List Value → List Value → Bool
  | 0, _, _, _, _ => false
  | _ + 1, [], _, [], [] => true
  | _ + 1, [], _, _, _ => false
  | k + 1, f :: fs, i, us, vs => !(f.name == "_") && Nat.beq f.offset i && (match P.underlying f.type with
    | some (.struct gs) => (match P.info? f.type with
      | some inf => Nat.ble inf.size us.length && Nat.ble inf.size vs.length && !P.stoodInHeld f.type && okFG P k gs.toList 0 (us.take inf.size) (vs.take inf.size) && okFG P k fs (i + inf.size) (us.drop inf.size) (vs.drop inf.size)
      | none => false)
    | some (.int _) => (match us, vs with | .int k1 _ :: us, .int k2 _ :: vs => decide (k1 = k2) && okFG P k fs (i + 1) us vs | _, _ => false)
    | some .bool => (match us, vs with | .bool _ :: us, .bool _ :: vs => okFG P k fs (i + 1) us vs | _, _ => false)
    | some .string => (match us, vs with | .string _ :: us, .string _ :: vs => okFG P k fs (i + 1) us vs | _, _ => false)
    | _ => false)
theorem eqs_app : ∀ (us us' vs vs' : List Value), us.length = vs.length → eqs (us ++ us') (vs ++ vs') = (eqs us vs && eqs us' vs')
  | [], us', [], vs', _ => by simp [eqs]
  | u :: us, us', v :: vs, vs', h => by
    simp only [List.cons_append, eqs]
    rw [eqs_app us us' vs vs' (by simpa using h), Bool.and_assoc]
theorem run_eqFG {w : World} : ∀ (k d : Nat) {xs ys : Array Value} {fs : List Field} {i : Nat} {us vs : List Value}, k ≤ d → okFG P k fs i us vs = true → (∀ j u, us[j]? = some u → xs[i + j]? = some u) → (∀ j v, vs[j]? = some v → ys[i + j]? = some v) →
    (Op.eqFields (d + 1) xs ys fs).run P w = .ok (eqs us vs) w
  | 0, _, _, _, _, _, _, _, _, h, _, _ => by simp [okFG] at h
  | k + 1, d, xs, ys, [], i, us, vs, hd, h, h1, h2 => by
    cases us with
    | nil => cases vs with
      | nil => simp [Op.eqFields, eqs]
      | cons v vs => simp [okFG] at h
    | cons u us => simp [okFG] at h
  | k + 1, d, xs, ys, f :: fs, i, us, vs, hd, h, h1, h2 => by
    unfold okFG at h
    rw [Bool.and_eq_true, Bool.and_eq_true] at h
    obtain ⟨⟨q1, q2⟩, q3⟩ := h
    have hoff : f.offset = i := Nat.eq_of_beq_eq_true q2
    have hname : f.name ≠ "_" := by simpa using q1
    have step : ∀ (u v : Value) (us' vs' : List Value) (m : Nat) (b : Bool), (part f.type xs f.offset).run P w = .ok u w → (part f.type ys f.offset).run P w = .ok v w → (Op.equalIn (d + 1) f.type u v).run P w = .ok b w →
        okFG P k fs (i + m) us' vs' = true → (∀ j u, us'[j]? = some u → xs[i + m + j]? = some u) → (∀ j v, vs'[j]? = some v → ys[i + m + j]? = some v) → eqs us vs = (b && eqs us' vs') → (Op.eqFields (d + 1) xs ys (f :: fs)).run P w = .ok (eqs us vs) w := by
      intro u v us' vs' m b p1 p2 p3 hr r1 r2 he
      have ih := run_eqFG k d (xs := xs) (ys := ys) (w := w) (by omega) hr r1 r2
      unfold Op.eqFields
      rw [if_pos hname]
      simp only [Sem.run_bind, p1, p2, p3, Result.andThen_ok]
      cases hb : b with
      | false => rw [he, hb]; simp
      | true => rw [he, hb]; simp [ih]
    have one : ∀ (dd : TypeDesc) (u v : Value) (us' vs' : List Value), P.underlying f.type = some dd → (match dd with | .int _ | .bool | .string => true | _ => false) = true → us = u :: us' → vs = v :: vs' → (Op.equalIn (d + 1) f.type u v).run P w = .ok (eqV u v) w →
        okFG P k fs (i + 1) us' vs' = true → (Op.eqFields (d + 1) xs ys (f :: fs)).run P w = .ok (eqs us vs) w := by
      intro dd u v us' vs' hdd hp hus hvs p3 hr
      subst hus; subst hvs
      have hagg : (isAgg f.type).run P w = .ok false w := by
        simp only [isAgg, Sem.run_bind, run_underlying hdd, Result.andThen_ok]
        cases dd <;> first | rfl | (simp at hp)
      have hu : xs[i]? = some u := by simpa using h1 0 u rfl
      have hv : ys[i]? = some v := by simpa using h2 0 v rfl
      refine step u v us' vs' 1 (eqV u v) (by rw [hoff]; simp [part, hagg, hu]) (by rw [hoff]; simp [part, hagg, hv]) p3 hr ?_ ?_ rfl
      · intro j u' hj; have := h1 (j + 1) u' (by simpa using hj); rwa [show i + (j + 1) = i + 1 + j from by omega] at this
      · intro j v' hj; have := h2 (j + 1) v' (by simpa using hj); rwa [show i + (j + 1) = i + 1 + j from by omega] at this
    split at q3
    · rename_i gs hgs
      split at q3
      · rename_i inf hinf
        rw [Bool.and_eq_true, Bool.and_eq_true, Bool.and_eq_true, Bool.and_eq_true] at q3
        obtain ⟨⟨⟨⟨a1, a2⟩, a3⟩, a4⟩, a5⟩ := q3
        have l1 : inf.size ≤ us.length := by simpa using a1
        have l2 : inf.size ≤ vs.length := by simpa using a2
        have hagg : (isAgg f.type).run P w = .ok true w := by simp [isAgg, Sem.run_bind, run_underlying hgs, Result.andThen_ok]
        have hsz : (sizeOf f.type).run P w = .ok inf.size w := by simp [sizeOf, typeInfo, hinf]
        have hf : P.fieldsOf f.type = gs := by simp [Program.fieldsOf, hgs]
        have cut : ∀ (zs : Array Value) (ws : List Value), inf.size ≤ ws.length → (∀ j u, ws[j]? = some u → zs[i + j]? = some u) → ∀ j u, (ws.take inf.size)[j]? = some u → (zs.extract i (i + inf.size))[0 + j]? = some u := by
          intro zs ws hl hz j u hj
          rw [List.getElem?_take] at hj
          split at hj
          · rename_i hlt
            have h3 := hz j u hj
            have h4 := (Array.getElem?_eq_some_iff.1 h3).1
            rw [Nat.zero_add, Array.getElem?_extract, if_pos (by omega)]
            exact h3
          · cases hj
        obtain ⟨d', rfl⟩ : ∃ d', d = d' + 1 := ⟨d - 1, by omega⟩
        have inner : (Op.equalIn (d' + 1 + 1) f.type (.agg (xs.extract i (i + inf.size))) (.agg (ys.extract i (i + inf.size)))).run P w = .ok (eqs (us.take inf.size) (vs.take inf.size)) w := by
          rw [run_equalIn_struct (w := w) (d' + 1) f.type _ _ (by rw [hf]; exact hgs) (by simpa using a3), hf]
          exact run_eqFG k d' (by omega) a4 (cut xs us l1 h1) (cut ys vs l2 h2)
        refine step _ _ (us.drop inf.size) (vs.drop inf.size) inf.size _ (by rw [hoff]; simp [part, hagg, hsz]) (by rw [hoff]; simp [part, hagg, hsz]) inner a5 ?_ ?_ ?_
        · intro j u hj; rw [List.getElem?_drop] at hj; have := h1 _ u hj; rwa [← Nat.add_assoc] at this
        · intro j v hj; rw [List.getElem?_drop] at hj; have := h2 _ v hj; rwa [← Nat.add_assoc] at this
        · rw [← eqs_app _ _ _ _ (by simp; omega), List.take_append_drop, List.take_append_drop]
      · cases q3
    · rename_i kk hdd
      split at q3
      · rename_i k1 a us k2 b vs
        rw [Bool.and_eq_true] at q3
        have hk : k1 = k2 := by simpa using q3.1
        subst hk
        exact one _ _ _ _ _ hdd rfl rfl rfl (by rw [run_equalIn_int w d f.type k1 kk a b hdd]; rfl) q3.2
      · cases q3
    · rename_i hdd
      split at q3
      · rename_i a us b vs
        exact one _ _ _ _ _ hdd rfl rfl rfl (run_equalIn_bool' w d f.type a b hdd) q3
      · cases q3
    · rename_i hdd
      split at q3
      · rename_i a us b vs
        exact one _ _ _ _ _ hdd rfl rfl rfl (by simp [Op.equalIn, run_underlying hdd, eqV]) q3
      · cases q3
    · cases q3
def okSG (P : Program) (t : TypeId) (us vs : List Value) : Bool := match P.underlying t with | some (.struct fs) => okFG P 50 fs.toList 0 us vs | _ => false
theorem run_eqsG {t : TypeId} {us vs : List Value} (h : okSG P t us vs = true) (hp : P.stoodInHeld t = false) (w : World) : (Op.equalIn 10000 t (.agg us.toArray) (.agg vs.toArray)).run P w = .ok (eqs us vs) w := by
  unfold okSG at h
  split at h
  · rename_i fs hu
    have hf : P.fieldsOf t = fs := by simp [Program.fieldsOf, hu]
    rw [show (10000 : Nat) = 9999 + 1 from rfl, run_equalIn_struct (w := w) 9999 t _ _ (by rw [hf]; exact hu) hp, hf]
    exact run_eqFG 50 9998 (by omega) h (fun j u hj => by simpa using hj) (fun j u hj => by simpa using hj)
  · simp at h
end
end Go.Proofs.Ytjflbnbofedlkaa.Hx

/-
  Segments: program and reference.
-/




namespace Go.Proofs.Ytjflbnbofedlkaa
open Go Go.RowKit Hx
set_option linter.unusedVariables false
set_option linter.unusedSimpArgs false
set_option maxRecDepth 8000
def encGate : Enc GateR := { size := 4, cells := fun x => [.int .i64 x.ax, .int .i64 x.ay, .int .i64 x.bx, .int .i64 x.by_], val := fun x => .agg #[.int .i64 x.ax, .int .i64 x.ay, .int .i64 x.bx, .int .i64 x.by_], len := fun _ => rfl, ones := fun _ u h => by simp at h; rcases h with rfl | rfl | rfl | rfl <;> rfl, pos := by decide, vc := fun _ => rfl }
theorem ty79 : Ty Try.prog 79 encGate := .inr ⟨ag79, fun _ => rfl⟩
theorem match_in (n a b : Int) (w : World) : Calls Try.prog 45 #[.int .i64 n, .int .i64 a, .int .i64 b] w fun e w' => e = .returned (.bool (inB n a b)) ∧ Below w.heap.size w w' := by
  refine enterQ (N := 15) (C := fun _ => True) (H := []) (B := w.heap.size) (args := [_, _, _]) Try.func45 rfl rfl rfl (Nat.le_refl _) (Sat.nil _ _) fun Q hQ => ?_
  refine wp_seq' fun K1 hK1 => ?_
  refine wp_reg ?_
  refine ol_r (r_assign rfl) rfl ?_
  refine ol_nil (to_k0 (fun _ _ h => h) (hK1 _ _ _ _ _ ?_))
  clear hK1
  refine wp_seq' fun K2 hK2 => ?_
  refine wp_reg ?_
  refine ol_r (r_move rfl) rfl ?_
  refine ol_r (r_move rfl) rfl ?_
  refine ol_r (r_geq rfl rfl) rfl ?_
  refine ol_r (r_move rfl) rfl ?_
  refine ol_split (d := 10) rfl (fun hs10 => ?_) (fun hs10 => ?_)
  ·have phs10 := hs10; try simp only [decide_eq_true_eq, decide_eq_false_iff_not, Bool.not_eq_true', Bool.not_eq_false', Bool.not_true, Bool.not_false] at phs10
   refine ol_g rfl rfl hs10 ?_
   refine ol_r (r_move rfl) rfl ?_
   refine ol_g rfl rfl hs10 ?_
   refine ol_r (r_move rfl) rfl ?_
   refine ol_g rfl rfl hs10 ?_
   refine ol_r (r_leq rfl rfl) rfl ?_
   refine ol_r (r_pickT rfl hs10 rfl) rfl ?_
   refine ol_r (r_assign rfl) rfl ?_
   refine ol_nil (to_k0 (fun _ _ h => h) (hK2 _ _ _ _ _ ?_))
   clear hK2
   refine hQ.ret (rvs1 (rv_t rfl)) (fun _ _ h => h) fun w hb hs hB hkd => ?_
   exact ⟨by simp [inB, hs10], hb⟩
  ·have phs10 := hs10; try simp only [decide_eq_true_eq, decide_eq_false_iff_not, Bool.not_eq_true', Bool.not_eq_false', Bool.not_true, Bool.not_false] at phs10
   refine ol_s rfl rfl hs10 rfl ?_
   refine ol_s rfl rfl hs10 rfl ?_
   refine ol_s rfl rfl hs10 rfl ?_
   refine ol_r (r_pickF rfl hs10 rfl) rfl ?_
   refine ol_r (r_assign rfl) rfl ?_
   refine ol_nil (to_k0 (fun _ _ h => h) (hK2 _ _ _ _ _ ?_))
   clear hK2
   refine hQ.ret (rvs1 (rv_t rfl)) (fun _ _ h => h) fun w hb hs hB hkd => ?_
   exact ⟨by simp [inB, hs10], hb⟩
theorem ref5_outside (n a b : Int) (w : World) : Calls Try.prog 47 #[.int .i64 n, .int .i64 a, .int .i64 b] w fun e w' => e = .returned (.bool (!inB n a b)) ∧ Below w.heap.size w w' := by
  refine enterQ (N := 15) (C := fun _ => True) (H := []) (B := w.heap.size) (args := [_, _, _]) Try.func47 rfl rfl rfl (Nat.le_refl _) (Sat.nil _ _) fun Q hQ => ?_
  refine wp_seq' fun K1 hK1 => ?_
  refine wp_reg ?_
  refine ol_r (r_assign rfl) rfl ?_
  refine ol_nil (to_k0 (fun _ _ h => h) (hK1 _ _ _ _ _ ?_))
  clear hK1
  refine wp_seq' fun K2 hK2 => ?_
  refine wp_reg ?_
  refine ol_r (r_move rfl) rfl ?_
  refine ol_r (r_move rfl) rfl ?_
  refine ol_r (r_lss rfl rfl) rfl ?_
  refine ol_r (r_move rfl) rfl ?_
  refine ol_split (d := 10) rfl (fun hs10 => ?_) (fun hs10 => ?_)
  ·have phs10 := hs10; try simp only [decide_eq_true_eq, decide_eq_false_iff_not, Bool.not_eq_true', Bool.not_eq_false', Bool.not_true, Bool.not_false] at phs10
   refine ol_s rfl rfl hs10 rfl ?_
   refine ol_s rfl rfl hs10 rfl ?_
   refine ol_s rfl rfl hs10 rfl ?_
   refine ol_r (r_pickT rfl hs10 rfl) rfl ?_
   refine ol_r (r_assign rfl) rfl ?_
   refine ol_nil (to_k0 (fun _ _ h => h) (hK2 _ _ _ _ _ ?_))
   clear hK2
   refine hQ.ret (rvs1 (rv_t rfl)) (fun _ _ h => h) fun w hb hs hB hkd => ?_
   exact ⟨by rw [inB_not.2 (.inl (by simpa using phs10))]; rfl, hb⟩
  ·have phs10 := hs10; try simp only [decide_eq_true_eq, decide_eq_false_iff_not, Bool.not_eq_true', Bool.not_eq_false', Bool.not_true, Bool.not_false] at phs10
   refine ol_g rfl rfl hs10 ?_
   refine ol_r (r_move rfl) rfl ?_
   refine ol_g rfl rfl hs10 ?_
   refine ol_r (r_move rfl) rfl ?_
   refine ol_g rfl rfl hs10 ?_
   refine ol_r (r_gtr rfl rfl) rfl ?_
   refine ol_r (r_pickF rfl hs10 rfl) rfl ?_
   refine ol_r (r_assign rfl) rfl ?_
   refine ol_nil (to_k0 (fun _ _ h => h) (hK2 _ _ _ _ _ ?_))
   clear hK2
   refine hQ.ret (rvs1 (rv_t rfl)) (fun _ _ h => h) fun w hb hs hB hkd => ?_
   have h2 : decide (b < n) = !inB n a b := by
     by_cases h : n ≤ b
     · rw [inB_iff.2 ⟨by omega, h⟩, decide_eq_false (by omega)]; rfl
     · rw [inB_not.2 (.inr (by omega)), decide_eq_true (by omega)]; rfl
   exact ⟨by rw [h2], hb⟩
theorem ref1_isDigit (c : Int) (w : World) : Calls Try.prog 79 #[.int .u8 c] w fun e w' => e = .returned (.bool (decide (48 ≤ c ∧ c ≤ 57))) ∧ Below w.heap.size w w' := by
  refine enterQ (N := 9) (C := fun _ => True) (H := []) (B := w.heap.size) (args := [_]) Try.func79 rfl rfl rfl (Nat.le_refl _) (Sat.nil _ _) fun Q hQ => ?_
  refine wp_seq' fun K1 hK1 => ?_
  refine wp_reg ?_
  refine ol_r (r_assign rfl) rfl ?_
  refine ol_nil (to_k0 (fun _ _ h => h) (hK1 _ _ _ _ _ ?_))
  clear hK1
  refine wp_seq' fun K2 hK2 => ?_
  refine wp_reg ?_
  refine ol_r (r_move rfl) rfl ?_
  refine ol_r (r_geq rfl rfl) rfl ?_
  refine ol_r (r_move rfl) rfl ?_
  refine ol_split (d := 5) rfl (fun hs5 => ?_) (fun hs5 => ?_)
  ·have phs5 := hs5; try simp only [decide_eq_true_eq, decide_eq_false_iff_not, Bool.not_eq_true', Bool.not_eq_false', Bool.not_true, Bool.not_false] at phs5
   refine ol_g rfl rfl hs5 ?_
   refine ol_r (r_move rfl) rfl ?_
   refine ol_g rfl rfl hs5 ?_
   refine ol_r (r_leq rfl rfl) rfl ?_
   refine ol_r (r_pickT rfl hs5 rfl) rfl ?_
   refine ol_r (r_assign rfl) rfl ?_
   refine ol_nil (to_k0 (fun _ _ h => h) (hK2 _ _ _ _ _ ?_))
   clear hK2
   refine hQ.ret (rvs1 (rv_t rfl)) (fun _ _ h => h) fun w hb hs hB hkd => ?_
   first
     | exact ⟨congrArg (fun b => Ending.returned (Value.bool b)) (decide_eq_decide.2 (by omega)), hb⟩
  ·have phs5 := hs5; try simp only [decide_eq_true_eq, decide_eq_false_iff_not, Bool.not_eq_true', Bool.not_eq_false', Bool.not_true, Bool.not_false] at phs5
   refine ol_s rfl rfl hs5 rfl ?_
   refine ol_s rfl rfl hs5 rfl ?_
   refine ol_r (r_pickF rfl hs5 rfl) rfl ?_
   refine ol_r (r_assign rfl) rfl ?_
   refine ol_nil (to_k0 (fun _ _ h => h) (hK2 _ _ _ _ _ ?_))
   clear hK2
   refine hQ.ret (rvs1 (rv_t rfl)) (fun _ _ h => h) fun w hb hs hB hkd => ?_
   first
     | exact ⟨congrArg (fun b => Ending.returned (Value.bool b)) (decide_eq_false (by omega)).symm, hb⟩
theorem ref1_IsName (q : ByteArray) (w : World) (hq0 : q.size ≤ 9223372036854775807) : Calls Try.prog 46 #[.string q] w fun e w' => e = .returned (.bool (nameB q)) ∧ Below w.heap.size w w' := by
  refine enterQ (N := 59) (C := fun _ => True) (H := []) (B := w.heap.size) (args := [_]) Try.func46 rfl rfl rfl (Nat.le_refl _) (Sat.nil _ _) fun Q hQ => ?_
  refine wp_seq' fun K1 hK1 => ?_
  refine wp_reg ?_
  refine ol_r (r_assign rfl) rfl ?_
  refine ol_nil (to_k0 (fun _ _ h => h) (hK1 _ _ _ _ _ ?_))
  clear hK1
  refine wp_seq' fun K2 hK2 => ?_
  refine wp_seq' fun K3 hK3 => ?_
  refine wp_reg ?_
  refine ol_r (r_move rfl) rfl ?_
  refine ol_r (r_lens rfl st9) rfl ?_
  refine ol_r (r_lss rfl rfl) rfl ?_
  refine ol_r (r_move rfl) rfl ?_
  refine ol_split (d := 10) rfl (fun hs10 => ?_) (fun hs10 => ?_)
  ·have phs10 := hs10; try simp only [decide_eq_true_eq, decide_eq_false_iff_not, Bool.not_eq_true', Bool.not_eq_false', Bool.not_true, Bool.not_false] at phs10
   refine ol_s rfl rfl hs10 rfl ?_
   refine ol_s rfl rfl hs10 rfl ?_
   refine ol_s rfl rfl hs10 rfl ?_
   refine ol_r (r_pickT rfl hs10 rfl) rfl ?_
   refine ol_nil (to_k0 (fun _ _ h => h) (hK3 _ _ _ _ _ ?_))
   clear hK3
   refine wp_condT rfl ?_
   refine wp_seq' fun K4 hK4 => ?_
   refine wp_reg ?_
   refine ol_r (r_assign rfl) rfl ?_
   refine ol_nil (to_k0 (fun _ _ h => h) (hK4 _ _ _ _ _ ?_))
   clear hK4
   refine hQ.ret (rvs1 (rv_t rfl)) (fun _ _ h => h) fun w hb hs hB hkd => ?_
   first
     | (refine ⟨?_, hb⟩
        have h2 : nameB q = false := by
          unfold nameB
          by_cases h1 : 1 ≤ q.size
          · rw [decide_eq_false (show ¬q.size ≤ 60 by omega), Bool.and_false, Bool.and_false]
          · rw [decide_eq_false h1, Bool.false_and, Bool.and_false]
        rw [h2]
        done)
  ·have phs10 := hs10; try simp only [decide_eq_true_eq, decide_eq_false_iff_not, Bool.not_eq_true', Bool.not_eq_false', Bool.not_true, Bool.not_false] at phs10
   refine ol_g rfl rfl hs10 ?_
   refine ol_r (r_move rfl) rfl ?_
   refine ol_g rfl rfl hs10 ?_
   refine ol_r (r_lens rfl st9) rfl ?_
   refine ol_g rfl rfl hs10 ?_
   refine ol_r (r_gtr rfl rfl) rfl ?_
   refine ol_r (r_pickF rfl hs10 rfl) rfl ?_
   refine ol_nil (to_k0 (fun _ _ h => h) (hK3 _ _ _ _ _ ?_))
   clear hK3
   refine wp_condD rfl (fun hc14 => ?_) (fun hc14 => ?_)
   ·refine wp_seq' fun K5 hK5 => ?_
    refine wp_reg ?_
    refine ol_r (r_assign rfl) rfl ?_
    refine ol_nil (to_k0 (fun _ _ h => h) (hK5 _ _ _ _ _ ?_))
    clear hK5
    refine hQ.ret (rvs1 (rv_t rfl)) (fun _ _ h => h) fun w hb hs hB hkd => ?_
    first
      | (refine ⟨?_, hb⟩
         have h2 : nameB q = false := by
           unfold nameB
           by_cases h1 : 1 ≤ q.size
           · rw [decide_eq_false (show ¬q.size ≤ 60 by omega), Bool.and_false, Bool.and_false]
           · rw [decide_eq_false h1, Bool.false_and, Bool.and_false]
         rw [h2]
         done)
   ·refine wp_skip' (to_k0 (fun _ _ h => h) (hK2 _ _ _ _ _ ?_))
    clear hK2
    refine wp_seq' fun K6 hK6 => ?_
    refine wp_seq' fun K7 hK7 => ?_
    refine wp_reg ?_
    refine ol_r (r_assign rfl) rfl ?_
    refine ol_nil (to_k0 (fun _ _ h => h) (hK7 _ _ _ _ _ ?_))
    clear hK7
    refine wp_block' ?_
    apply wp_loopM (σ := Nat) (fun s => s ≤ q.size ∧ ∀ i, i < s → nameC (byteAt q i) = true) (fun s => [(3, .int .i64 s)]) [(0, _)] (fun s => []) [] (fun s => q.size - s) (0)
    ·try dsimp only
     exact ⟨Nat.zero_le _, fun i h => by omega⟩
    ·exact (sub_cons rfl sub_nil)
    ·exact (sub_cons rfl sub_nil)
    ·exact subH_nil
    ·exact subH_nil
    ·rintro k ⟨hk, hP⟩
     intro K8 hK8
     refine wp_seq' fun K9 hK9 => ?_
     refine wp_seq' fun K10 hK10 => ?_
     refine wp_reg ?_
     refine ol_r (r_move rfl) rfl ?_
     refine ol_r (r_move rfl) rfl ?_
     refine ol_r (r_lens rfl st9) rfl ?_
     refine ol_r (r_lss rfl rfl) rfl ?_
     refine ol_nil (to_k0 (fun _ _ h => h) (hK10 _ _ _ _ _ ?_))
     clear hK10
     refine wp_condD rfl (fun hc18 => ?_) (fun hc18 => ?_)
     ·refine wp_skip' (to_k0 (fun _ _ h => h) (hK9 _ _ _ _ _ ?_))
      clear hK9
      refine wp_seq' fun K11 hK11 => ?_
      refine wp_block' ?_
      refine wp_seq' fun K12 hK12 => ?_
      refine wp_reg ?_
      refine ol_r (r_move rfl) rfl ?_
      refine ol_r (r_move rfl) rfl ?_
      refine ol_r (r_sidx rfl rfl st9 (by omega)) rfl ?_
      try simp only [Int.toNat_natCast]
      refine ol_r (r_assign rfl) rfl ?_
      refine ol_nil (to_k0 (fun _ _ h => h) (hK12 _ _ _ _ _ ?_))
      clear hK12
      apply wp_seq_cutM (σ := Bool × Bool) (fun s => s.1 = decide (97 ≤ byteAt q k ∧ byteAt q k ≤ 122) ∧ s.2 = decide (65 ≤ byteAt q k ∧ byteAt q k ≤ 90)) (fun s => [(5, .bool s.1), (6, .bool s.2)]) [(0, _), (3, _), (4, _)] (fun s => []) []
      ·exact (sub_cons rfl (sub_cons rfl (sub_cons rfl sub_nil)))
      ·exact subH_nil
      ·intro K13 hK13
       refine wp_reg ?_
       refine ol_r (r_move rfl) rfl ?_
       refine ol_r (r_geq rfl rfl) rfl ?_
       refine ol_r (r_move rfl) rfl ?_
       refine ol_split (d := 26) rfl (fun hs26 => ?_) (fun hs26 => ?_)
       ·have phs26 := hs26; try simp only [decide_eq_true_eq, decide_eq_false_iff_not, Bool.not_eq_true', Bool.not_eq_false', Bool.not_true, Bool.not_false] at phs26
        refine ol_g rfl rfl hs26 ?_
        refine ol_r (r_move rfl) rfl ?_
        refine ol_g rfl rfl hs26 ?_
        refine ol_r (r_leq rfl rfl) rfl ?_
        refine ol_r (r_pickT rfl hs26 rfl) rfl ?_
        refine ol_r (r_move rfl) rfl ?_
        refine ol_r (r_geq rfl rfl) rfl ?_
        refine ol_r (r_move rfl) rfl ?_
        refine ol_split (d := 32) rfl (fun hs32 => ?_) (fun hs32 => ?_)
        ·have phs32 := hs32; try simp only [decide_eq_true_eq, decide_eq_false_iff_not, Bool.not_eq_true', Bool.not_eq_false', Bool.not_true, Bool.not_false] at phs32
         refine ol_g rfl rfl hs32 ?_
         refine ol_r (r_move rfl) rfl ?_
         refine ol_g rfl rfl hs32 ?_
         refine ol_r (r_leq rfl rfl) rfl ?_
         refine ol_r (r_pickT rfl hs32 rfl) rfl ?_
         refine ol_r (r_assign rfl) rfl ?_
         refine ol_r (r_assign rfl) rfl ?_
         refine ol_nil (to_k0 (fun _ _ h => h) (hK13 ((_, _)) _ _ ?_ (sub_cons rfl (sub_cons rfl sub_nil)) (sub_cons rfl (sub_cons rfl (sub_cons rfl sub_nil))) subH_nil subH_nil))
         try dsimp only
         first
         | exact ⟨decide_eq_decide.2 (by omega), decide_eq_decide.2 (by omega)⟩
        ·have phs32 := hs32; try simp only [decide_eq_true_eq, decide_eq_false_iff_not, Bool.not_eq_true', Bool.not_eq_false', Bool.not_true, Bool.not_false] at phs32
         refine ol_s rfl rfl hs32 rfl ?_
         refine ol_s rfl rfl hs32 rfl ?_
         refine ol_r (r_pickF rfl hs32 rfl) rfl ?_
         refine ol_r (r_assign rfl) rfl ?_
         refine ol_r (r_assign rfl) rfl ?_
         refine ol_nil (to_k0 (fun _ _ h => h) (hK13 ((_, _)) _ _ ?_ (sub_cons rfl (sub_cons rfl sub_nil)) (sub_cons rfl (sub_cons rfl (sub_cons rfl sub_nil))) subH_nil subH_nil))
         try dsimp only
         first
         | exact ⟨decide_eq_decide.2 (by omega), (decide_eq_false (by omega)).symm⟩
       ·have phs26 := hs26; try simp only [decide_eq_true_eq, decide_eq_false_iff_not, Bool.not_eq_true', Bool.not_eq_false', Bool.not_true, Bool.not_false] at phs26
        refine ol_s rfl rfl hs26 rfl ?_
        refine ol_s rfl rfl hs26 rfl ?_
        refine ol_r (r_pickF rfl hs26 rfl) rfl ?_
        refine ol_r (r_move rfl) rfl ?_
        refine ol_r (r_geq rfl rfl) rfl ?_
        refine ol_r (r_move rfl) rfl ?_
        refine ol_split (d := 32) rfl (fun hs32 => ?_) (fun hs32 => ?_)
        ·have phs32 := hs32; try simp only [decide_eq_true_eq, decide_eq_false_iff_not, Bool.not_eq_true', Bool.not_eq_false', Bool.not_true, Bool.not_false] at phs32
         refine ol_g rfl rfl hs32 ?_
         refine ol_r (r_move rfl) rfl ?_
         refine ol_g rfl rfl hs32 ?_
         refine ol_r (r_leq rfl rfl) rfl ?_
         refine ol_r (r_pickT rfl hs32 rfl) rfl ?_
         refine ol_r (r_assign rfl) rfl ?_
         refine ol_r (r_assign rfl) rfl ?_
         refine ol_nil (to_k0 (fun _ _ h => h) (hK13 ((_, _)) _ _ ?_ (sub_cons rfl (sub_cons rfl sub_nil)) (sub_cons rfl (sub_cons rfl (sub_cons rfl sub_nil))) subH_nil subH_nil))
         try dsimp only
         first
         | exact ⟨(decide_eq_false (by omega)).symm, decide_eq_decide.2 (by omega)⟩
        ·have phs32 := hs32; try simp only [decide_eq_true_eq, decide_eq_false_iff_not, Bool.not_eq_true', Bool.not_eq_false', Bool.not_true, Bool.not_false] at phs32
         refine ol_s rfl rfl hs32 rfl ?_
         refine ol_s rfl rfl hs32 rfl ?_
         refine ol_r (r_pickF rfl hs32 rfl) rfl ?_
         refine ol_r (r_assign rfl) rfl ?_
         refine ol_r (r_assign rfl) rfl ?_
         refine ol_nil (to_k0 (fun _ _ h => h) (hK13 ((_, _)) _ _ ?_ (sub_cons rfl (sub_cons rfl sub_nil)) (sub_cons rfl (sub_cons rfl (sub_cons rfl sub_nil))) subH_nil subH_nil))
         try dsimp only
         first
         | exact ⟨(decide_eq_false (by omega)).symm, (decide_eq_false (by omega)).symm⟩
      ·rintro ⟨b, b'⟩ ⟨h1, h2⟩
       dsimp only at h1 h2
       subst h1
       subst h2
       dsimp only
       apply wp_seq_cutM (σ := Bool) (fun s => s = !nameC (byteAt q k)) (fun s => [(58, .bool s)]) [(0, _), (3, _)] (fun s => []) []
       ·exact (sub_cons rfl (sub_cons rfl sub_nil))
       ·exact subH_nil
       ·intro K14 hK14
        refine wp_reg ?_
        refine ol_r (r_move rfl) rfl ?_
        refine ol_r (r_not rfl) rfl ?_
        refine ol_r (r_move rfl) rfl ?_
        refine ol_split (d := 38) rfl (fun hs38 => ?_) (fun hs38 => ?_)
        ·have phs38 := hs38; try simp only [decide_eq_true_eq, decide_eq_false_iff_not, Bool.not_eq_true', Bool.not_eq_false', Bool.not_true, Bool.not_false] at phs38
         refine ol_g rfl rfl hs38 ?_
         refine ol_r (r_move rfl) rfl ?_
         refine ol_g rfl rfl hs38 ?_
         refine ol_r (r_not rfl) rfl ?_
         refine ol_r (r_pickT rfl hs38 rfl) rfl ?_
         refine ol_r (r_move rfl) rfl ?_
         refine ol_split (d := 42) rfl (fun hs42 => ?_) (fun hs42 => ?_)
         ·have phs42 := hs42; try simp only [decide_eq_true_eq, decide_eq_false_iff_not, Bool.not_eq_true', Bool.not_eq_false', Bool.not_true, Bool.not_false] at phs42
          refine ol_g rfl rfl hs42 ?_
          refine ol_r (r_move rfl) rfl ?_
          refine ol_g rfl rfl hs42 ?_
          refine ol_call rfl rfl cb79 rfl (fun w1 hb1 hs1 hB1 => Calls.mono (ref1_isDigit _ _) ?_)
          rintro e w2 ⟨rfl, hb2⟩
          refine After.below rfl hb1 hs1 hB1 hb2 ?_
          clear hb2 hB1 hs1 hb1 w2 w1
          refine ol_g rfl rfl hs42 ?_
          refine ol_r (r_not rfl) rfl ?_
          refine ol_r (r_pickT rfl hs42 rfl) rfl ?_
          refine ol_r (r_move rfl) rfl ?_
          refine ol_split (d := 47) rfl (fun hs47 => ?_) (fun hs47 => ?_)
          ·have phs47 := hs47; try simp only [decide_eq_true_eq, decide_eq_false_iff_not, Bool.not_eq_true', Bool.not_eq_false', Bool.not_true, Bool.not_false] at phs47
           refine ol_g rfl rfl hs47 ?_
           refine ol_r (r_move rfl) rfl ?_
           refine ol_g rfl rfl hs47 ?_
           refine ol_r (r_neq rfl rfl) rfl ?_
           refine ol_r (r_pickT rfl hs47 rfl) rfl ?_
           refine ol_r (r_move rfl) rfl ?_
           refine ol_split (d := 51) rfl (fun hs51 => ?_) (fun hs51 => ?_)
           ·have phs51 := hs51; try simp only [decide_eq_true_eq, decide_eq_false_iff_not, Bool.not_eq_true', Bool.not_eq_false', Bool.not_true, Bool.not_false] at phs51
            refine ol_g rfl rfl hs51 ?_
            refine ol_r (r_move rfl) rfl ?_
            refine ol_g rfl rfl hs51 ?_
            refine ol_r (r_neq rfl rfl) rfl ?_
            refine ol_r (r_pickT rfl hs51 rfl) rfl ?_
            refine ol_r (r_move rfl) rfl ?_
            refine ol_split (d := 55) rfl (fun hs55 => ?_) (fun hs55 => ?_)
            ·have phs55 := hs55; try simp only [decide_eq_true_eq, decide_eq_false_iff_not, Bool.not_eq_true', Bool.not_eq_false', Bool.not_true, Bool.not_false] at phs55
             refine ol_g rfl rfl hs55 ?_
             refine ol_r (r_move rfl) rfl ?_
             refine ol_g rfl rfl hs55 ?_
             refine ol_r (r_neq rfl rfl) rfl ?_
             refine ol_r (r_pickT rfl hs55 rfl) rfl ?_
             refine ol_nil (to_k0 (fun _ _ h => h) (hK14 (_) _ _ ?_ (sub_cons rfl sub_nil) (sub_cons rfl (sub_cons rfl sub_nil)) subH_nil subH_nil))
             try dsimp only
             first
             | exact nn_d (by omega)
            ·have phs55 := hs55; try simp only [decide_eq_true_eq, decide_eq_false_iff_not, Bool.not_eq_true', Bool.not_eq_false', Bool.not_true, Bool.not_false] at phs55
             refine ol_s rfl rfl hs55 rfl ?_
             refine ol_s rfl rfl hs55 rfl ?_
             refine ol_r (r_pickF rfl hs55 rfl) rfl ?_
             refine ol_nil (to_k0 (fun _ _ h => h) (hK14 (_) _ _ ?_ (sub_cons rfl sub_nil) (sub_cons rfl (sub_cons rfl sub_nil)) subH_nil subH_nil))
             try dsimp only
             first
             | exact nn_f (by omega)
           ·have phs51 := hs51; try simp only [decide_eq_true_eq, decide_eq_false_iff_not, Bool.not_eq_true', Bool.not_eq_false', Bool.not_true, Bool.not_false] at phs51
            refine ol_s rfl rfl hs51 rfl ?_
            refine ol_s rfl rfl hs51 rfl ?_
            refine ol_r (r_pickF rfl hs51 rfl) rfl ?_
            refine ol_r (r_move rfl) rfl ?_
            refine ol_s rfl rfl rfl rfl ?_
            refine ol_s rfl rfl rfl rfl ?_
            refine ol_r (r_pickF rfl rfl rfl) rfl ?_
            refine ol_nil (to_k0 (fun _ _ h => h) (hK14 (_) _ _ ?_ (sub_cons rfl sub_nil) (sub_cons rfl (sub_cons rfl sub_nil)) subH_nil subH_nil))
            try dsimp only
            first
            | exact nn_f (by omega)
          ·have phs47 := hs47; try simp only [decide_eq_true_eq, decide_eq_false_iff_not, Bool.not_eq_true', Bool.not_eq_false', Bool.not_true, Bool.not_false] at phs47
           refine ol_s rfl rfl hs47 rfl ?_
           refine ol_s rfl rfl hs47 rfl ?_
           refine ol_r (r_pickF rfl hs47 rfl) rfl ?_
           refine ol_r (r_move rfl) rfl ?_
           refine ol_s rfl rfl rfl rfl ?_
           refine ol_s rfl rfl rfl rfl ?_
           refine ol_r (r_pickF rfl rfl rfl) rfl ?_
           refine ol_r (r_move rfl) rfl ?_
           refine ol_s rfl rfl rfl rfl ?_
           refine ol_s rfl rfl rfl rfl ?_
           refine ol_r (r_pickF rfl rfl rfl) rfl ?_
           refine ol_nil (to_k0 (fun _ _ h => h) (hK14 (_) _ _ ?_ (sub_cons rfl sub_nil) (sub_cons rfl (sub_cons rfl sub_nil)) subH_nil subH_nil))
           try dsimp only
           first
           | exact nn_f (by omega)
         ·have phs42 := hs42; try simp only [decide_eq_true_eq, decide_eq_false_iff_not, Bool.not_eq_true', Bool.not_eq_false', Bool.not_true, Bool.not_false] at phs42
          refine ol_s rfl rfl hs42 rfl ?_
          refine ol_s rfl rfl hs42 rfl ?_
          refine ol_s rfl rfl hs42 rfl ?_
          refine ol_r (r_pickF rfl hs42 rfl) rfl ?_
          refine ol_r (r_move rfl) rfl ?_
          refine ol_s rfl rfl rfl rfl ?_
          refine ol_s rfl rfl rfl rfl ?_
          refine ol_r (r_pickF rfl rfl rfl) rfl ?_
          refine ol_r (r_move rfl) rfl ?_
          refine ol_s rfl rfl rfl rfl ?_
          refine ol_s rfl rfl rfl rfl ?_
          refine ol_r (r_pickF rfl rfl rfl) rfl ?_
          refine ol_r (r_move rfl) rfl ?_
          refine ol_s rfl rfl rfl rfl ?_
          refine ol_s rfl rfl rfl rfl ?_
          refine ol_r (r_pickF rfl rfl rfl) rfl ?_
          refine ol_nil (to_k0 (fun _ _ h => h) (hK14 (_) _ _ ?_ (sub_cons rfl sub_nil) (sub_cons rfl (sub_cons rfl sub_nil)) subH_nil subH_nil))
          try dsimp only
          first
          | exact nn_f (by omega)
        ·have phs38 := hs38; try simp only [decide_eq_true_eq, decide_eq_false_iff_not, Bool.not_eq_true', Bool.not_eq_false', Bool.not_true, Bool.not_false] at phs38
         refine ol_s rfl rfl hs38 rfl ?_
         refine ol_s rfl rfl hs38 rfl ?_
         refine ol_r (r_pickF rfl hs38 rfl) rfl ?_
         refine ol_r (r_move rfl) rfl ?_
         refine ol_s rfl rfl rfl rfl ?_
         refine ol_s rfl rfl rfl rfl ?_
         refine ol_s rfl rfl rfl rfl ?_
         refine ol_r (r_pickF rfl rfl rfl) rfl ?_
         refine ol_r (r_move rfl) rfl ?_
         refine ol_s rfl rfl rfl rfl ?_
         refine ol_s rfl rfl rfl rfl ?_
         refine ol_r (r_pickF rfl rfl rfl) rfl ?_
         refine ol_r (r_move rfl) rfl ?_
         refine ol_s rfl rfl rfl rfl ?_
         refine ol_s rfl rfl rfl rfl ?_
         refine ol_r (r_pickF rfl rfl rfl) rfl ?_
         refine ol_r (r_move rfl) rfl ?_
         refine ol_s rfl rfl rfl rfl ?_
         refine ol_s rfl rfl rfl rfl ?_
         refine ol_r (r_pickF rfl rfl rfl) rfl ?_
         refine ol_nil (to_k0 (fun _ _ h => h) (hK14 (_) _ _ ?_ (sub_cons rfl sub_nil) (sub_cons rfl (sub_cons rfl sub_nil)) subH_nil subH_nil))
         try dsimp only
         first
         | exact nn_f (by omega)
       ·rintro b rfl
        refine wp_condNB rfl (fun hc58 => ?_) (fun hc58 => ?_)
        ·refine wp_seq' fun K15 hK15 => ?_
         refine wp_reg ?_
         refine ol_r (r_assign rfl) rfl ?_
         refine ol_nil (to_k0 (fun _ _ h => h) (hK15 _ _ _ _ _ ?_))
         clear hK15
         refine hQ.ret (rvs1 (rv_t rfl)) (fun _ _ h => h) fun w hb hs hB hkd => ?_
         first
           | (refine ⟨?_, hb⟩
              have h1 : nameC (byteAt q k) = false := hc58
              have h2 : nameB q = false := by unfold nameB; rw [bytesAll_not (by omega) h1]; rfl
              rw [h2]
              done)
        ·refine wp_skip' (to_k0 (fun _ _ h => h) (hK11 _ _ _ _ _ ?_))
         clear hK11
         refine wp_reg ?_
         refine ol_r (r_move rfl) rfl ?_
         refine ol_r (r_add rfl rfl (by omega)) rfl ?_
         refine ol_r (r_assign rfl) rfl ?_
         refine ol_nil (to_k0 (fun _ _ h => h) (hK8 (k + 1) _ _ ?_ ?_ (sub_cons rfl sub_nil) (sub_cons rfl sub_nil) (by exact subH_nil) subH_nil))
         ·try dsimp only
          exact ⟨by omega, up_to hP hc58⟩
         ·try dsimp only
          omega
     ·refine wp_exit' (to_k0 (fun _ _ h => h) (hK6 _ _ _ _ _ ?_))
      clear hK6
      refine wp_seq' fun K16 hK16 => ?_
      refine wp_reg ?_
      refine ol_r (r_assign rfl) rfl ?_
      refine ol_nil (to_k0 (fun _ _ h => h) (hK16 _ _ _ _ _ ?_))
      clear hK16
      refine hQ.ret (rvs1 (rv_t rfl)) (fun _ _ h => h) fun w hb hs hB hkd => ?_
      first
        | (refine ⟨?_, hb⟩
           have h1 : bytesAll nameC q = true := bytesAll_iff.2 fun i hi => hP i (by omega)
           unfold nameB
           rw [h1, decide_eq_true (show 1 ≤ q.size by omega), decide_eq_true (show q.size ≤ 60 by omega)]
           rfl)
theorem match_isPlace (x y : Int) (w : World) : Calls Try.prog 50 #[.agg #[.int .i64 x, .int .i64 y]] w fun e w' => e = .returned (.bool (ptB x y)) ∧ Below w.heap.size w w' := by
  refine enterQ (N := 11) (C := fun _ => True) (H := []) (B := w.heap.size) (args := [_]) Try.func50 rfl rfl rfl (Nat.le_refl _) (Sat.nil _ _) fun Q hQ => ?_
  refine wp_seq' fun K1 hK1 => ?_
  refine wp_reg ?_
  refine ol_box 1 rfl rfl rfl fun b1 => ?_
  refine ol_r (r_assign rfl) rfl ?_
  refine ol_nil (to_k0 (fun _ _ h => h) (hK1 _ _ _ _ _ ?_))
  clear hK1
  refine wp_seq' fun K2 hK2 => ?_
  refine wp_reg ?_
  refine ol_r (r_fa (o' := 0) rfl fl41_0 rfl) rfl ?_
  refine ol_r (r_ld (id := 1) rfl rfl rfl sc3) rfl ?_
  refine ol_call rfl rfl cb45 rfl (fun w1 hb1 hs1 hB1 => Calls.mono (match_in _ _ _ _) ?_)
  rintro e w2 ⟨rfl, hb2⟩
  refine After.below rfl hb1 hs1 hB1 hb2 ?_
  clear hb2 hB1 hs1 hb1 w2 w1
  refine ol_r (r_move rfl) rfl ?_
  refine ol_split (d := 6) rfl (fun hs6 => ?_) (fun hs6 => ?_)
  ·have phs6 := hs6; try simp only [decide_eq_true_eq, decide_eq_false_iff_not, Bool.not_eq_true', Bool.not_eq_false', Bool.not_true, Bool.not_false] at phs6
   refine ol_g rfl rfl hs6 ?_
   refine ol_r (r_fa (o' := 1) rfl fl41_1 rfl) rfl ?_
   refine ol_g rfl rfl hs6 ?_
   refine ol_r (r_ld (id := 1) rfl rfl rfl sc3) rfl ?_
   refine ol_g rfl rfl hs6 ?_
   refine ol_call rfl rfl cb45 rfl (fun w1 hb1 hs1 hB1 => Calls.mono (match_in _ _ _ _) ?_)
   rintro e w2 ⟨rfl, hb2⟩
   refine After.below rfl hb1 hs1 hB1 hb2 ?_
   clear hb2 hB1 hs1 hb1 w2 w1
   refine ol_r (r_pickT rfl hs6 rfl) rfl ?_
   refine ol_r (r_assign rfl) rfl ?_
   refine ol_nil (to_k0 (fun _ _ h => h) (hK2 _ _ _ _ _ ?_))
   clear hK2
   refine hQ.ret (rvs1 (rv_t rfl)) (fun _ _ h => h) fun w hb hs hB hkd => ?_
   refine ⟨?_, hb⟩
   unfold ptB
   first
     | (simp_all; done)
     | (congr 2; simp_all; done)
  ·have phs6 := hs6; try simp only [decide_eq_true_eq, decide_eq_false_iff_not, Bool.not_eq_true', Bool.not_eq_false', Bool.not_true, Bool.not_false] at phs6
   refine ol_s rfl rfl hs6 rfl ?_
   refine ol_s rfl rfl hs6 rfl ?_
   refine ol_s rfl rfl hs6 rfl ?_
   refine ol_r (r_pickF rfl hs6 rfl) rfl ?_
   refine ol_r (r_assign rfl) rfl ?_
   refine ol_nil (to_k0 (fun _ _ h => h) (hK2 _ _ _ _ _ ?_))
   clear hK2
   refine hQ.ret (rvs1 (rv_t rfl)) (fun _ _ h => h) fun w hb hs hB hkd => ?_
   refine ⟨?_, hb⟩
   unfold ptB
   first
     | (simp_all; done)
     | (congr 2; simp_all; done)
theorem ref5_isPoint (x y : Int) (w : World) : Calls Try.prog 52 #[.agg #[.int .i64 x, .int .i64 y]] w fun e w' => e = .returned (.bool (ptB x y)) ∧ Below w.heap.size w w' := by
  refine enterQ (N := 13) (C := fun _ => True) (H := []) (B := w.heap.size) (args := [_]) Try.func52 rfl rfl rfl (Nat.le_refl _) (Sat.nil _ _) fun Q hQ => ?_
  refine wp_seq' fun K1 hK1 => ?_
  refine wp_reg ?_
  refine ol_box 1 rfl rfl rfl fun b1 => ?_
  refine ol_r (r_assign rfl) rfl ?_
  refine ol_nil (to_k0 (fun _ _ h => h) (hK1 _ _ _ _ _ ?_))
  clear hK1
  refine wp_seq' fun K2 hK2 => ?_
  refine wp_reg ?_
  refine ol_r (r_fa (o' := 0) rfl fl41_0 rfl) rfl ?_
  refine ol_r (r_ld (id := 1) rfl rfl rfl sc3) rfl ?_
  refine ol_call rfl rfl cb47 rfl (fun w1 hb1 hs1 hB1 => Calls.mono (ref5_outside _ _ _ _) ?_)
  rintro e w2 ⟨rfl, hb2⟩
  refine After.below rfl hb1 hs1 hB1 hb2 ?_
  clear hb2 hB1 hs1 hb1 w2 w1
  refine ol_r (r_not rfl) rfl ?_
  refine ol_r (r_move rfl) rfl ?_
  refine ol_split (d := 7) rfl (fun hs7 => ?_) (fun hs7 => ?_)
  ·have phs7 := hs7; try simp only [decide_eq_true_eq, decide_eq_false_iff_not, Bool.not_eq_true', Bool.not_eq_false', Bool.not_true, Bool.not_false] at phs7
   refine ol_g rfl rfl hs7 ?_
   refine ol_r (r_fa (o' := 1) rfl fl41_1 rfl) rfl ?_
   refine ol_g rfl rfl hs7 ?_
   refine ol_r (r_ld (id := 1) rfl rfl rfl sc3) rfl ?_
   refine ol_g rfl rfl hs7 ?_
   refine ol_call rfl rfl cb47 rfl (fun w1 hb1 hs1 hB1 => Calls.mono (ref5_outside _ _ _ _) ?_)
   rintro e w2 ⟨rfl, hb2⟩
   refine After.below rfl hb1 hs1 hB1 hb2 ?_
   clear hb2 hB1 hs1 hb1 w2 w1
   refine ol_g rfl rfl hs7 ?_
   refine ol_r (r_not rfl) rfl ?_
   refine ol_r (r_pickT rfl hs7 rfl) rfl ?_
   refine ol_r (r_assign rfl) rfl ?_
   refine ol_nil (to_k0 (fun _ _ h => h) (hK2 _ _ _ _ _ ?_))
   clear hK2
   refine hQ.ret (rvs1 (rv_t rfl)) (fun _ _ h => h) fun w hb hs hB hkd => ?_
   refine ⟨?_, hb⟩
   unfold ptB
   first
     | (simp_all; done)
     | (congr 2; simp_all; done)
  ·have phs7 := hs7; try simp only [decide_eq_true_eq, decide_eq_false_iff_not, Bool.not_eq_true', Bool.not_eq_false', Bool.not_true, Bool.not_false] at phs7
   refine ol_s rfl rfl hs7 rfl ?_
   refine ol_s rfl rfl hs7 rfl ?_
   refine ol_s rfl rfl hs7 rfl ?_
   refine ol_s rfl rfl hs7 rfl ?_
   refine ol_r (r_pickF rfl hs7 rfl) rfl ?_
   refine ol_r (r_assign rfl) rfl ?_
   refine ol_nil (to_k0 (fun _ _ h => h) (hK2 _ _ _ _ _ ?_))
   clear hK2
   refine hQ.ret (rvs1 (rv_t rfl)) (fun _ _ h => h) fun w hb hs hB hkd => ?_
   refine ⟨?_, hb⟩
   unfold ptB
   first
     | (simp_all; done)
     | (congr 2; simp_all; done)
theorem pt_eqs {a b c d : Int} : eqs [.int .i64 a, .int .i64 b] [.int .i64 c, .int .i64 d] = (decide (a = c) && decide (b = d)) := by simp [eqs, eqV]
theorem pt_yes {a b c d : Int} (h : eqs [.int .i64 a, .int .i64 b] [.int .i64 c, .int .i64 d] = true) : a = c ∧ b = d := by rw [pt_eqs, Bool.and_eq_true, decide_eq_true_eq, decide_eq_true_eq] at h; exact h
theorem pt_no {a b c d : Int} (h : eqs [.int .i64 a, .int .i64 b] [.int .i64 c, .int .i64 d] = false) : ¬(a = c ∧ b = d) := by
  intro h2
  rw [pt_eqs, h2.1, h2.2] at h
  simp at h
theorem match_CheckSegment (nm : ByteArray) (a : Option Addr) (n c : Nat) (gs : List GateR) (w : World) (hn : nm.size ≤ 9223372036854775807) (hS : Rd encGate w.heap.size w a n c gs) :
    Calls Try.prog 101 #[.agg #[.string nm, .slice a n c]] w fun e w' => e = .returned (.int .i64 (chkSeg nm gs)) ∧ Below w.heap.size w w' := by
  have hsn := hS.len
  have hsf := hS.fit
  refine enterQ (N := 41) (C := fun _ => True) (H := []) (B := w.heap.size) (args := [_]) Try.func101 rfl rfl rfl (Nat.le_refl _) (Sat.nil _ _) fun Q hQ => ?_
  refine wp_seq' fun K1 hK1 => ?_
  refine wp_reg ?_
  refine ol_box 1 rfl rfl rfl fun b1 => ?_
  refine ol_r (r_assign rfl) rfl ?_
  refine ol_nil (to_k0 (fun _ _ h => h) (hK1 _ _ _ _ _ ?_))
  clear hK1
  refine wp_seq' fun K2 hK2 => ?_
  refine wp_block' ?_
  refine wp_seq' fun K3 hK3 => ?_
  refine wp_reg ?_
  refine ol_r (r_fa (o' := 0) rfl fl82_0 rfl) rfl ?_
  refine ol_r (r_ld (id := 1) rfl rfl rfl sc9) rfl ?_
  refine ol_call rfl rfl cb44 rfl (fun w1 hb1 hs1 hB1 => Calls.mono (quant_IsName nm _ hn) ?_)
  rintro e w2 ⟨rfl, hb2⟩
  refine After.below rfl hb1 hs1 hB1 hb2 ?_
  clear hb2 hB1 hs1 hb1 w2 w1
  refine ol_r (r_not rfl) rfl ?_
  refine ol_r (r_assign rfl) rfl ?_
  refine ol_nil (to_k0 (fun _ _ h => h) (hK3 _ _ _ _ _ ?_))
  clear hK3
  refine wp_condNB rfl (fun hc5 => ?_) (fun hc5 => ?_)
  ·refine wp_seq' fun K4 hK4 => ?_
   refine wp_reg ?_
   refine ol_r (r_assign rfl) rfl ?_
   refine ol_nil (to_k0 (fun _ _ h => h) (hK4 _ _ _ _ _ ?_))
   clear hK4
   refine hQ.ret (rvs1 (rv_t rfl)) (fun _ _ h => h) fun w hb hs hB hkd => ?_
   exact ⟨by rw [chkSeg_8 (by simpa using hc5)], hb⟩
  ·refine wp_seq' fun K5 hK5 => ?_
   refine wp_reg ?_
   refine ol_r (r_fa (o' := 1) rfl fl82_1 rfl) rfl ?_
   refine ol_r (r_ld (id := 1) rfl rfl rfl sc80) rfl ?_
   refine ol_r (r_len rfl sl80) rfl ?_
   refine ol_call rfl rfl cb45 rfl (fun w1 hb1 hs1 hB1 => Calls.mono (match_in _ _ _ _) ?_)
   rintro e w2 ⟨rfl, hb2⟩
   refine After.below rfl hb1 hs1 hB1 hb2 ?_
   clear hb2 hB1 hs1 hb1 w2 w1
   refine ol_r (r_not rfl) rfl ?_
   refine ol_r (r_assign rfl) rfl ?_
   refine ol_nil (to_k0 (fun _ _ h => h) (hK5 _ _ _ _ _ ?_))
   clear hK5
   refine wp_condNB rfl (fun hc10 => ?_) (fun hc10 => ?_)
   ·refine wp_seq' fun K6 hK6 => ?_
    refine wp_reg ?_
    refine ol_r (r_assign rfl) rfl ?_
    refine ol_nil (to_k0 (fun _ _ h => h) (hK6 _ _ _ _ _ ?_))
    clear hK6
    refine hQ.ret (rvs1 (rv_t rfl)) (fun _ _ h => h) fun w hb hs hB hkd => ?_
    exact ⟨by rw [chkSeg_3 (by simpa using hc5) (by subst hsn; simpa using hc10)], hb⟩
   ·refine wp_skip' (to_k0 (fun _ _ h => h) (hK2 _ _ _ _ _ ?_))
    clear hK2
    refine wp_seq' fun K7 hK7 => ?_
    refine wp_seq' fun K8 hK8 => ?_
    refine wp_reg ?_
    refine ol_r (r_fa (o' := 1) rfl fl82_1 rfl) rfl ?_
    refine ol_r (r_ld (id := 1) rfl rfl rfl sc80) rfl ?_
    refine ol_r (r_len rfl sl80) rfl ?_
    refine ol_r (r_move rfl) rfl ?_
    refine ol_nil (to_k0 (fun _ _ h => h) (hK8 _ _ _ _ _ ?_))
    clear hK8
    refine wp_block' ?_
    apply wp_loopM (σ := Nat) (fun s => s ≤ n ∧ chkE fG none gs = chkE fG (ahead gs s) (gs.drop s)) (fun s => [(19, .int .i64 s)]) [(17, _), (18, _)] (fun s => []) [(1, _)] (fun s => n - s) (0)
    ·try dsimp only
     exact ⟨Nat.zero_le _, chkE_start _ _⟩
    ·exact (sub_cons rfl sub_nil)
    ·exact (sub_cons rfl (sub_cons rfl sub_nil))
    ·exact subH_nil
    ·exact (subH_same rfl subH_nil)
    ·rintro k ⟨hk, hP⟩
     intro K9 hK9
     refine wp_seq' fun K10 hK10 => ?_
     refine wp_reg ?_
     refine ol_r (r_lss rfl rfl) rfl ?_
     refine ol_nil (to_k0 (fun _ _ h => h) (hK10 _ _ _ _ _ ?_))
     clear hK10
     refine wp_seq' fun K11 hK11 => ?_
     refine wp_condD rfl (fun hc20 => ?_) (fun hc20 => ?_)
     ·refine wp_skip' (to_k0 (fun _ _ h => h) (hK11 _ _ _ _ _ ?_))
      clear hK11
      refine wp_seq' fun K12 hK12 => ?_
      refine wp_block' ?_
      refine wp_seq' fun K13 hK13 => ?_
      refine wp_reg ?_
      refine ol_ixr hS rfl rfl sl80 (by omega) rfl fun x21 hx21 => ?_
      try simp only [Int.toNat_natCast] at hx21
      refine ol_r (r_ldw rfl (fun w1 hb1 hs1 hB1 => Rd.loads hS ty79 hx21 hb1)) rfl ?_
      refine ol_alloc 4 z79 rfl fun b4 => ?_
      refine ol_store (id := 4) rfl rfl rfl rfl sz79 rfl rfl (by first | decide | exact Nat.zero_lt_succ _ | simp) ?_
      refine ol_nil (to_k0 (fun _ _ h => h) (hK13 _ _ _ _ _ ?_))
      clear hK13
      refine wp_block' ?_
      refine wp_seq' fun K14 hK14 => ?_
      refine wp_reg ?_
      refine ol_r (r_fa (o' := 0) rfl fl79_0 rfl) rfl ?_
      refine ol_r (r_lda (id := 4) (n := 2) rfl rfl rfl ag41) rfl ?_
      refine ol_call rfl rfl cb50 rfl (fun w1 hb1 hs1 hB1 => Calls.mono (match_isPlace _ _ _) ?_)
      rintro e w2 ⟨rfl, hb2⟩
      refine After.below rfl hb1 hs1 hB1 hb2 ?_
      clear hb2 hB1 hs1 hb1 w2 w1
      refine ol_r (r_not rfl) rfl ?_
      refine ol_r (r_move rfl) rfl ?_
      refine ol_split (d := 28) rfl (fun hs28 => ?_) (fun hs28 => ?_)
      ·have phs28 := hs28; try simp only [decide_eq_true_eq, decide_eq_false_iff_not, Bool.not_eq_true', Bool.not_eq_false', Bool.not_true, Bool.not_false] at phs28
       refine ol_s rfl rfl hs28 rfl ?_
       refine ol_s rfl rfl hs28 rfl ?_
       refine ol_s rfl rfl hs28 rfl ?_
       refine ol_s rfl rfl hs28 rfl ?_
       refine ol_r (r_pickT rfl hs28 rfl) rfl ?_
       refine ol_r (r_assign rfl) rfl ?_
       refine ol_nil (to_k0 (fun _ _ h => h) (hK14 _ _ _ _ _ ?_))
       clear hK14
       refine wp_condT rfl ?_
       refine wp_seq' fun K15 hK15 => ?_
       refine wp_reg ?_
       refine ol_r (r_assign rfl) rfl ?_
       refine ol_nil (to_k0 (fun _ _ h => h) (hK15 _ _ _ _ _ ?_))
       clear hK15
       refine hQ.ret (rvs1 (rv_t rfl)) (fun _ _ h => h) fun w hb hs hB hkd => ?_
       have h := chkE_bad hP hx21 (fG_9 (.inl phs28)) (by simp)
       exact ⟨by rw [(chkSeg_g (by simpa using hc5) (by subst hsn; simpa using hc10)).trans h], hb⟩
      ·have phs28 := hs28; try simp only [decide_eq_true_eq, decide_eq_false_iff_not, Bool.not_eq_true', Bool.not_eq_false', Bool.not_true, Bool.not_false] at phs28
       refine ol_g rfl rfl hs28 ?_
       refine ol_r (r_fa (o' := 2) rfl fl79_1 rfl) rfl ?_
       refine ol_g rfl rfl hs28 ?_
       refine ol_r (r_lda (id := 4) (n := 2) rfl rfl rfl ag41) rfl ?_
       refine ol_g rfl rfl hs28 ?_
       refine ol_call rfl rfl cb50 rfl (fun w1 hb1 hs1 hB1 => Calls.mono (match_isPlace _ _ _) ?_)
       rintro e w2 ⟨rfl, hb2⟩
       refine After.below rfl hb1 hs1 hB1 hb2 ?_
       clear hb2 hB1 hs1 hb1 w2 w1
       refine ol_g rfl rfl hs28 ?_
       refine ol_r (r_not rfl) rfl ?_
       refine ol_r (r_pickF rfl hs28 rfl) rfl ?_
       refine ol_r (r_assign rfl) rfl ?_
       refine ol_nil (to_k0 (fun _ _ h => h) (hK14 _ _ _ _ _ ?_))
       clear hK14
       refine wp_condNB rfl (fun hc23 => ?_) (fun hc23 => ?_)
       ·refine wp_seq' fun K16 hK16 => ?_
        refine wp_reg ?_
        refine ol_r (r_assign rfl) rfl ?_
        refine ol_nil (to_k0 (fun _ _ h => h) (hK16 _ _ _ _ _ ?_))
        clear hK16
        refine hQ.ret (rvs1 (rv_t rfl)) (fun _ _ h => h) fun w hb hs hB hkd => ?_
        have h := chkE_bad hP hx21 (fG_9 (.inr hc23)) (by simp)
        exact ⟨by rw [(chkSeg_g (by simpa using hc5) (by subst hsn; simpa using hc10)).trans h], hb⟩
       ·refine wp_seq' fun K17 hK17 => ?_
        refine wp_reg ?_
        refine ol_r (r_fa (o' := 0) rfl fl79_0 rfl) rfl ?_
        refine ol_r (r_lda (id := 4) (n := 2) rfl rfl rfl ag41) rfl ?_
        refine ol_r (r_fa (o' := 2) rfl fl79_1 rfl) rfl ?_
        refine ol_r (r_lda (id := 4) (n := 2) rfl rfl rfl ag41) rfl ?_
        refine ol_r (r_eqs rfl rfl (by kernel_rfl) (fun w => run_eqs (by kernel_rfl) (by kernel_rfl) w)) rfl ?_
        refine ol_r (r_assign rfl) rfl ?_
        refine ol_nil (to_k0 (fun _ _ h => h) (hK17 _ _ _ _ _ ?_))
        clear hK17
        refine wp_cond' rfl (fun hc34 => ?_) (fun hc34 => ?_)
        ·refine wp_seq' fun K18 hK18 => ?_
         refine wp_reg ?_
         refine ol_r (r_assign rfl) rfl ?_
         refine ol_nil (to_k0 (fun _ _ h => h) (hK18 _ _ _ _ _ ?_))
         clear hK18
         refine hQ.ret (rvs1 (rv_t rfl)) (fun _ _ h => h) fun w hb hs hB hkd => ?_
         have h := chkE_bad hP hx21 (fG_2 phs28 hc23 (pt_yes hc34)) (by simp)
         exact ⟨by rw [(chkSeg_g (by simpa using hc5) (by subst hsn; simpa using hc10)).trans h], hb⟩
        ·refine wp_skip' (to_k0 (fun _ _ h => h) (hK12 _ _ _ _ _ ?_))
         clear hK12
         refine wp_reg ?_
         refine ol_r (r_add rfl rfl (by omega)) rfl ?_
         refine ol_r (r_move rfl) rfl ?_
         refine ol_nil (to_k0 (fun _ _ h => h) (hK9 (k + 1) _ _ ?_ ?_ (sub_cons rfl sub_nil) (sub_cons rfl (sub_cons rfl sub_nil)) (by exact subH_nil) (subH_same rfl subH_nil)))
         ·try dsimp only
          exact ⟨by omega, chkE_next hP hx21 (fG_0 phs28 hc23 (pt_no hc34))⟩
         ·try dsimp only
          omega
     ·refine wp_exit' (to_k0 (fun _ _ h => h) (hK7 _ _ _ _ _ ?_))
      clear hK7
      refine wp_seq' fun K19 hK19 => ?_
      refine wp_reg ?_
      refine ol_r (r_assign rfl) rfl ?_
      refine ol_nil (to_k0 (fun _ _ h => h) (hK19 _ _ _ _ _ ?_))
      clear hK19
      refine hQ.ret (rvs1 (rv_t rfl)) (fun _ _ h => h) fun w hb hs hB hkd => ?_
      exact ⟨by rw [(chkSeg_g (by simpa using hc5) (by subst hsn; simpa using hc10)).trans (chkE_end hP (by omega))], hb⟩
def bIx (n : Nat) : Nat → Int
  | 0 => (n : Int) - 1
  | k + 1 => bIx n k - 1
end Go.Proofs.Ytjflbnbofedlkaa

/-
  The steps of an activity: the iterator.
-/


namespace Go.Proofs.Ytjflbnbofedlkaa
open Go Go.RowKit Hx
set_option linter.unusedVariables false
set_option linter.unusedSimpArgs false
set_option maxRecDepth 8000
theorem steps_iter (A : ActV) (B b : Nat) (w0 : World) (hA : Rd encSmp B w0 A.sa A.sn A.sc A.ss) :
    Iter Try.prog 87 [.pointer (some ⟨b, 0, none⟩)] (fun x : SmpR × SmpR => [.agg #[.int .i64 x.1.at_, .int .i64 x.1.x, .int .i64 x.1.y, .int .i64 x.1.z, .int .i64 x.1.pulse, .int .i64 x.1.power, .int .i64 x.1.steps], .agg #[.int .i64 x.2.at_, .int .i64 x.2.x, .int .i64 x.2.y, .int .i64 x.2.z, .int .i64 x.2.pulse, .int .i64 x.2.power, .int .i64 x.2.steps]]) (stepsL A.ss) (fun W => Below B w0 W ∧ (∃ T, Sat B W [(100, .blk b [(3, .slice A.sa A.sn A.sc)] T)]) ∧ B ≤ W.heap.size) := by
  intro l J Jx W hRq hJb hJx hY h0
  have hsn := hA.len
  have hsf := hA.fit
  have hlen := stepsL_len A.ss
  refine enterI (n := 25) (args := [_, _]) Try.func87 rfl rfl rfl rfl fun Q hQ => ?_
  refine wp_seq' fun K1 hK1 => ?_
  refine wp_reg ?_
  refine ol_r (r_assign rfl) rfl ?_
  refine ol_nil (to_k0 (fun _ _ h => h) (hK1 _ _ _ _ _ ?_))
  clear hK1
  refine wp_block' ?_
  refine wp_loopI (J := J) (fun k => [(3, .int .i64 (k + 1)), (0, .func (.yield l) #[] #[]), (1, .pointer (some ⟨b, 0, none⟩))]) (fun k => k ≤ (stepsL A.ss).length) (fun k => (stepsL A.ss).length - k) (0) ?_ ?_ ?_ ?_
  ·try dsimp only
   omega
  ·exact (sub_cons rfl (sub_cons rfl (sub_cons rfl sub_nil)))
  ·intro w hb hB
   exact hJb 0 W w h0 hb
  ·intro k W1 hI hJ
   obtain ⟨q1, ⟨T, q2⟩, q3⟩ := hRq k W1 hJ
   have hc : Blk W1.heap.size W1 b [(3, .slice A.sa A.sn A.sc)] := q2.blk (id := 100) rfl
   have hS := hA.at q1 q3
   intro K2 hK2
   refine wp_seq' fun K3 hK3 => ?_
   refine wp_seq' fun K4 hK4 => ?_
   refine wp_reg ?_
   refine ol_r (r_move rfl) rfl ?_
   refine ol_r (r_fa (o' := 3) rfl fl39_3 rfl) rfl ?_
   refine ol_r (r_ldw rfl (fun w1 hb1 hs1 hB1 => Blk.loads (o := 3) hc hb1 sc35 rfl)) rfl ?_
   refine ol_r (r_len rfl sl35) rfl ?_
   refine ol_r (r_lss rfl rfl) rfl ?_
   refine ol_nil (to_k0 (fun _ _ h => h) (hK4 _ _ _ _ _ ?_))
   clear hK4
   refine wp_condD rfl (fun hc8 => ?_) (fun hc8 => ?_)
   ·refine wp_skip' (to_k0 (fun _ _ h => h) (hK3 _ _ _ _ _ ?_))
    clear hK3
    refine wp_seq' fun K5 hK5 => ?_
    refine wp_block' ?_
    refine wp_seq' fun K6 hK6 => ?_
    refine wp_regti 12 rfl (by kernel_rfl) (by kernel_rfl) ?_
    simp only [List.take_succ_cons, List.take_zero, List.drop_succ_cons, List.drop_zero]
    refine sli_r (r_move rfl) rfl ?_
    refine sli_r (r_fa (o' := 3) rfl fl39_3 rfl) rfl ?_
    refine sli_r (r_ldw rfl (fun w1 hb1 hs1 hB1 => Blk.loads (o := 3) hc hb1 sc35 rfl)) rfl ?_
    refine sli_r (r_move rfl) rfl ?_
    refine sli_r (r_sub rfl rfl (by omega)) rfl ?_
    refine sli_ixr hS rfl rfl sl35 (by omega) rfl fun x16 hx16 => ?_
    try simp only [Int.toNat_natCast] at hx16
    refine sli_r (r_ldw rfl (fun w1 hb1 hs1 hB1 => Rd.loads hS ty51 hx16 hb1)) rfl ?_
    refine sli_r (r_fa (o' := 3) rfl fl39_3 rfl) rfl ?_
    refine sli_r (r_ldw rfl (fun w1 hb1 hs1 hB1 => Blk.loads (o := 3) hc hb1 sc35 rfl)) rfl ?_
    refine sli_r (r_move rfl) rfl ?_
    refine sli_ixr hS rfl rfl sl35 (by omega) rfl fun x21 hx21 => ?_
    try simp only [Int.toNat_natCast] at hx21
    refine sli_r (r_ldw rfl (fun w1 hb1 hs1 hB1 => Rd.loads hS ty51 hx21 hb1)) rfl ?_
    refine sli_nil ?_
    refine oli_yield rfl rfl rfl rfl rfl (fun w1 hb1 hs1 hB1 => ?_)
    obtain ⟨fn, tm, asg, bo, hy, hR⟩ := hY k (x16, x21) w1 (stepsL_get (by rw [← hx16]; congr 1; omega) (by rw [← hx21]; congr 1)) (hJb k W1 w1 hJ hb1)
    refine ⟨fn, tm, asg, bo, hy, hR.mono ?_⟩
    intro e w2 he
    obtain ⟨bb, rfl, hT, hF⟩ : ∃ bb, e = .returned (.bool bb) ∧ (bb = true → J (k + 1) w2) ∧ (bb = false → Jx w2) := by
      rcases he with ⟨rfl, h⟩ | ⟨rfl, h⟩
      · exact ⟨true, rfl, fun _ => h, fun h => by cases h⟩
      · exact ⟨false, rfl, fun h => (by cases h), fun _ => h⟩
    refine ⟨_, rfl, ?_⟩
    refine oli_r (r_not rfl) rfl ?_
    refine oli_nil (to_k0 (fun _ _ h => h) (hK6 _ _ _ _ _ ?_))
    clear hK6
    refine wp_condNB rfl (fun hc24 => ?_) (fun hc24 => ?_)
    ·refine hQ.ret (fun _ _ h => h) fun w hb hs hB => ?_
     exact .inr (hJx _ _ (hF hc24) hb)
    ·refine wp_skip' (to_k0 (fun _ _ h => h) (hK5 _ _ _ _ _ ?_))
     clear hK5
     refine wp_reg ?_
     refine ol_r (r_move rfl) rfl ?_
     refine ol_r (r_add rfl rfl (by omega)) rfl ?_
     refine ol_r (r_assign rfl) rfl ?_
     refine ol_nil (to_k0 (fun _ _ h => h) (hK2 (k + 1) _ _ _ _ ?_ ?_ (by exact (sub_cons rfl (sub_cons rfl (sub_cons rfl sub_nil)))) ?_))
     ·try dsimp only
      omega
     ·try dsimp only
      omega
     ·intro w hb hB
      exact hJb (k + 1) _ w (hT hc24) hb
   ·refine wp_exit' (hQ.fall (fun _ _ h => h) fun w hb hs hB => ?_)
    have hk : k = (stepsL A.ss).length := by omega
    exact .inl (hk ▸ hJb k _ w hJ hb)
theorem track_Steps (A : ActV) (w : World) (hA : A.Ok w.heap.size w) :
    Calls Try.prog 56 #[.agg #[.string A.name, .int .i64 A.sport, .int .i64 A.start, .slice A.sa A.sn A.sc, .slice A.la A.ln A.lc, .slice A.ta A.tn A.tc]] w fun e w' => ∃ b T, e = .returned (.func (.func 87) #[] #[.pointer (some ⟨b, 0, none⟩)]) ∧ Below w.heap.size w w' ∧ Sat w.heap.size w' [(1001, .blk b [(3, .slice A.sa A.sn A.sc)] T)] := by
  refine enterQ (N := 4) (C := fun _ => True) (H := []) (B := w.heap.size) (args := [_]) Try.func56 rfl rfl rfl (Nat.le_refl _) (Sat.nil _ _) fun Q hQ => ?_
  refine wp_seq' fun K1 hK1 => ?_
  refine wp_reg ?_
  refine ol_box 1 rfl rfl rfl fun b1 => ?_
  refine ol_r (r_assign rfl) rfl ?_
  refine ol_nil (to_k0 (fun _ _ h => h) (hK1 _ _ _ _ _ ?_))
  clear hK1
  refine wp_seq' fun K2 hK2 => ?_
  refine wp_reg ?_
  refine ol_r (r_func rfl) rfl ?_
  refine ol_r (r_assign rfl) rfl ?_
  refine ol_nil (to_k0 (fun _ _ h => h) (hK2 _ _ _ _ _ ?_))
  clear hK2
  refine hQ.ret (rvs1 (rv_t rfl)) (fun _ _ h => h) fun w hb hs hB hkd => ?_
  exact ⟨_, _, rfl, hb, hs.one 1 1001 rfl ⟨rfl, rfl, Sub.out (sub_cons rfl sub_nil)⟩⟩
end Go.Proofs.Ytjflbnbofedlkaa
