/-
  What harrierlaw5 tells, from the crossings in general; MatchCrossingsMatchSpec.
-/
import Derived.Test.YtbbhcffkleplnaaCross2
namespace Go.Proofs.Ytbbhcffkleplnaa
open Go Go.RowKit Hx
set_option linter.unusedVariables false
set_option linter.unusedSimpArgs false
set_option maxRecDepth 8000
theorem told_crossS : crossS toldG (stepsL toldS) (stepsL toldS).length = [⟨0, 0, 5000⟩] := by kernel_rfl
theorem told_R : crossR ⟨#[115]⟩ toldG toldD = ([⟨0, 0, 5000⟩], 0) := by
  unfold crossR
  rw [if_neg (by decide +kernel)]
  exact congrArg (fun l => (l, (0 : Int))) told_crossS
theorem law5_told (w : World) : Calls Try.prog 12 #[] w fun e w' => e = .returned (.bool true) ∧ Below w.heap.size w w' := by
  refine enterQ (N := 31) (C := fun _ => True) (H := []) (B := w.heap.size) (args := []) Try.func12 rfl rfl rfl (Nat.le_refl _) (Sat.nil _ _) fun Q hQ => ?_
  refine wp_seq' fun K1 hK1 => ?_
  refine wp_reg ?_
  refine ol_r (r_assign rfl) rfl ?_
  refine ol_nil (to_k0 (fun _ _ h => h) (hK1 _ _ _ _ _ ?_))
  clear hK1
  refine wp_seq' fun K2 hK2 => ?_
  refine wp_reg ?_
  refine ol_r (r_build rfl (fun _ => bd62_1 _ _)) rfl ?_
  refine ol_r (r_build rfl (fun _ => bd62_1 _ _)) rfl ?_
  refine ol_r (r_build rfl (fun _ => bd75_0_1 _ _ _ _ _)) rfl ?_
  refine ol_r (r_build rfl (fun _ => bd62_0_1 _ _ _)) rfl ?_
  refine ol_r (r_build rfl (fun _ => bd62_0_1 _ _ _)) rfl ?_
  refine ol_r (r_build rfl (fun _ => bd75_0_1 _ _ _ _ _)) rfl ?_
  refine ol_bsG (encGate.enc (toldG)) 11 rfl rw22 rfl rfl (fun _ => by kernel_rfl) rfl fun a11 => ?_
  refine ol_r (r_build rfl (fun _ => bd24_0_1 _ _ _ _ _)) rfl ?_
  refine ol_alloc 1 z24 rfl fun b1 => ?_
  refine ol_store (id := 1) rfl rfl rfl rfl sz24 rfl rfl (by first | decide | exact Nat.zero_lt_succ _ | simp) ?_
  refine ol_nil (to_k0 (fun _ _ h => h) (hK2 _ _ _ _ _ ?_))
  clear hK2
  refine wp_seq' fun K3 hK3 => ?_
  refine wp_reg ?_
  refine ol_r (r_build rfl (fun _ => bd73_1_4_5_6 _ _ _ _ _)) rfl ?_
  refine ol_r (r_build rfl (fun _ => bd73_0_1_4_5_6 _ _ _ _ _ _)) rfl ?_
  refine ol_bsG (encSmp.enc (toldS)) 15 rfl rw25 rfl rfl (fun _ => by kernel_rfl) rfl fun a15 => ?_
  refine ol_r (r_build rfl (fun _ => bd29_0_1_3 _ _ _ _ _ _)) rfl ?_
  refine ol_alloc 2 z29 rfl fun b2 => ?_
  refine ol_store (id := 2) rfl rfl rfl rfl sz29 rfl rfl (by first | decide | exact Nat.zero_lt_succ _ | simp) ?_
  refine ol_nil (to_k0 (fun _ _ h => h) (hK3 _ _ _ _ _ ?_))
  clear hK3
  refine wp_seq' fun K4 hK4 => ?_
  refine wp_reg ?_
  refine ol_r (r_lda (id := 1) (n := 2) rfl rfl rfl ag24) rfl ?_
  refine ol_r (r_lda (id := 2) (n := 6) rfl rfl rfl ag29) rfl ?_
  refine ol_call rfl rfl cb9 rfl (fun w1 hb1 hs1 hB1 => Calls.mono (match_Crossings ⟨#[115]⟩ _ _ _ toldG (toldA a15 2) _ (by show 1 ≤ _; decide) (Sat.rd hs1 (id := 11) rfl rfl) (toldA_ok (Sat.rd hs1 (id := 15) rfl rfl))) ?_)
  rintro e w2 ⟨a20, n20, c20, rfl, hf20⟩
  refine After.fresh (id := 20) rfl hb1 hs1 hB1 hf20 ?_
  have hl20 := hf20.len; clear hf20 hB1 hs1 hb1 w2 w1
  refine ol_r (r_move rfl) rfl ?_
  have hC : crossR ⟨#[115]⟩ toldG (toldA a15 2).d = ([⟨0, 0, 5000⟩], 0) := told_R
  rw [hC] at hl20 ⊢
  dsimp only at hl20 ⊢
  obtain rfl : n20 = 1 := by rw [← hl20]; rfl
  refine ol_r (r_extract rfl rfl) rfl ?_
  refine ol_r (r_extract rfl rfl) rfl ?_
  refine ol_r (r_assign rfl) rfl ?_
  refine ol_r (r_assign rfl) rfl ?_
  refine ol_nil (to_k0 (fun _ _ h => h) (hK4 _ _ _ _ _ ?_))
  clear hK4
  refine wp_seq' fun K5 hK5 => ?_
  refine wp_reg ?_
  refine ol_r (r_move rfl) rfl ?_
  refine ol_r (r_eql rfl rfl) rfl ?_
  refine ol_r (r_move rfl) rfl ?_
  refine ol_split (d := 25) rfl (fun hs25 => ?_) (fun hs25 => ?_)
  ·have phs25 := hs25; try simp only [decide_eq_true_eq, decide_eq_false_iff_not, Bool.not_eq_true', Bool.not_eq_false', Bool.not_true, Bool.not_false] at phs25
   refine ol_g rfl rfl hs25 ?_
   refine ol_r (r_move rfl) rfl ?_
   refine ol_g rfl rfl hs25 ?_
   refine ol_r (r_build rfl (fun _ => bd36_2 _ _)) rfl ?_
   refine ol_g rfl rfl hs25 ?_
   refine ol_bs1 28 rfl rfl rw30 rfl rfl rfl fun a28 => ?_
   refine ol_g rfl rfl hs25 ?_
   refine ol_call rfl rfl cb11 rfl (fun w1 hb1 hs1 hB1 => Calls.mono (equal_cr_same _ _ _ _ _ [⟨0, 0, 5000⟩] _ (Sat.rd hs1 (id := 20) rfl rfl) (Sat.rd hs1 (E := encCr) (xs := [⟨0, 0, 5000⟩]) (id := 28) rfl rfl)) ?_)
   rintro e w2 ⟨rfl, hb2⟩
   refine After.below rfl hb1 hs1 hB1 hb2 ?_
   clear hb2 hB1 hs1 hb1 w2 w1
   refine ol_r (r_pickT rfl hs25 rfl) rfl ?_
   refine ol_r (r_assign rfl) rfl ?_
   refine ol_nil (to_k0 (fun _ _ h => h) (hK5 _ _ _ _ _ ?_))
   clear hK5
   refine hQ.ret (rvs1 (rv_t rfl)) (fun _ _ h => h) fun w hb hs hB hkd => ?_
   first
     | exact ⟨rfl, hb⟩
  ·have phs25 := hs25; try simp only [decide_eq_true_eq, decide_eq_false_iff_not, Bool.not_eq_true', Bool.not_eq_false', Bool.not_true, Bool.not_false] at phs25
   refine ol_s rfl rfl hs25 rfl ?_
   refine ol_s rfl rfl hs25 rfl ?_
   refine ol_s rfl rfl hs25 rfl ?_
   refine ol_s rfl rfl hs25 rfl ?_
   refine ol_r (r_pickF rfl hs25 rfl) rfl ?_
   refine ol_r (r_assign rfl) rfl ?_
   refine ol_nil (to_k0 (fun _ _ h => h) (hK5 _ _ _ _ _ ?_))
   clear hK5
   refine hQ.ret (rvs1 (rv_t rfl)) (fun _ _ h => h) fun w hb hs hB hkd => ?_
   first
     | (exfalso; simp at phs25; done)
theorem law_crossings (nm : ByteArray) (ga : Option Addr) (gn gc : Nat) (gs : List GateR) (A : ActV) (w : World) (hn : nm.size ≤ 9223372036854775807) (hS : Rd encGate w.heap.size w ga gn gc gs) (hA : A.Ok w.heap.size w) :
    Calls Try.prog 3 #[.agg #[.string nm, .slice ga gn gc], .agg #[.string A.name, .int .i64 A.sport, .int .i64 A.start, .slice A.sa A.sn A.sc, .slice A.la A.ln A.lc, .slice A.ta A.tn A.tc]] w fun e w' => e = .returned (.bool true) ∧ Below w.heap.size w w' := by
  refine enterQ (N := 32) (C := fun _ => True) (H := []) (B := w.heap.size) (args := [_, _]) Try.func3 rfl rfl rfl (Nat.le_refl _) (Sat.nil _ _) fun Q hQ => ?_
  refine wp_seq' fun K1 hK1 => ?_
  refine wp_reg ?_
  refine ol_box 2 rfl rfl rfl fun b2 => ?_
  refine ol_box 3 rfl rfl rfl fun b3 => ?_
  refine ol_r (r_assign rfl) rfl ?_
  refine ol_nil (to_k0 (fun _ _ h => h) (hK1 _ _ _ _ _ ?_))
  clear hK1
  refine wp_seq' fun K2 hK2 => ?_
  refine wp_reg ?_
  refine ol_r (r_lda (id := 2) (n := 2) rfl rfl rfl ag24) rfl ?_
  refine ol_r (r_lda (id := 3) (n := 6) rfl rfl rfl ag29) rfl ?_
  refine ol_call rfl rfl cb9 rfl (fun w1 hb1 hs1 hB1 => Calls.mono (match_Crossings nm _ _ _ gs A _ hn (hS.at hb1 hB1) (hA.at hb1 hB1)) ?_)
  rintro e w2 ⟨a12, n12, c12, rfl, hf12⟩
  refine After.fresh (id := 12) rfl hb1 hs1 hB1 hf12 ?_
  have hl12 := hf12.len; clear hf12 hB1 hs1 hb1 w2 w1
  refine ol_r (r_move rfl) rfl ?_
  refine ol_r (r_extract rfl rfl) rfl ?_
  refine ol_r (r_extract rfl rfl) rfl ?_
  refine ol_r (r_assign rfl) rfl ?_
  refine ol_r (r_assign rfl) rfl ?_
  refine ol_nil (to_k0 (fun _ _ h => h) (hK2 _ _ _ _ _ ?_))
  clear hK2
  refine wp_seq' fun K3 hK3 => ?_
  refine wp_reg ?_
  refine ol_r (r_lda (id := 2) (n := 2) rfl rfl rfl ag24) rfl ?_
  refine ol_r (r_lda (id := 3) (n := 6) rfl rfl rfl ag29) rfl ?_
  refine ol_call rfl rfl cb10 rfl (fun w1 hb1 hs1 hB1 => Calls.mono (ref5_Crossings nm _ _ _ gs A _ hn (hS.at hb1 hB1) (hA.at hb1 hB1)) ?_)
  rintro e w2 ⟨a18, n18, c18, rfl, hf18⟩
  refine After.fresh (id := 18) rfl hb1 hs1 hB1 hf18 ?_
  have hl18 := hf18.len; clear hf18 hB1 hs1 hb1 w2 w1
  refine ol_r (r_move rfl) rfl ?_
  refine ol_r (r_extract rfl rfl) rfl ?_
  refine ol_r (r_extract rfl rfl) rfl ?_
  refine ol_r (r_assign rfl) rfl ?_
  refine ol_r (r_assign rfl) rfl ?_
  refine ol_nil (to_k0 (fun _ _ h => h) (hK3 _ _ _ _ _ ?_))
  clear hK3
  refine wp_seq' fun K4 hK4 => ?_
  refine wp_reg ?_
  refine ol_r (r_move rfl) rfl ?_
  refine ol_r (r_move rfl) rfl ?_
  obtain rfl : n12 = n18 := by rw [← hl12, ← hl18]
  refine ol_call rfl rfl cb11 rfl (fun w1 hb1 hs1 hB1 => Calls.mono (equal_cr_same _ _ _ _ _ _ _ (Sat.rd hs1 (id := 12) rfl rfl) (Sat.rd hs1 (id := 18) rfl rfl)) ?_)
  rintro e w2 ⟨rfl, hb2⟩
  refine After.below rfl hb1 hs1 hB1 hb2 ?_
  clear hb2 hB1 hs1 hb1 w2 w1
  refine ol_r (r_move rfl) rfl ?_
  refine ol_split (d := 24) rfl (fun hs24 => ?_) (fun hs24 => ?_)
  ·have phs24 := hs24; try simp only [decide_eq_true_eq, decide_eq_false_iff_not, Bool.not_eq_true', Bool.not_eq_false', Bool.not_true, Bool.not_false] at phs24
   refine ol_g rfl rfl hs24 ?_
   refine ol_r (r_move rfl) rfl ?_
   refine ol_g rfl rfl hs24 ?_
   refine ol_r (r_move rfl) rfl ?_
   refine ol_g rfl rfl hs24 ?_
   refine ol_r (r_eql rfl rfl) rfl ?_
   refine ol_r (r_pickT rfl hs24 rfl) rfl ?_
   refine ol_r (r_move rfl) rfl ?_
   refine ol_split (d := 29) rfl (fun hs29 => ?_) (fun hs29 => ?_)
   ·have phs29 := hs29; try simp only [decide_eq_true_eq, decide_eq_false_iff_not, Bool.not_eq_true', Bool.not_eq_false', Bool.not_true, Bool.not_false] at phs29
    refine ol_g rfl rfl hs29 ?_
    refine ol_call rfl rfl cb12 rfl (fun w1 hb1 hs1 hB1 => Calls.mono (law5_told _) ?_)
    rintro e w2 ⟨rfl, hb2⟩
    refine After.below rfl hb1 hs1 hB1 hb2 ?_
    clear hb2 hB1 hs1 hb1 w2 w1
    refine ol_r (r_pickT rfl hs29 rfl) rfl ?_
    refine ol_r (r_assign rfl) rfl ?_
    refine ol_nil (to_k0 (fun _ _ h => h) (hK4 _ _ _ _ _ ?_))
    clear hK4
    refine hQ.ret (rvs1 (rv_t rfl)) (fun _ _ h => h) fun w hb hs hB hkd => ?_
    first
      | exact ⟨rfl, hb⟩
   ·have phs29 := hs29; try simp only [decide_eq_true_eq, decide_eq_false_iff_not, Bool.not_eq_true', Bool.not_eq_false', Bool.not_true, Bool.not_false] at phs29
    refine ol_s rfl rfl hs29 rfl ?_
    refine ol_r (r_pickF rfl hs29 rfl) rfl ?_
    refine ol_r (r_assign rfl) rfl ?_
    refine ol_nil (to_k0 (fun _ _ h => h) (hK4 _ _ _ _ _ ?_))
    clear hK4
    refine hQ.ret (rvs1 (rv_t rfl)) (fun _ _ h => h) fun w hb hs hB hkd => ?_
    first
      | (exfalso; simp at hs29; done)
  ·have phs24 := hs24; try simp only [decide_eq_true_eq, decide_eq_false_iff_not, Bool.not_eq_true', Bool.not_eq_false', Bool.not_true, Bool.not_false] at phs24
   refine ol_s rfl rfl hs24 rfl ?_
   refine ol_s rfl rfl hs24 rfl ?_
   refine ol_s rfl rfl hs24 rfl ?_
   refine ol_r (r_pickF rfl hs24 rfl) rfl ?_
   refine ol_r (r_move rfl) rfl ?_
   refine ol_s rfl rfl rfl rfl ?_
   refine ol_r (r_pickF rfl rfl rfl) rfl ?_
   refine ol_r (r_assign rfl) rfl ?_
   refine ol_nil (to_k0 (fun _ _ h => h) (hK4 _ _ _ _ _ ?_))
   clear hK4
   refine hQ.ret (rvs1 (rv_t rfl)) (fun _ _ h => h) fun w hb hs hB hkd => ?_
   first
     | (exfalso; simp at hs24; done)
end Go.Proofs.Ytbbhcffkleplnaa
