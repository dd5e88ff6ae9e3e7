/-
  MatchSegmentsMatchSpec.
-/
import Derived.Test.YtbbhcffkleplnaaTold
namespace Go.Proofs.Ytbbhcffkleplnaa
open Go Go.RowKit Hx
set_option linter.unusedVariables false
set_option linter.unusedSimpArgs false
set_option maxRecDepth 8000
theorem turnR_nm {nm : ByteArray} {gs : List GateR} (h : nm.size ≤ 9223372036854775807) : (turnR nm gs).1.size ≤ 9223372036854775807 := by
  unfold turnR
  split
  · exact Nat.zero_le _
  · exact h
theorem turnR_twice {nm : ByteArray} {gs : List GateR} (h : (turnR nm gs).2.2 = 0) : turnR (turnR nm gs).1 (turnR nm gs).2.1 = (nm, gs, 0) := by
  have h0 : chkSeg nm gs = 0 := by
    apply Decidable.byContradiction
    intro h1
    rw [turnR_e h1] at h
    exact h1 h
  rw [turnR_0 h0]
  show turnR nm (turnL gs) = _
  rw [turnR_0 (turn_ok (segOk h0)).chk, turnL_two]
theorem law5_same2 (nm nm' : ByteArray) (a b : Option Addr) (n c1 c2 : Nat) (xs ys : List GateR) (w : World) (hm : nm' = nm) (hx : Rd encGate w.heap.size w a n c1 ys) (hxy : ys = xs) (hy : Rd encGate w.heap.size w b n c2 xs) :
    Calls Try.prog 17 #[.agg #[.string nm', .slice a n c1], .agg #[.string nm, .slice b n c2]] w fun e w' => e = .returned (.bool true) ∧ Below w.heap.size w w' := by
  subst hm
  subst hxy
  exact law5_same _ _ _ _ _ _ _ _ hx hy
theorem law_seg (nm : ByteArray) (ga : Option Addr) (gn gc : Nat) (gs : List GateR) (w : World) (hn : nm.size ≤ 9223372036854775807) (hS : Rd encGate w.heap.size w ga gn gc gs) :
    Calls Try.prog 4 #[.agg #[.string nm, .slice ga gn gc]] w fun e w' => e = .returned (.bool true) ∧ Below w.heap.size w w' := by
  refine enterQ (N := 55) (C := fun _ => True) (H := []) (B := w.heap.size) (args := [_]) Try.func4 rfl rfl rfl (Nat.le_refl _) (Sat.nil _ _) fun Q hQ => ?_
  refine wp_seq' fun K1 hK1 => ?_
  refine wp_reg ?_
  refine ol_box 1 rfl rfl rfl fun b1 => ?_
  refine ol_r (r_assign rfl) rfl ?_
  refine ol_nil (to_k0 (fun _ _ h => h) (hK1 _ _ _ _ _ ?_))
  clear hK1
  refine wp_seq' fun K2 hK2 => ?_
  refine wp_reg ?_
  refine ol_r (r_lda (id := 1) (n := 2) rfl rfl rfl ag24) rfl ?_
  refine ol_call rfl rfl cb13 rfl (fun w1 hb1 hs1 hB1 => ?_)
  refine Calls.mono (match_Turned nm _ _ _ gs _ hn (hS.at hb1 hB1)) ?_
  rintro e w2 ⟨a11, n11, c11, rfl, hf⟩
  refine After.fresh (id := 1011) rfl hb1 hs1 hB1 hf ?_
  have hl11 := hf.len; clear hf hB1 hs1 hb1 w2 w1
  refine ol_r (r_move rfl) rfl ?_
  refine ol_r (r_extract rfl rfl) rfl ?_
  refine ol_r (r_extract rfl rfl) rfl ?_
  refine ol_alloc 3 z24 rfl fun b3 => ?_
  refine ol_store (id := 3) rfl rfl rfl rfl sz24 rfl rfl (by first | decide | exact Nat.zero_lt_succ _ | simp) ?_
  refine ol_r (r_assign rfl) rfl ?_
  refine ol_nil (to_k0 (fun _ _ h => h) (hK2 _ _ _ _ _ ?_))
  clear hK2
  refine wp_seq' fun K3 hK3 => ?_
  refine wp_reg ?_
  refine ol_r (r_lda (id := 1) (n := 2) rfl rfl rfl ag24) rfl ?_
  refine ol_call rfl rfl cb14 rfl (fun w1 hb1 hs1 hB1 => ?_)
  refine Calls.mono (ref5_Turned nm _ _ _ gs _ hn (hS.at hb1 hB1)) ?_
  rintro e w2 ⟨a16, n16, c16, rfl, hf⟩
  refine After.fresh (id := 1016) rfl hb1 hs1 hB1 hf ?_
  have hl16 := hf.len; clear hf hB1 hs1 hb1 w2 w1
  refine ol_r (r_move rfl) rfl ?_
  refine ol_r (r_extract rfl rfl) rfl ?_
  refine ol_r (r_extract rfl rfl) rfl ?_
  refine ol_alloc 5 z24 rfl fun b5 => ?_
  refine ol_store (id := 5) rfl rfl rfl rfl sz24 rfl rfl (by first | decide | exact Nat.zero_lt_succ _ | simp) ?_
  refine ol_r (r_assign rfl) rfl ?_
  refine ol_nil (to_k0 (fun _ _ h => h) (hK3 _ _ _ _ _ ?_))
  clear hK3
  refine wp_seq' fun K4 hK4 => ?_
  refine wp_reg ?_
  refine ol_r (r_lda (id := 3) (n := 2) rfl rfl rfl ag24) rfl ?_
  refine ol_call rfl rfl cb13 rfl (fun w1 hb1 hs1 hB1 => ?_)
  refine Calls.mono (match_Turned (turnR nm gs).1 _ _ _ (turnR nm gs).2.1 _ (turnR_nm hn) (Sat.rd hs1 (id := 1011) rfl rfl)) ?_
  rintro e w2 ⟨a21, n21, c21, rfl, hf⟩
  refine After.fresh (id := 1021) rfl hb1 hs1 hB1 hf ?_
  have hl21 := hf.len; clear hf hB1 hs1 hb1 w2 w1
  refine ol_r (r_move rfl) rfl ?_
  refine ol_r (r_extract rfl rfl) rfl ?_
  refine ol_r (r_extract rfl rfl) rfl ?_
  refine ol_alloc 7 z24 rfl fun b7 => ?_
  refine ol_store (id := 7) rfl rfl rfl rfl sz24 rfl rfl (by first | decide | exact Nat.zero_lt_succ _ | simp) ?_
  refine ol_r (r_assign rfl) rfl ?_
  refine ol_nil (to_k0 (fun _ _ h => h) (hK4 _ _ _ _ _ ?_))
  clear hK4
  refine wp_seq' fun K5 hK5 => ?_
  refine wp_regq (by kernel_rfl) (by kernel_rfl) ?_
  obtain rfl : n16 = n11 := by rw [← hl16, ← hl11]
  refine ql_r (r_lda (id := 1) (n := 2) rfl rfl rfl ag24) rfl ?_
  refine ql_call rfl rfl cb15 rfl (fun w1 hb1 hs1 hB1 => match_CheckSegment nm _ _ _ gs _ hn (hS.at hb1 hB1)) ?_
  refine ql_r (r_lda (id := 1) (n := 2) rfl rfl rfl ag24) rfl ?_
  refine ql_call rfl rfl cb16 rfl (fun w1 hb1 hs1 hB1 => ref5_CheckSegment nm _ _ _ gs _ hn (hS.at hb1 hB1)) ?_
  refine ql_r (r_eql rfl rfl) rfl ?_
  refine ql_r (r_move rfl) rfl ?_
  refine ql_split (d := 29) rfl (fun hs29 => ?_) (fun hs29 => ?_)
  ·have phs29 := hs29; try simp only [decide_eq_true_eq, decide_eq_false_iff_not, Bool.not_eq_true', Bool.not_eq_false', Bool.not_true, Bool.not_false] at phs29
   refine ql_g rfl rfl hs29 ?_
   refine ql_r (r_lda (id := 3) (n := 2) rfl rfl rfl ag24) rfl ?_
   refine ql_g rfl rfl hs29 ?_
   refine ql_r (r_lda (id := 5) (n := 2) rfl rfl rfl ag24) rfl ?_
   refine ql_g rfl rfl hs29 ?_
   refine ql_call rfl rfl cb17 rfl (fun w1 hb1 hs1 hB1 => law5_same _ _ _ _ _ _ (turnR nm gs).2.1 _ (Sat.rd hs1 (id := 1011) rfl rfl) (Sat.rd hs1 (id := 1016) rfl rfl)) ?_
   refine ql_r (r_pickT rfl hs29 rfl) rfl ?_
   refine ql_r (r_move rfl) rfl ?_
   refine ql_split (d := 34) rfl (fun hs34 => ?_) (fun hs34 => ?_)
   ·have phs34 := hs34; try simp only [decide_eq_true_eq, decide_eq_false_iff_not, Bool.not_eq_true', Bool.not_eq_false', Bool.not_true, Bool.not_false] at phs34
    refine ql_g rfl rfl hs34 ?_
    refine ql_r (r_move rfl) rfl ?_
    refine ql_g rfl rfl hs34 ?_
    refine ql_r (r_move rfl) rfl ?_
    refine ql_g rfl rfl hs34 ?_
    refine ql_r (r_eql rfl rfl) rfl ?_
    refine ql_r (r_pickT rfl hs34 rfl) rfl ?_
    refine ql_r (r_move rfl) rfl ?_
    refine ql_split (d := 39) rfl (fun hs39 => ?_) (fun hs39 => ?_)
    ·have phs39 := hs39; try simp only [decide_eq_true_eq, decide_eq_false_iff_not, Bool.not_eq_true', Bool.not_eq_false', Bool.not_true, Bool.not_false] at phs39
     refine ql_g rfl rfl hs39 ?_
     refine ql_r (r_move rfl) rfl ?_
     refine ql_g rfl rfl hs39 ?_
     refine ql_r (r_neq rfl rfl) rfl ?_
     refine ql_g rfl rfl hs39 ?_
     refine ql_r (r_move rfl) rfl ?_
     refine ql_split (d := 42) rfl (fun hs42 => ?_) (fun hs42 => ?_)
     ·have phs42 := hs42; try simp only [decide_eq_true_eq, decide_eq_false_iff_not, Bool.not_eq_true', Bool.not_eq_false', Bool.not_true, Bool.not_false] at phs42
      refine ql_s rfl rfl hs42 rfl ?_
      refine ql_s rfl rfl hs42 rfl ?_
      refine ql_s rfl rfl hs42 rfl ?_
      refine ql_u rfl rfl rfl ?_
      refine ql_u rfl rfl rfl ?_
      refine ql_u rfl rfl rfl ?_
      refine ql_s rfl rfl hs42 rfl ?_
      refine ql_g rfl rfl hs39 ?_
      refine ql_r (r_pickT rfl hs42 rfl) rfl ?_
      refine ql_r (r_pickT rfl hs39 rfl) rfl ?_
      refine ql_r (r_move rfl) rfl ?_
      refine ql_g rfl rfl rfl ?_
      refine ql_call rfl rfl cb12 rfl (fun w1 hb1 hs1 hB1 => law5_told _) ?_
      refine ql_r (r_pickT rfl rfl rfl) rfl ?_
      refine ql_r (r_assign rfl) rfl ?_
      refine ql_nil (to_k0 (fun _ _ h => h) (hK5 _ _ _ _ _ ?_))
      clear hK5
      refine hQ.ret (rvs1 (rv_t rfl)) (fun _ _ h => h) fun w hb hs hB hkd => ?_
      first
        | exact ⟨rfl, hb⟩
        | (exfalso; exact phs39 trivial)
        | (exfalso; exact phs45 (by rw [turnR_twice (Decidable.not_not.1 phs42)]))
        | (exfalso; simp at phs34; done)
        | (exfalso; simp at phs29; done)
        | (exfalso; simp at phs52; done)
     ·have phs42 := hs42; try simp only [decide_eq_true_eq, decide_eq_false_iff_not, Bool.not_eq_true', Bool.not_eq_false', Bool.not_true, Bool.not_false] at phs42
      refine ql_g rfl rfl hs42 ?_
      refine ql_r (r_move rfl) rfl ?_
      refine ql_g rfl rfl hs42 ?_
      refine ql_r (r_eql rfl rfl) rfl ?_
      refine ql_g rfl rfl hs42 ?_
      refine ql_r (r_move rfl) rfl ?_
      refine ql_split (d := 45) rfl (fun hs45 => ?_) (fun hs45 => ?_)
      ·have phs45 := hs45; try simp only [decide_eq_true_eq, decide_eq_false_iff_not, Bool.not_eq_true', Bool.not_eq_false', Bool.not_true, Bool.not_false] at phs45
       refine ql_g rfl rfl hs45 ?_
       have hT := turnR_twice (Decidable.not_not.1 phs42)
       obtain rfl : n21 = gn := by rw [← hl21, hT]; exact hS.len
       refine ql_r (r_lda (id := 7) (n := 2) rfl rfl rfl ag24) rfl ?_
       refine ql_g rfl rfl hs45 ?_
       refine ql_r (r_lda (id := 1) (n := 2) rfl rfl rfl ag24) rfl ?_
       refine ql_g rfl rfl hs45 ?_
       refine ql_call rfl rfl cb17 rfl (fun w1 hb1 hs1 hB1 => law5_same2 nm _ _ _ _ _ _ gs _ _ (by rw [hT]) (Sat.rd hs1 (id := 1021) rfl rfl) (by rw [hT]) (hS.at hb1 hB1)) ?_
       refine ql_g rfl rfl hs42 ?_
       refine ql_r (r_pickT rfl hs45 rfl) rfl ?_
       refine ql_g rfl rfl hs39 ?_
       refine ql_r (r_pickF rfl hs42 rfl) rfl ?_
       refine ql_r (r_pickT rfl hs39 rfl) rfl ?_
       refine ql_r (r_move rfl) rfl ?_
       refine ql_split (d := 52) rfl (fun hs52 => ?_) (fun hs52 => ?_)
       ·have phs52 := hs52; try simp only [decide_eq_true_eq, decide_eq_false_iff_not, Bool.not_eq_true', Bool.not_eq_false', Bool.not_true, Bool.not_false] at phs52
        refine ql_g rfl rfl hs52 ?_
        refine ql_call rfl rfl cb12 rfl (fun w1 hb1 hs1 hB1 => law5_told _) ?_
        refine ql_r (r_pickT rfl hs52 rfl) rfl ?_
        refine ql_r (r_assign rfl) rfl ?_
        refine ql_nil (to_k0 (fun _ _ h => h) (hK5 _ _ _ _ _ ?_))
        clear hK5
        refine hQ.ret (rvs1 (rv_t rfl)) (fun _ _ h => h) fun w hb hs hB hkd => ?_
        first
          | exact ⟨rfl, hb⟩
          | (exfalso; exact phs39 trivial)
          | (exfalso; exact phs45 (by rw [turnR_twice (Decidable.not_not.1 phs42)]))
          | (exfalso; simp at phs34; done)
          | (exfalso; simp at phs29; done)
          | (exfalso; simp at phs52; done)
       ·have phs52 := hs52; try simp only [decide_eq_true_eq, decide_eq_false_iff_not, Bool.not_eq_true', Bool.not_eq_false', Bool.not_true, Bool.not_false] at phs52
        refine ql_s rfl rfl hs52 rfl ?_
        refine ql_r (r_pickF rfl hs52 rfl) rfl ?_
        refine ql_r (r_assign rfl) rfl ?_
        refine ql_nil (to_k0 (fun _ _ h => h) (hK5 _ _ _ _ _ ?_))
        clear hK5
        refine hQ.ret (rvs1 (rv_t rfl)) (fun _ _ h => h) fun w hb hs hB hkd => ?_
        first
          | exact ⟨rfl, hb⟩
          | (exfalso; exact phs39 trivial)
          | (exfalso; exact phs45 (by rw [turnR_twice (Decidable.not_not.1 phs42)]))
          | (exfalso; simp at phs34; done)
          | (exfalso; simp at phs29; done)
          | (exfalso; simp at phs52; done)
      ·have phs45 := hs45; try simp only [decide_eq_true_eq, decide_eq_false_iff_not, Bool.not_eq_true', Bool.not_eq_false', Bool.not_true, Bool.not_false] at phs45
       refine ql_s rfl rfl hs45 rfl ?_
       refine ql_s rfl rfl hs45 rfl ?_
       refine ql_s rfl rfl hs45 rfl ?_
       refine ql_g rfl rfl hs42 ?_
       refine ql_r (r_pickF rfl hs45 rfl) rfl ?_
       refine ql_g rfl rfl hs39 ?_
       refine ql_r (r_pickF rfl hs42 rfl) rfl ?_
       refine ql_r (r_pickT rfl hs39 rfl) rfl ?_
       refine ql_r (r_move rfl) rfl ?_
       refine ql_s rfl rfl rfl rfl ?_
       refine ql_r (r_pickF rfl rfl rfl) rfl ?_
       refine ql_r (r_assign rfl) rfl ?_
       refine ql_nil (to_k0 (fun _ _ h => h) (hK5 _ _ _ _ _ ?_))
       clear hK5
       refine hQ.ret (rvs1 (rv_t rfl)) (fun _ _ h => h) fun w hb hs hB hkd => ?_
       first
         | exact ⟨rfl, hb⟩
         | (exfalso; exact phs39 trivial)
         | (exfalso; exact phs45 (by rw [turnR_twice (Decidable.not_not.1 phs42)]))
         | (exfalso; simp at phs34; done)
         | (exfalso; simp at phs29; done)
         | (exfalso; simp at phs52; done)
    ·have phs39 := hs39; try simp only [decide_eq_true_eq, decide_eq_false_iff_not, Bool.not_eq_true', Bool.not_eq_false', Bool.not_true, Bool.not_false] at phs39
     refine ql_s rfl rfl hs39 rfl ?_
     refine ql_s rfl rfl hs39 rfl ?_
     refine ql_s rfl rfl hs39 rfl ?_
     refine ql_u rfl rfl rfl ?_
     refine ql_u rfl rfl rfl ?_
     refine ql_u rfl rfl rfl ?_
     refine ql_u rfl rfl rfl ?_
     refine ql_u rfl rfl rfl ?_
     refine ql_u rfl rfl rfl ?_
     refine ql_u rfl rfl rfl ?_
     refine ql_s rfl rfl hs39 rfl ?_
     refine ql_r (r_pickF rfl hs39 rfl) rfl ?_
     refine ql_r (r_move rfl) rfl ?_
     refine ql_s rfl rfl rfl rfl ?_
     refine ql_r (r_pickF rfl rfl rfl) rfl ?_
     refine ql_r (r_assign rfl) rfl ?_
     refine ql_nil (to_k0 (fun _ _ h => h) (hK5 _ _ _ _ _ ?_))
     clear hK5
     refine hQ.ret (rvs1 (rv_t rfl)) (fun _ _ h => h) fun w hb hs hB hkd => ?_
     first
       | exact ⟨rfl, hb⟩
       | (exfalso; exact phs39 trivial)
       | (exfalso; exact phs45 (by rw [turnR_twice (Decidable.not_not.1 phs42)]))
       | (exfalso; simp at phs34; done)
       | (exfalso; simp at phs29; done)
       | (exfalso; simp at phs52; done)
   ·have phs34 := hs34; try simp only [decide_eq_true_eq, decide_eq_false_iff_not, Bool.not_eq_true', Bool.not_eq_false', Bool.not_true, Bool.not_false] at phs34
    refine ql_s rfl rfl hs34 rfl ?_
    refine ql_s rfl rfl hs34 rfl ?_
    refine ql_s rfl rfl hs34 rfl ?_
    refine ql_r (r_pickF rfl hs34 rfl) rfl ?_
    refine ql_r (r_move rfl) rfl ?_
    refine ql_s rfl rfl rfl rfl ?_
    refine ql_s rfl rfl rfl rfl ?_
    refine ql_s rfl rfl rfl rfl ?_
    refine ql_u rfl rfl rfl ?_
    refine ql_u rfl rfl rfl ?_
    refine ql_u rfl rfl rfl ?_
    refine ql_u rfl rfl rfl ?_
    refine ql_u rfl rfl rfl ?_
    refine ql_u rfl rfl rfl ?_
    refine ql_u rfl rfl rfl ?_
    refine ql_s rfl rfl rfl rfl ?_
    refine ql_r (r_pickF rfl rfl rfl) rfl ?_
    refine ql_r (r_move rfl) rfl ?_
    refine ql_s rfl rfl rfl rfl ?_
    refine ql_r (r_pickF rfl rfl rfl) rfl ?_
    refine ql_r (r_assign rfl) rfl ?_
    refine ql_nil (to_k0 (fun _ _ h => h) (hK5 _ _ _ _ _ ?_))
    clear hK5
    refine hQ.ret (rvs1 (rv_t rfl)) (fun _ _ h => h) fun w hb hs hB hkd => ?_
    first
      | exact ⟨rfl, hb⟩
      | (exfalso; exact phs39 trivial)
      | (exfalso; exact phs45 (by rw [turnR_twice (Decidable.not_not.1 phs42)]))
      | (exfalso; simp at phs34; done)
      | (exfalso; simp at phs29; done)
      | (exfalso; simp at phs52; done)
  ·have phs29 := hs29; try simp only [decide_eq_true_eq, decide_eq_false_iff_not, Bool.not_eq_true', Bool.not_eq_false', Bool.not_true, Bool.not_false] at phs29
   refine ql_s rfl rfl hs29 rfl ?_
   refine ql_s rfl rfl hs29 rfl ?_
   refine ql_s rfl rfl hs29 rfl ?_
   refine ql_r (r_pickF rfl hs29 rfl) rfl ?_
   refine ql_r (r_move rfl) rfl ?_
   refine ql_s rfl rfl rfl rfl ?_
   refine ql_s rfl rfl rfl rfl ?_
   refine ql_s rfl rfl rfl rfl ?_
   refine ql_r (r_pickF rfl rfl rfl) rfl ?_
   refine ql_r (r_move rfl) rfl ?_
   refine ql_s rfl rfl rfl rfl ?_
   refine ql_s rfl rfl rfl rfl ?_
   refine ql_s rfl rfl rfl rfl ?_
   refine ql_u rfl rfl rfl ?_
   refine ql_u rfl rfl rfl ?_
   refine ql_u rfl rfl rfl ?_
   refine ql_u rfl rfl rfl ?_
   refine ql_u rfl rfl rfl ?_
   refine ql_u rfl rfl rfl ?_
   refine ql_u rfl rfl rfl ?_
   refine ql_s rfl rfl rfl rfl ?_
   refine ql_r (r_pickF rfl rfl rfl) rfl ?_
   refine ql_r (r_move rfl) rfl ?_
   refine ql_s rfl rfl rfl rfl ?_
   refine ql_r (r_pickF rfl rfl rfl) rfl ?_
   refine ql_r (r_assign rfl) rfl ?_
   refine ql_nil (to_k0 (fun _ _ h => h) (hK5 _ _ _ _ _ ?_))
   clear hK5
   refine hQ.ret (rvs1 (rv_t rfl)) (fun _ _ h => h) fun w hb hs hB hkd => ?_
   first
     | exact ⟨rfl, hb⟩
     | (exfalso; exact phs39 trivial)
     | (exfalso; exact phs45 (by rw [turnR_twice (Decidable.not_not.1 phs42)]))
     | (exfalso; simp at phs34; done)
     | (exfalso; simp at phs29; done)
     | (exfalso; simp at phs52; done)
end Go.Proofs.Ytbbhcffkleplnaa
