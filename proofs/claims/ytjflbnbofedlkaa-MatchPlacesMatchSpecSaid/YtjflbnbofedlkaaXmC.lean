/-
  Names, titles, Check, Span: program and reference.
-/
import Derived.Test.YtjflbnbofedlkaaXmA
import Derived.Test.YtjflbnbofedlkaaXmB


namespace Go.Proofs.Ytjflbnbofedlkaa
open Go Go.RowKit Hx
set_option linter.unusedVariables false
set_option linter.unusedSimpArgs false
set_option maxRecDepth 8000
theorem record_in (n a b : Int) (w : World) : Calls Try.prog 83 #[.int .i64 n, .int .i64 a, .int .i64 b] w fun e w' => e = .returned (.bool (inB n a b)) ∧ Below w.heap.size w w' := by
  refine enterQ (N := 15) (C := fun _ => True) (H := []) (B := w.heap.size) (args := [_, _, _]) Try.func83 rfl rfl rfl (Nat.le_refl _) (Sat.nil _ _) fun Q hQ => ?_
  refine wp_seq' fun K1 hK1 => ?_
  refine wp_reg ?_
  refine ol_r (r_assign rfl) rfl ?_
  refine ol_nil (to_k0 (fun _ _ h => h) (hK1 _ _ _ _ _ ?_))
  clear hK1
  refine wp_seq' fun K2 hK2 => ?_
  refine wp_reg ?_
  refine ol_r (r_move rfl) rfl ?_
  refine ol_r (r_move rfl) rfl ?_
  refine ol_r (r_geq rfl rfl) rfl ?_
  refine ol_r (r_move rfl) rfl ?_
  refine ol_split (d := 10) rfl (fun hs10 => ?_) (fun hs10 => ?_)
  ·have phs10 := hs10; try simp only [decide_eq_true_eq, decide_eq_false_iff_not, Bool.not_eq_true', Bool.not_eq_false', Bool.not_true, Bool.not_false] at phs10
   refine ol_g rfl rfl hs10 ?_
   refine ol_r (r_move rfl) rfl ?_
   refine ol_g rfl rfl hs10 ?_
   refine ol_r (r_move rfl) rfl ?_
   refine ol_g rfl rfl hs10 ?_
   refine ol_r (r_leq rfl rfl) rfl ?_
   refine ol_r (r_pickT rfl hs10 rfl) rfl ?_
   refine ol_r (r_assign rfl) rfl ?_
   refine ol_nil (to_k0 (fun _ _ h => h) (hK2 _ _ _ _ _ ?_))
   clear hK2
   refine hQ.ret (rvs1 (rv_t rfl)) (fun _ _ h => h) fun w hb hs hB hkd => ?_
   exact ⟨by simp [inB, hs10], hb⟩
  ·have phs10 := hs10; try simp only [decide_eq_true_eq, decide_eq_false_iff_not, Bool.not_eq_true', Bool.not_eq_false', Bool.not_true, Bool.not_false] at phs10
   refine ol_s rfl rfl hs10 rfl ?_
   refine ol_s rfl rfl hs10 rfl ?_
   refine ol_s rfl rfl hs10 rfl ?_
   refine ol_r (r_pickF rfl hs10 rfl) rfl ?_
   refine ol_r (r_assign rfl) rfl ?_
   refine ol_nil (to_k0 (fun _ _ h => h) (hK2 _ _ _ _ _ ?_))
   clear hK2
   refine hQ.ret (rvs1 (rv_t rfl)) (fun _ _ h => h) fun w hb hs hB hkd => ?_
   exact ⟨by simp [inB, hs10], hb⟩
theorem ref2_outside (n a b : Int) (w : World) : Calls Try.prog 89 #[.int .i64 n, .int .i64 a, .int .i64 b] w fun e w' => e = .returned (.bool (!inB n a b)) ∧ Below w.heap.size w w' := by
  refine enterQ (N := 15) (C := fun _ => True) (H := []) (B := w.heap.size) (args := [_, _, _]) Try.func89 rfl rfl rfl (Nat.le_refl _) (Sat.nil _ _) fun Q hQ => ?_
  refine wp_seq' fun K1 hK1 => ?_
  refine wp_reg ?_
  refine ol_r (r_assign rfl) rfl ?_
  refine ol_nil (to_k0 (fun _ _ h => h) (hK1 _ _ _ _ _ ?_))
  clear hK1
  refine wp_seq' fun K2 hK2 => ?_
  refine wp_reg ?_
  refine ol_r (r_move rfl) rfl ?_
  refine ol_r (r_move rfl) rfl ?_
  refine ol_r (r_lss rfl rfl) rfl ?_
  refine ol_r (r_move rfl) rfl ?_
  refine ol_split (d := 10) rfl (fun hs10 => ?_) (fun hs10 => ?_)
  ·have phs10 := hs10; try simp only [decide_eq_true_eq, decide_eq_false_iff_not, Bool.not_eq_true', Bool.not_eq_false', Bool.not_true, Bool.not_false] at phs10
   refine ol_s rfl rfl hs10 rfl ?_
   refine ol_s rfl rfl hs10 rfl ?_
   refine ol_s rfl rfl hs10 rfl ?_
   refine ol_r (r_pickT rfl hs10 rfl) rfl ?_
   refine ol_r (r_assign rfl) rfl ?_
   refine ol_nil (to_k0 (fun _ _ h => h) (hK2 _ _ _ _ _ ?_))
   clear hK2
   refine hQ.ret (rvs1 (rv_t rfl)) (fun _ _ h => h) fun w hb hs hB hkd => ?_
   exact ⟨by rw [inB_not.2 (.inl (by simpa using phs10))]; rfl, hb⟩
  ·have phs10 := hs10; try simp only [decide_eq_true_eq, decide_eq_false_iff_not, Bool.not_eq_true', Bool.not_eq_false', Bool.not_true, Bool.not_false] at phs10
   refine ol_g rfl rfl hs10 ?_
   refine ol_r (r_move rfl) rfl ?_
   refine ol_g rfl rfl hs10 ?_
   refine ol_r (r_move rfl) rfl ?_
   refine ol_g rfl rfl hs10 ?_
   refine ol_r (r_gtr rfl rfl) rfl ?_
   refine ol_r (r_pickF rfl hs10 rfl) rfl ?_
   refine ol_r (r_assign rfl) rfl ?_
   refine ol_nil (to_k0 (fun _ _ h => h) (hK2 _ _ _ _ _ ?_))
   clear hK2
   refine hQ.ret (rvs1 (rv_t rfl)) (fun _ _ h => h) fun w hb hs hB hkd => ?_
   have h2 : decide (b < n) = !inB n a b := by
     by_cases h : n ≤ b
     · rw [inB_iff.2 ⟨by omega, h⟩, decide_eq_false (by omega)]; rfl
     · rw [inB_not.2 (.inr (by omega)), decide_eq_true (by omega)]; rfl
   exact ⟨by rw [h2], hb⟩
theorem quant_isDigit (c : Int) (w : World) : Calls Try.prog 78 #[.int .u8 c] w fun e w' => e = .returned (.bool (decide (48 ≤ c ∧ c ≤ 57))) ∧ Below w.heap.size w w' := by
  refine enterQ (N := 9) (C := fun _ => True) (H := []) (B := w.heap.size) (args := [_]) Try.func78 rfl rfl rfl (Nat.le_refl _) (Sat.nil _ _) fun Q hQ => ?_
  refine wp_seq' fun K1 hK1 => ?_
  refine wp_reg ?_
  refine ol_r (r_assign rfl) rfl ?_
  refine ol_nil (to_k0 (fun _ _ h => h) (hK1 _ _ _ _ _ ?_))
  clear hK1
  refine wp_seq' fun K2 hK2 => ?_
  refine wp_reg ?_
  refine ol_r (r_move rfl) rfl ?_
  refine ol_r (r_geq rfl rfl) rfl ?_
  refine ol_r (r_move rfl) rfl ?_
  refine ol_split (d := 5) rfl (fun hs5 => ?_) (fun hs5 => ?_)
  ·have phs5 := hs5; try simp only [decide_eq_true_eq, decide_eq_false_iff_not, Bool.not_eq_true', Bool.not_eq_false', Bool.not_true, Bool.not_false] at phs5
   refine ol_g rfl rfl hs5 ?_
   refine ol_r (r_move rfl) rfl ?_
   refine ol_g rfl rfl hs5 ?_
   refine ol_r (r_leq rfl rfl) rfl ?_
   refine ol_r (r_pickT rfl hs5 rfl) rfl ?_
   refine ol_r (r_assign rfl) rfl ?_
   refine ol_nil (to_k0 (fun _ _ h => h) (hK2 _ _ _ _ _ ?_))
   clear hK2
   refine hQ.ret (rvs1 (rv_t rfl)) (fun _ _ h => h) fun w hb hs hB hkd => ?_
   first
     | exact ⟨congrArg (fun b => Ending.returned (Value.bool b)) (decide_eq_decide.2 (by omega)), hb⟩
  ·have phs5 := hs5; try simp only [decide_eq_true_eq, decide_eq_false_iff_not, Bool.not_eq_true', Bool.not_eq_false', Bool.not_true, Bool.not_false] at phs5
   refine ol_s rfl rfl hs5 rfl ?_
   refine ol_s rfl rfl hs5 rfl ?_
   refine ol_r (r_pickF rfl hs5 rfl) rfl ?_
   refine ol_r (r_assign rfl) rfl ?_
   refine ol_nil (to_k0 (fun _ _ h => h) (hK2 _ _ _ _ _ ?_))
   clear hK2
   refine hQ.ret (rvs1 (rv_t rfl)) (fun _ _ h => h) fun w hb hs hB hkd => ?_
   first
     | exact ⟨congrArg (fun b => Ending.returned (Value.bool b)) (decide_eq_false (by omega)).symm, hb⟩
theorem quant_IsName (q : ByteArray) (w : World) (hq0 : q.size ≤ 9223372036854775807) : Calls Try.prog 44 #[.string q] w fun e w' => e = .returned (.bool (nameB q)) ∧ Below w.heap.size w w' := by
  refine enterQ (N := 56) (C := fun _ => True) (H := []) (B := w.heap.size) (args := [_]) Try.func44 rfl rfl rfl (Nat.le_refl _) (Sat.nil _ _) fun Q hQ => ?_
  refine wp_seq' fun K1 hK1 => ?_
  refine wp_reg ?_
  refine ol_r (r_assign rfl) rfl ?_
  refine ol_nil (to_k0 (fun _ _ h => h) (hK1 _ _ _ _ _ ?_))
  clear hK1
  refine wp_seq' fun K2 hK2 => ?_
  refine wp_seq' fun K3 hK3 => ?_
  refine wp_reg ?_
  refine ol_r (r_move rfl) rfl ?_
  refine ol_r (r_lens rfl st9) rfl ?_
  refine ol_r (r_move rfl) rfl ?_
  refine ol_nil (to_k0 (fun _ _ h => h) (hK3 _ _ _ _ _ ?_))
  clear hK3
  refine wp_block' ?_
  apply wp_loopM (σ := Nat) (fun s => s ≤ q.size ∧ ∀ i, i < s → nameC (byteAt q i) = true) (fun s => [(8, .int .i64 s)]) [(0, _), (7, _)] (fun s => []) [] (fun s => q.size - s) (0)
  ·try dsimp only
   exact ⟨Nat.zero_le _, fun i h => by omega⟩
  ·exact (sub_cons rfl sub_nil)
  ·exact (sub_cons rfl (sub_cons rfl sub_nil))
  ·exact subH_nil
  ·exact subH_nil
  ·rintro k ⟨hk, hP⟩
   intro K4 hK4
   refine wp_seq' fun K5 hK5 => ?_
   refine wp_reg ?_
   refine ol_r (r_lss rfl rfl) rfl ?_
   refine ol_nil (to_k0 (fun _ _ h => h) (hK5 _ _ _ _ _ ?_))
   clear hK5
   refine wp_seq' fun K6 hK6 => ?_
   refine wp_condD rfl (fun hc9 => ?_) (fun hc9 => ?_)
   ·refine wp_skip' (to_k0 (fun _ _ h => h) (hK6 _ _ _ _ _ ?_))
    clear hK6
    refine wp_seq' fun K7 hK7 => ?_
    refine wp_block' ?_
    refine wp_seq' fun K8 hK8 => ?_
    refine wp_reg ?_
    refine ol_r (r_move rfl) rfl ?_
    refine ol_r (r_assign rfl) rfl ?_
    refine ol_nil (to_k0 (fun _ _ h => h) (hK8 _ _ _ _ _ ?_))
    clear hK8
    refine wp_seq' fun K9 hK9 => ?_
    refine wp_reg ?_
    refine ol_r (r_move rfl) rfl ?_
    refine ol_r (r_move rfl) rfl ?_
    refine ol_r (r_sidx rfl rfl st9 (by omega)) rfl ?_
    try simp only [Int.toNat_natCast]
    refine ol_r (r_assign rfl) rfl ?_
    refine ol_nil (to_k0 (fun _ _ h => h) (hK9 _ _ _ _ _ ?_))
    clear hK9
    apply wp_seq_cutM (σ := Bool) (fun s => s = decide ((97 ≤ byteAt q k ∧ byteAt q k ≤ 122) ∨ (65 ≤ byteAt q k ∧ byteAt q k ≤ 90))) (fun s => [(5, .bool s)]) [(0, _), (4, _), (7, _), (8, _)] (fun s => []) []
    ·exact (sub_cons rfl (sub_cons rfl (sub_cons rfl (sub_cons rfl sub_nil))))
    ·exact subH_nil
    ·intro K10 hK10
     refine wp_reg ?_
     refine ol_r (r_move rfl) rfl ?_
     refine ol_r (r_geq rfl rfl) rfl ?_
     refine ol_r (r_move rfl) rfl ?_
     refine ol_split (d := 16) rfl (fun hs16 => ?_) (fun hs16 => ?_)
     ·have phs16 := hs16; try simp only [decide_eq_true_eq, decide_eq_false_iff_not, Bool.not_eq_true', Bool.not_eq_false', Bool.not_true, Bool.not_false] at phs16
      refine ol_g rfl rfl hs16 ?_
      refine ol_r (r_move rfl) rfl ?_
      refine ol_g rfl rfl hs16 ?_
      refine ol_r (r_leq rfl rfl) rfl ?_
      refine ol_r (r_pickT rfl hs16 rfl) rfl ?_
      refine ol_r (r_move rfl) rfl ?_
      refine ol_split (d := 20) rfl (fun hs20 => ?_) (fun hs20 => ?_)
      ·have phs20 := hs20; try simp only [decide_eq_true_eq, decide_eq_false_iff_not, Bool.not_eq_true', Bool.not_eq_false', Bool.not_true, Bool.not_false] at phs20
       refine ol_s rfl rfl hs20 rfl ?_
       refine ol_s rfl rfl hs20 rfl ?_
       refine ol_s rfl rfl hs20 rfl ?_
       refine ol_u rfl rfl rfl ?_
       refine ol_u rfl rfl rfl ?_
       refine ol_s rfl rfl hs20 rfl ?_
       refine ol_r (r_pickT rfl hs20 rfl) rfl ?_
       refine ol_r (r_assign rfl) rfl ?_
       refine ol_nil (to_k0 (fun _ _ h => h) (hK10 (_) _ _ ?_ (sub_cons rfl sub_nil) (sub_cons rfl (sub_cons rfl (sub_cons rfl (sub_cons rfl sub_nil)))) subH_nil subH_nil))
       try dsimp only
       first
       | exact (decide_eq_true (by omega)).symm
      ·have phs20 := hs20; try simp only [decide_eq_true_eq, decide_eq_false_iff_not, Bool.not_eq_true', Bool.not_eq_false', Bool.not_true, Bool.not_false] at phs20
       refine ol_g rfl rfl hs20 ?_
       refine ol_r (r_move rfl) rfl ?_
       refine ol_g rfl rfl hs20 ?_
       refine ol_r (r_geq rfl rfl) rfl ?_
       refine ol_g rfl rfl hs20 ?_
       refine ol_r (r_move rfl) rfl ?_
       refine ol_split (d := 23) rfl (fun hs23 => ?_) (fun hs23 => ?_)
       ·have phs23 := hs23; try simp only [decide_eq_true_eq, decide_eq_false_iff_not, Bool.not_eq_true', Bool.not_eq_false', Bool.not_true, Bool.not_false] at phs23
        refine ol_g rfl rfl hs23 ?_
        refine ol_r (r_move rfl) rfl ?_
        refine ol_g rfl rfl hs23 ?_
        refine ol_r (r_leq rfl rfl) rfl ?_
        refine ol_g rfl rfl hs20 ?_
        refine ol_r (r_pickT rfl hs23 rfl) rfl ?_
        refine ol_r (r_pickF rfl hs20 rfl) rfl ?_
        refine ol_r (r_assign rfl) rfl ?_
        refine ol_nil (to_k0 (fun _ _ h => h) (hK10 (_) _ _ ?_ (sub_cons rfl sub_nil) (sub_cons rfl (sub_cons rfl (sub_cons rfl (sub_cons rfl sub_nil)))) subH_nil subH_nil))
        try dsimp only
        first
        | exact decide_eq_decide.2 (by omega)
       ·have phs23 := hs23; try simp only [decide_eq_true_eq, decide_eq_false_iff_not, Bool.not_eq_true', Bool.not_eq_false', Bool.not_true, Bool.not_false] at phs23
        refine ol_s rfl rfl hs23 rfl ?_
        refine ol_s rfl rfl hs23 rfl ?_
        refine ol_g rfl rfl hs20 ?_
        refine ol_r (r_pickF rfl hs23 rfl) rfl ?_
        refine ol_r (r_pickF rfl hs20 rfl) rfl ?_
        refine ol_r (r_assign rfl) rfl ?_
        refine ol_nil (to_k0 (fun _ _ h => h) (hK10 (_) _ _ ?_ (sub_cons rfl sub_nil) (sub_cons rfl (sub_cons rfl (sub_cons rfl (sub_cons rfl sub_nil)))) subH_nil subH_nil))
        try dsimp only
        first
        | exact (decide_eq_false (by omega)).symm
     ·have phs16 := hs16; try simp only [decide_eq_true_eq, decide_eq_false_iff_not, Bool.not_eq_true', Bool.not_eq_false', Bool.not_true, Bool.not_false] at phs16
      refine ol_s rfl rfl hs16 rfl ?_
      refine ol_s rfl rfl hs16 rfl ?_
      refine ol_r (r_pickF rfl hs16 rfl) rfl ?_
      refine ol_r (r_move rfl) rfl ?_
      refine ol_g rfl rfl rfl ?_
      refine ol_r (r_move rfl) rfl ?_
      refine ol_g rfl rfl rfl ?_
      refine ol_r (r_geq rfl rfl) rfl ?_
      refine ol_g rfl rfl rfl ?_
      refine ol_r (r_move rfl) rfl ?_
      refine ol_split (d := 23) rfl (fun hs23 => ?_) (fun hs23 => ?_)
      ·have phs23 := hs23; try simp only [decide_eq_true_eq, decide_eq_false_iff_not, Bool.not_eq_true', Bool.not_eq_false', Bool.not_true, Bool.not_false] at phs23
       refine ol_g rfl rfl hs23 ?_
       refine ol_r (r_move rfl) rfl ?_
       refine ol_g rfl rfl hs23 ?_
       refine ol_r (r_leq rfl rfl) rfl ?_
       refine ol_g rfl rfl rfl ?_
       refine ol_r (r_pickT rfl hs23 rfl) rfl ?_
       refine ol_r (r_pickF rfl rfl rfl) rfl ?_
       refine ol_r (r_assign rfl) rfl ?_
       refine ol_nil (to_k0 (fun _ _ h => h) (hK10 (_) _ _ ?_ (sub_cons rfl sub_nil) (sub_cons rfl (sub_cons rfl (sub_cons rfl (sub_cons rfl sub_nil)))) subH_nil subH_nil))
       try dsimp only
       first
       | exact decide_eq_decide.2 (by omega)
      ·have phs23 := hs23; try simp only [decide_eq_true_eq, decide_eq_false_iff_not, Bool.not_eq_true', Bool.not_eq_false', Bool.not_true, Bool.not_false] at phs23
       refine ol_s rfl rfl hs23 rfl ?_
       refine ol_s rfl rfl hs23 rfl ?_
       refine ol_g rfl rfl rfl ?_
       refine ol_r (r_pickF rfl hs23 rfl) rfl ?_
       refine ol_r (r_pickF rfl rfl rfl) rfl ?_
       refine ol_r (r_assign rfl) rfl ?_
       refine ol_nil (to_k0 (fun _ _ h => h) (hK10 (_) _ _ ?_ (sub_cons rfl sub_nil) (sub_cons rfl (sub_cons rfl (sub_cons rfl (sub_cons rfl sub_nil)))) subH_nil subH_nil))
       try dsimp only
       first
       | exact (decide_eq_false (by omega)).symm
    ·rintro b rfl
     apply wp_seq_cutM (σ := Bool) (fun s => s = !nameC (byteAt q k)) (fun s => [(46, .bool s)]) [(0, _), (7, _), (8, _)] (fun s => []) []
     ·exact (sub_cons rfl (sub_cons rfl (sub_cons rfl sub_nil)))
     ·exact subH_nil
     ·intro K11 hK11
      refine wp_reg ?_
      refine ol_r (r_move rfl) rfl ?_
      refine ol_r (r_not rfl) rfl ?_
      refine ol_r (r_move rfl) rfl ?_
      refine ol_split (d := 30) rfl (fun hs30 => ?_) (fun hs30 => ?_)
      ·have phs30 := hs30; try simp only [decide_eq_true_eq, decide_eq_false_iff_not, Bool.not_eq_true', Bool.not_eq_false', Bool.not_true, Bool.not_false] at phs30
       refine ol_g rfl rfl hs30 ?_
       refine ol_r (r_move rfl) rfl ?_
       refine ol_g rfl rfl hs30 ?_
       refine ol_call rfl rfl cb78 rfl (fun w1 hb1 hs1 hB1 => Calls.mono (quant_isDigit _ _) ?_)
       rintro e w2 ⟨rfl, hb2⟩
       refine After.below rfl hb1 hs1 hB1 hb2 ?_
       clear hb2 hB1 hs1 hb1 w2 w1
       refine ol_g rfl rfl hs30 ?_
       refine ol_r (r_not rfl) rfl ?_
       refine ol_r (r_pickT rfl hs30 rfl) rfl ?_
       refine ol_r (r_move rfl) rfl ?_
       refine ol_split (d := 35) rfl (fun hs35 => ?_) (fun hs35 => ?_)
       ·have phs35 := hs35; try simp only [decide_eq_true_eq, decide_eq_false_iff_not, Bool.not_eq_true', Bool.not_eq_false', Bool.not_true, Bool.not_false] at phs35
        refine ol_g rfl rfl hs35 ?_
        refine ol_r (r_move rfl) rfl ?_
        refine ol_g rfl rfl hs35 ?_
        refine ol_r (r_neq rfl rfl) rfl ?_
        refine ol_r (r_pickT rfl hs35 rfl) rfl ?_
        refine ol_r (r_move rfl) rfl ?_
        refine ol_split (d := 39) rfl (fun hs39 => ?_) (fun hs39 => ?_)
        ·have phs39 := hs39; try simp only [decide_eq_true_eq, decide_eq_false_iff_not, Bool.not_eq_true', Bool.not_eq_false', Bool.not_true, Bool.not_false] at phs39
         refine ol_g rfl rfl hs39 ?_
         refine ol_r (r_move rfl) rfl ?_
         refine ol_g rfl rfl hs39 ?_
         refine ol_r (r_neq rfl rfl) rfl ?_
         refine ol_r (r_pickT rfl hs39 rfl) rfl ?_
         refine ol_r (r_move rfl) rfl ?_
         refine ol_split (d := 43) rfl (fun hs43 => ?_) (fun hs43 => ?_)
         ·have phs43 := hs43; try simp only [decide_eq_true_eq, decide_eq_false_iff_not, Bool.not_eq_true', Bool.not_eq_false', Bool.not_true, Bool.not_false] at phs43
          refine ol_g rfl rfl hs43 ?_
          refine ol_r (r_move rfl) rfl ?_
          refine ol_g rfl rfl hs43 ?_
          refine ol_r (r_neq rfl rfl) rfl ?_
          refine ol_r (r_pickT rfl hs43 rfl) rfl ?_
          refine ol_nil (to_k0 (fun _ _ h => h) (hK11 (_) _ _ ?_ (sub_cons rfl sub_nil) (sub_cons rfl (sub_cons rfl (sub_cons rfl sub_nil))) subH_nil subH_nil))
          try dsimp only
          first
          | exact nn_d (by omega)
         ·have phs43 := hs43; try simp only [decide_eq_true_eq, decide_eq_false_iff_not, Bool.not_eq_true', Bool.not_eq_false', Bool.not_true, Bool.not_false] at phs43
          refine ol_s rfl rfl hs43 rfl ?_
          refine ol_s rfl rfl hs43 rfl ?_
          refine ol_r (r_pickF rfl hs43 rfl) rfl ?_
          refine ol_nil (to_k0 (fun _ _ h => h) (hK11 (_) _ _ ?_ (sub_cons rfl sub_nil) (sub_cons rfl (sub_cons rfl (sub_cons rfl sub_nil))) subH_nil subH_nil))
          try dsimp only
          first
          | exact nn_f (by omega)
        ·have phs39 := hs39; try simp only [decide_eq_true_eq, decide_eq_false_iff_not, Bool.not_eq_true', Bool.not_eq_false', Bool.not_true, Bool.not_false] at phs39
         refine ol_s rfl rfl hs39 rfl ?_
         refine ol_s rfl rfl hs39 rfl ?_
         refine ol_r (r_pickF rfl hs39 rfl) rfl ?_
         refine ol_r (r_move rfl) rfl ?_
         refine ol_s rfl rfl rfl rfl ?_
         refine ol_s rfl rfl rfl rfl ?_
         refine ol_r (r_pickF rfl rfl rfl) rfl ?_
         refine ol_nil (to_k0 (fun _ _ h => h) (hK11 (_) _ _ ?_ (sub_cons rfl sub_nil) (sub_cons rfl (sub_cons rfl (sub_cons rfl sub_nil))) subH_nil subH_nil))
         try dsimp only
         first
         | exact nn_f (by omega)
       ·have phs35 := hs35; try simp only [decide_eq_true_eq, decide_eq_false_iff_not, Bool.not_eq_true', Bool.not_eq_false', Bool.not_true, Bool.not_false] at phs35
        refine ol_s rfl rfl hs35 rfl ?_
        refine ol_s rfl rfl hs35 rfl ?_
        refine ol_r (r_pickF rfl hs35 rfl) rfl ?_
        refine ol_r (r_move rfl) rfl ?_
        refine ol_s rfl rfl rfl rfl ?_
        refine ol_s rfl rfl rfl rfl ?_
        refine ol_r (r_pickF rfl rfl rfl) rfl ?_
        refine ol_r (r_move rfl) rfl ?_
        refine ol_s rfl rfl rfl rfl ?_
        refine ol_s rfl rfl rfl rfl ?_
        refine ol_r (r_pickF rfl rfl rfl) rfl ?_
        refine ol_nil (to_k0 (fun _ _ h => h) (hK11 (_) _ _ ?_ (sub_cons rfl sub_nil) (sub_cons rfl (sub_cons rfl (sub_cons rfl sub_nil))) subH_nil subH_nil))
        try dsimp only
        first
        | exact nn_f (by omega)
      ·have phs30 := hs30; try simp only [decide_eq_true_eq, decide_eq_false_iff_not, Bool.not_eq_true', Bool.not_eq_false', Bool.not_true, Bool.not_false] at phs30
       refine ol_s rfl rfl hs30 rfl ?_
       refine ol_s rfl rfl hs30 rfl ?_
       refine ol_s rfl rfl hs30 rfl ?_
       refine ol_r (r_pickF rfl hs30 rfl) rfl ?_
       refine ol_r (r_move rfl) rfl ?_
       refine ol_s rfl rfl rfl rfl ?_
       refine ol_s rfl rfl rfl rfl ?_
       refine ol_r (r_pickF rfl rfl rfl) rfl ?_
       refine ol_r (r_move rfl) rfl ?_
       refine ol_s rfl rfl rfl rfl ?_
       refine ol_s rfl rfl rfl rfl ?_
       refine ol_r (r_pickF rfl rfl rfl) rfl ?_
       refine ol_r (r_move rfl) rfl ?_
       refine ol_s rfl rfl rfl rfl ?_
       refine ol_s rfl rfl rfl rfl ?_
       refine ol_r (r_pickF rfl rfl rfl) rfl ?_
       refine ol_nil (to_k0 (fun _ _ h => h) (hK11 (_) _ _ ?_ (sub_cons rfl sub_nil) (sub_cons rfl (sub_cons rfl (sub_cons rfl sub_nil))) subH_nil subH_nil))
       try dsimp only
       first
       | exact nn_f (by omega)
     ·rintro b rfl
      refine wp_condNB rfl (fun hc46 => ?_) (fun hc46 => ?_)
      ·refine wp_seq' fun K12 hK12 => ?_
       refine wp_reg ?_
       refine ol_r (r_assign rfl) rfl ?_
       refine ol_nil (to_k0 (fun _ _ h => h) (hK12 _ _ _ _ _ ?_))
       clear hK12
       refine hQ.ret (rvs1 (rv_t rfl)) (fun _ _ h => h) fun w hb hs hB hkd => ?_
       first
         | (refine ⟨?_, hb⟩
            have h1 : nameC (byteAt q k) = false := hc46
            have h2 : nameB q = false := by unfold nameB; rw [bytesAll_not (by omega) h1]; rfl
            rw [h2]
            done)
      ·refine wp_skip' (to_k0 (fun _ _ h => h) (hK7 _ _ _ _ _ ?_))
       clear hK7
       refine wp_reg ?_
       refine ol_r (r_add rfl rfl (by omega)) rfl ?_
       refine ol_r (r_move rfl) rfl ?_
       refine ol_nil (to_k0 (fun _ _ h => h) (hK4 (k + 1) _ _ ?_ ?_ (sub_cons rfl sub_nil) (sub_cons rfl (sub_cons rfl sub_nil)) (by exact subH_nil) subH_nil))
       ·try dsimp only
        exact ⟨by omega, up_to hP hc46⟩
       ·try dsimp only
        omega
   ·refine wp_exit' (to_k0 (fun _ _ h => h) (hK2 _ _ _ _ _ ?_))
    clear hK2
    refine wp_seq' fun K13 hK13 => ?_
    refine wp_reg ?_
    refine ol_r (r_move rfl) rfl ?_
    refine ol_r (r_lens rfl st9) rfl ?_
    refine ol_r (r_geq rfl rfl) rfl ?_
    refine ol_r (r_move rfl) rfl ?_
    refine ol_split (d := 51) rfl (fun hs51 => ?_) (fun hs51 => ?_)
    ·have phs51 := hs51; try simp only [decide_eq_true_eq, decide_eq_false_iff_not, Bool.not_eq_true', Bool.not_eq_false', Bool.not_true, Bool.not_false] at phs51
     refine ol_g rfl rfl hs51 ?_
     refine ol_r (r_move rfl) rfl ?_
     refine ol_g rfl rfl hs51 ?_
     refine ol_r (r_lens rfl st9) rfl ?_
     refine ol_g rfl rfl hs51 ?_
     refine ol_r (r_leq rfl rfl) rfl ?_
     refine ol_r (r_pickT rfl hs51 rfl) rfl ?_
     refine ol_r (r_assign rfl) rfl ?_
     refine ol_nil (to_k0 (fun _ _ h => h) (hK13 _ _ _ _ _ ?_))
     clear hK13
     refine hQ.ret (rvs1 (rv_t rfl)) (fun _ _ h => h) fun w hb hs hB hkd => ?_
     first
       | (refine ⟨?_, hb⟩
          have h1 : bytesAll nameC q = true := bytesAll_iff.2 fun i hi => hP i (by omega)
          unfold nameB
          rw [h1]
          congr 2
          simp only [Bool.true_and]
          first
            | (rw [decide_eq_true (show 1 ≤ q.size by omega), Bool.true_and, decide_eq_decide]; omega)
            | (rw [decide_eq_false (show ¬1 ≤ q.size by omega)]; rfl))
    ·have phs51 := hs51; try simp only [decide_eq_true_eq, decide_eq_false_iff_not, Bool.not_eq_true', Bool.not_eq_false', Bool.not_true, Bool.not_false] at phs51
     refine ol_s rfl rfl hs51 rfl ?_
     refine ol_s rfl rfl hs51 rfl ?_
     refine ol_s rfl rfl hs51 rfl ?_
     refine ol_r (r_pickF rfl hs51 rfl) rfl ?_
     refine ol_r (r_assign rfl) rfl ?_
     refine ol_nil (to_k0 (fun _ _ h => h) (hK13 _ _ _ _ _ ?_))
     clear hK13
     refine hQ.ret (rvs1 (rv_t rfl)) (fun _ _ h => h) fun w hb hs hB hkd => ?_
     first
       | (refine ⟨?_, hb⟩
          have h1 : bytesAll nameC q = true := bytesAll_iff.2 fun i hi => hP i (by omega)
          unfold nameB
          rw [h1]
          congr 2
          simp only [Bool.true_and]
          first
            | (rw [decide_eq_true (show 1 ≤ q.size by omega), Bool.true_and, decide_eq_decide]; omega)
            | (rw [decide_eq_false (show ¬1 ≤ q.size by omega)]; rfl))
theorem ref2_IsName (q : ByteArray) (w : World) (hq0 : q.size ≤ 9223372036854775807) : Calls Try.prog 88 #[.string q] w fun e w' => e = .returned (.bool (nameB q)) ∧ Below w.heap.size w w' := by
  refine enterQ (N := 57) (C := fun _ => True) (H := []) (B := w.heap.size) (args := [_]) Try.func88 rfl rfl rfl (Nat.le_refl _) (Sat.nil _ _) fun Q hQ => ?_
  refine wp_seq' fun K1 hK1 => ?_
  refine wp_reg ?_
  refine ol_r (r_assign rfl) rfl ?_
  refine ol_nil (to_k0 (fun _ _ h => h) (hK1 _ _ _ _ _ ?_))
  clear hK1
  refine wp_seq' fun K2 hK2 => ?_
  refine wp_seq' fun K3 hK3 => ?_
  refine wp_reg ?_
  refine ol_r (r_assign rfl) rfl ?_
  refine ol_nil (to_k0 (fun _ _ h => h) (hK3 _ _ _ _ _ ?_))
  clear hK3
  refine wp_block' ?_
  apply wp_loopM (σ := Nat) (fun s => s ≤ q.size ∧ ∀ i, i < s → nameC (byteAt q i) = true) (fun s => [(3, .int .i64 s)]) [(0, _)] (fun s => []) [] (fun s => q.size - s) (0)
  ·try dsimp only
   exact ⟨Nat.zero_le _, fun i h => by omega⟩
  ·exact (sub_cons rfl sub_nil)
  ·exact (sub_cons rfl sub_nil)
  ·exact subH_nil
  ·exact subH_nil
  ·rintro k ⟨hk, hP⟩
   intro K4 hK4
   refine wp_seq' fun K5 hK5 => ?_
   refine wp_seq' fun K6 hK6 => ?_
   refine wp_reg ?_
   refine ol_r (r_move rfl) rfl ?_
   refine ol_r (r_move rfl) rfl ?_
   refine ol_r (r_lens rfl st9) rfl ?_
   refine ol_r (r_lss rfl rfl) rfl ?_
   refine ol_nil (to_k0 (fun _ _ h => h) (hK6 _ _ _ _ _ ?_))
   clear hK6
   refine wp_condD rfl (fun hc8 => ?_) (fun hc8 => ?_)
   ·refine wp_skip' (to_k0 (fun _ _ h => h) (hK5 _ _ _ _ _ ?_))
    clear hK5
    refine wp_seq' fun K7 hK7 => ?_
    refine wp_block' ?_
    refine wp_seq' fun K8 hK8 => ?_
    refine wp_reg ?_
    refine ol_r (r_move rfl) rfl ?_
    refine ol_r (r_move rfl) rfl ?_
    refine ol_r (r_sidx rfl rfl st9 (by omega)) rfl ?_
    try simp only [Int.toNat_natCast]
    refine ol_r (r_assign rfl) rfl ?_
    refine ol_nil (to_k0 (fun _ _ h => h) (hK8 _ _ _ _ _ ?_))
    clear hK8
    apply wp_seq_cutM (σ := Bool) (fun s => s = !nameC (byteAt q k)) (fun s => [(48, .bool s)]) [(0, _), (3, _)] (fun s => []) []
    ·exact (sub_cons rfl (sub_cons rfl sub_nil))
    ·exact subH_nil
    ·intro K9 hK9
     refine wp_reg ?_
     refine ol_r (r_move rfl) rfl ?_
     refine ol_r (r_geq rfl rfl) rfl ?_
     refine ol_r (r_move rfl) rfl ?_
     refine ol_split (d := 16) rfl (fun hs16 => ?_) (fun hs16 => ?_)
     ·have phs16 := hs16; try simp only [decide_eq_true_eq, decide_eq_false_iff_not, Bool.not_eq_true', Bool.not_eq_false', Bool.not_true, Bool.not_false] at phs16
      refine ol_g rfl rfl hs16 ?_
      refine ol_r (r_move rfl) rfl ?_
      refine ol_g rfl rfl hs16 ?_
      refine ol_r (r_leq rfl rfl) rfl ?_
      refine ol_r (r_pickT rfl hs16 rfl) rfl ?_
      refine ol_r (r_move rfl) rfl ?_
      refine ol_split (d := 20) rfl (fun hs20 => ?_) (fun hs20 => ?_)
      ·have phs20 := hs20; try simp only [decide_eq_true_eq, decide_eq_false_iff_not, Bool.not_eq_true', Bool.not_eq_false', Bool.not_true, Bool.not_false] at phs20
       refine ol_s rfl rfl hs20 rfl ?_
       refine ol_s rfl rfl hs20 rfl ?_
       refine ol_s rfl rfl hs20 rfl ?_
       refine ol_u rfl rfl rfl ?_
       refine ol_u rfl rfl rfl ?_
       refine ol_s rfl rfl hs20 rfl ?_
       refine ol_r (r_pickT rfl hs20 rfl) rfl ?_
       refine ol_r (r_move rfl) rfl ?_
       refine ol_s rfl rfl rfl rfl ?_
       refine ol_s rfl rfl rfl rfl ?_
       refine ol_s rfl rfl rfl rfl ?_
       refine ol_u rfl rfl rfl ?_
       refine ol_u rfl rfl rfl ?_
       refine ol_s rfl rfl rfl rfl ?_
       refine ol_r (r_pickT rfl rfl rfl) rfl ?_
       refine ol_r (r_move rfl) rfl ?_
       refine ol_s rfl rfl rfl rfl ?_
       refine ol_s rfl rfl rfl rfl ?_
       refine ol_r (r_pickT rfl rfl rfl) rfl ?_
       refine ol_r (r_move rfl) rfl ?_
       refine ol_s rfl rfl rfl rfl ?_
       refine ol_s rfl rfl rfl rfl ?_
       refine ol_r (r_pickT rfl rfl rfl) rfl ?_
       refine ol_r (r_move rfl) rfl ?_
       refine ol_s rfl rfl rfl rfl ?_
       refine ol_s rfl rfl rfl rfl ?_
       refine ol_r (r_pickT rfl rfl rfl) rfl ?_
       refine ol_r (r_not rfl) rfl ?_
       refine ol_nil (to_k0 (fun _ _ h => h) (hK9 (_) _ _ ?_ (sub_cons rfl sub_nil) (sub_cons rfl (sub_cons rfl sub_nil)) subH_nil subH_nil))
       try dsimp only
       first
       | exact nn_f (by omega)
      ·have phs20 := hs20; try simp only [decide_eq_true_eq, decide_eq_false_iff_not, Bool.not_eq_true', Bool.not_eq_false', Bool.not_true, Bool.not_false] at phs20
       refine ol_g rfl rfl hs20 ?_
       refine ol_r (r_move rfl) rfl ?_
       refine ol_g rfl rfl hs20 ?_
       refine ol_r (r_geq rfl rfl) rfl ?_
       refine ol_g rfl rfl hs20 ?_
       refine ol_r (r_move rfl) rfl ?_
       refine ol_split (d := 23) rfl (fun hs23 => ?_) (fun hs23 => ?_)
       ·have phs23 := hs23; try simp only [decide_eq_true_eq, decide_eq_false_iff_not, Bool.not_eq_true', Bool.not_eq_false', Bool.not_true, Bool.not_false] at phs23
        refine ol_g rfl rfl hs23 ?_
        refine ol_r (r_move rfl) rfl ?_
        refine ol_g rfl rfl hs23 ?_
        refine ol_r (r_leq rfl rfl) rfl ?_
        refine ol_g rfl rfl hs20 ?_
        refine ol_r (r_pickT rfl hs23 rfl) rfl ?_
        refine ol_r (r_pickF rfl hs20 rfl) rfl ?_
        refine ol_r (r_move rfl) rfl ?_
        refine ol_split (d := 28) rfl (fun hs28 => ?_) (fun hs28 => ?_)
        ·have phs28 := hs28; try simp only [decide_eq_true_eq, decide_eq_false_iff_not, Bool.not_eq_true', Bool.not_eq_false', Bool.not_true, Bool.not_false] at phs28
         refine ol_s rfl rfl hs28 rfl ?_
         refine ol_s rfl rfl hs28 rfl ?_
         refine ol_s rfl rfl hs28 rfl ?_
         refine ol_u rfl rfl rfl ?_
         refine ol_u rfl rfl rfl ?_
         refine ol_s rfl rfl hs28 rfl ?_
         refine ol_r (r_pickT rfl hs28 rfl) rfl ?_
         refine ol_r (r_move rfl) rfl ?_
         refine ol_s rfl rfl rfl rfl ?_
         refine ol_s rfl rfl rfl rfl ?_
         refine ol_r (r_pickT rfl rfl rfl) rfl ?_
         refine ol_r (r_move rfl) rfl ?_
         refine ol_s rfl rfl rfl rfl ?_
         refine ol_s rfl rfl rfl rfl ?_
         refine ol_r (r_pickT rfl rfl rfl) rfl ?_
         refine ol_r (r_move rfl) rfl ?_
         refine ol_s rfl rfl rfl rfl ?_
         refine ol_s rfl rfl rfl rfl ?_
         refine ol_r (r_pickT rfl rfl rfl) rfl ?_
         refine ol_r (r_not rfl) rfl ?_
         refine ol_nil (to_k0 (fun _ _ h => h) (hK9 (_) _ _ ?_ (sub_cons rfl sub_nil) (sub_cons rfl (sub_cons rfl sub_nil)) subH_nil subH_nil))
         try dsimp only
         first
         | exact nn_f (by omega)
        ·have phs28 := hs28; try simp only [decide_eq_true_eq, decide_eq_false_iff_not, Bool.not_eq_true', Bool.not_eq_false', Bool.not_true, Bool.not_false] at phs28
         refine ol_g rfl rfl hs28 ?_
         refine ol_r (r_move rfl) rfl ?_
         refine ol_g rfl rfl hs28 ?_
         refine ol_r (r_geq rfl rfl) rfl ?_
         refine ol_g rfl rfl hs28 ?_
         refine ol_r (r_move rfl) rfl ?_
         refine ol_split (d := 31) rfl (fun hs31 => ?_) (fun hs31 => ?_)
         ·have phs31 := hs31; try simp only [decide_eq_true_eq, decide_eq_false_iff_not, Bool.not_eq_true', Bool.not_eq_false', Bool.not_true, Bool.not_false] at phs31
          refine ol_g rfl rfl hs31 ?_
          refine ol_r (r_move rfl) rfl ?_
          refine ol_g rfl rfl hs31 ?_
          refine ol_r (r_leq rfl rfl) rfl ?_
          refine ol_g rfl rfl hs28 ?_
          refine ol_r (r_pickT rfl hs31 rfl) rfl ?_
          refine ol_r (r_pickF rfl hs28 rfl) rfl ?_
          refine ol_r (r_move rfl) rfl ?_
          refine ol_split (d := 36) rfl (fun hs36 => ?_) (fun hs36 => ?_)
          ·have phs36 := hs36; try simp only [decide_eq_true_eq, decide_eq_false_iff_not, Bool.not_eq_true', Bool.not_eq_false', Bool.not_true, Bool.not_false] at phs36
           refine ol_s rfl rfl hs36 rfl ?_
           refine ol_s rfl rfl hs36 rfl ?_
           refine ol_r (r_pickT rfl hs36 rfl) rfl ?_
           refine ol_r (r_move rfl) rfl ?_
           refine ol_s rfl rfl rfl rfl ?_
           refine ol_s rfl rfl rfl rfl ?_
           refine ol_r (r_pickT rfl rfl rfl) rfl ?_
           refine ol_r (r_move rfl) rfl ?_
           refine ol_s rfl rfl rfl rfl ?_
           refine ol_s rfl rfl rfl rfl ?_
           refine ol_r (r_pickT rfl rfl rfl) rfl ?_
           refine ol_r (r_not rfl) rfl ?_
           refine ol_nil (to_k0 (fun _ _ h => h) (hK9 (_) _ _ ?_ (sub_cons rfl sub_nil) (sub_cons rfl (sub_cons rfl sub_nil)) subH_nil subH_nil))
           try dsimp only
           first
           | exact nn_f (by omega)
          ·have phs36 := hs36; try simp only [decide_eq_true_eq, decide_eq_false_iff_not, Bool.not_eq_true', Bool.not_eq_false', Bool.not_true, Bool.not_false] at phs36
           refine ol_g rfl rfl hs36 ?_
           refine ol_r (r_move rfl) rfl ?_
           refine ol_g rfl rfl hs36 ?_
           refine ol_r (r_eql rfl rfl) rfl ?_
           refine ol_r (r_pickF rfl hs36 rfl) rfl ?_
           refine ol_r (r_move rfl) rfl ?_
           refine ol_split (d := 40) rfl (fun hs40 => ?_) (fun hs40 => ?_)
           ·have phs40 := hs40; try simp only [decide_eq_true_eq, decide_eq_false_iff_not, Bool.not_eq_true', Bool.not_eq_false', Bool.not_true, Bool.not_false] at phs40
            refine ol_s rfl rfl hs40 rfl ?_
            refine ol_s rfl rfl hs40 rfl ?_
            refine ol_r (r_pickT rfl hs40 rfl) rfl ?_
            refine ol_r (r_move rfl) rfl ?_
            refine ol_s rfl rfl rfl rfl ?_
            refine ol_s rfl rfl rfl rfl ?_
            refine ol_r (r_pickT rfl rfl rfl) rfl ?_
            refine ol_r (r_not rfl) rfl ?_
            refine ol_nil (to_k0 (fun _ _ h => h) (hK9 (_) _ _ ?_ (sub_cons rfl sub_nil) (sub_cons rfl (sub_cons rfl sub_nil)) subH_nil subH_nil))
            try dsimp only
            first
            | exact nn_f (by omega)
           ·have phs40 := hs40; try simp only [decide_eq_true_eq, decide_eq_false_iff_not, Bool.not_eq_true', Bool.not_eq_false', Bool.not_true, Bool.not_false] at phs40
            refine ol_g rfl rfl hs40 ?_
            refine ol_r (r_move rfl) rfl ?_
            refine ol_g rfl rfl hs40 ?_
            refine ol_r (r_eql rfl rfl) rfl ?_
            refine ol_r (r_pickF rfl hs40 rfl) rfl ?_
            refine ol_r (r_move rfl) rfl ?_
            refine ol_split (d := 44) rfl (fun hs44 => ?_) (fun hs44 => ?_)
            ·have phs44 := hs44; try simp only [decide_eq_true_eq, decide_eq_false_iff_not, Bool.not_eq_true', Bool.not_eq_false', Bool.not_true, Bool.not_false] at phs44
             refine ol_s rfl rfl hs44 rfl ?_
             refine ol_s rfl rfl hs44 rfl ?_
             refine ol_r (r_pickT rfl hs44 rfl) rfl ?_
             refine ol_r (r_not rfl) rfl ?_
             refine ol_nil (to_k0 (fun _ _ h => h) (hK9 (_) _ _ ?_ (sub_cons rfl sub_nil) (sub_cons rfl (sub_cons rfl sub_nil)) subH_nil subH_nil))
             try dsimp only
             first
             | exact nn_f (by omega)
            ·have phs44 := hs44; try simp only [decide_eq_true_eq, decide_eq_false_iff_not, Bool.not_eq_true', Bool.not_eq_false', Bool.not_true, Bool.not_false] at phs44
             refine ol_g rfl rfl hs44 ?_
             refine ol_r (r_move rfl) rfl ?_
             refine ol_g rfl rfl hs44 ?_
             refine ol_r (r_eql rfl rfl) rfl ?_
             refine ol_r (r_pickF rfl hs44 rfl) rfl ?_
             refine ol_r (r_not rfl) rfl ?_
             refine ol_nil (to_k0 (fun _ _ h => h) (hK9 (_) _ _ ?_ (sub_cons rfl sub_nil) (sub_cons rfl (sub_cons rfl sub_nil)) subH_nil subH_nil))
             try dsimp only
             first
             | exact nn_e (by omega)
         ·have phs31 := hs31; try simp only [decide_eq_true_eq, decide_eq_false_iff_not, Bool.not_eq_true', Bool.not_eq_false', Bool.not_true, Bool.not_false] at phs31
          refine ol_s rfl rfl hs31 rfl ?_
          refine ol_s rfl rfl hs31 rfl ?_
          refine ol_g rfl rfl hs28 ?_
          refine ol_r (r_pickF rfl hs31 rfl) rfl ?_
          refine ol_r (r_pickF rfl hs28 rfl) rfl ?_
          refine ol_r (r_move rfl) rfl ?_
          refine ol_g rfl rfl rfl ?_
          refine ol_r (r_move rfl) rfl ?_
          refine ol_g rfl rfl rfl ?_
          refine ol_r (r_eql rfl rfl) rfl ?_
          refine ol_r (r_pickF rfl rfl rfl) rfl ?_
          refine ol_r (r_move rfl) rfl ?_
          refine ol_split (d := 40) rfl (fun hs40 => ?_) (fun hs40 => ?_)
          ·have phs40 := hs40; try simp only [decide_eq_true_eq, decide_eq_false_iff_not, Bool.not_eq_true', Bool.not_eq_false', Bool.not_true, Bool.not_false] at phs40
           refine ol_s rfl rfl hs40 rfl ?_
           refine ol_s rfl rfl hs40 rfl ?_
           refine ol_r (r_pickT rfl hs40 rfl) rfl ?_
           refine ol_r (r_move rfl) rfl ?_
           refine ol_s rfl rfl rfl rfl ?_
           refine ol_s rfl rfl rfl rfl ?_
           refine ol_r (r_pickT rfl rfl rfl) rfl ?_
           refine ol_r (r_not rfl) rfl ?_
           refine ol_nil (to_k0 (fun _ _ h => h) (hK9 (_) _ _ ?_ (sub_cons rfl sub_nil) (sub_cons rfl (sub_cons rfl sub_nil)) subH_nil subH_nil))
           try dsimp only
           first
           | exact nn_f (by omega)
          ·have phs40 := hs40; try simp only [decide_eq_true_eq, decide_eq_false_iff_not, Bool.not_eq_true', Bool.not_eq_false', Bool.not_true, Bool.not_false] at phs40
           refine ol_g rfl rfl hs40 ?_
           refine ol_r (r_move rfl) rfl ?_
           refine ol_g rfl rfl hs40 ?_
           refine ol_r (r_eql rfl rfl) rfl ?_
           refine ol_r (r_pickF rfl hs40 rfl) rfl ?_
           refine ol_r (r_move rfl) rfl ?_
           refine ol_split (d := 44) rfl (fun hs44 => ?_) (fun hs44 => ?_)
           ·have phs44 := hs44; try simp only [decide_eq_true_eq, decide_eq_false_iff_not, Bool.not_eq_true', Bool.not_eq_false', Bool.not_true, Bool.not_false] at phs44
            refine ol_s rfl rfl hs44 rfl ?_
            refine ol_s rfl rfl hs44 rfl ?_
            refine ol_r (r_pickT rfl hs44 rfl) rfl ?_
            refine ol_r (r_not rfl) rfl ?_
            refine ol_nil (to_k0 (fun _ _ h => h) (hK9 (_) _ _ ?_ (sub_cons rfl sub_nil) (sub_cons rfl (sub_cons rfl sub_nil)) subH_nil subH_nil))
            try dsimp only
            first
            | exact nn_f (by omega)
           ·have phs44 := hs44; try simp only [decide_eq_true_eq, decide_eq_false_iff_not, Bool.not_eq_true', Bool.not_eq_false', Bool.not_true, Bool.not_false] at phs44
            refine ol_g rfl rfl hs44 ?_
            refine ol_r (r_move rfl) rfl ?_
            refine ol_g rfl rfl hs44 ?_
            refine ol_r (r_eql rfl rfl) rfl ?_
            refine ol_r (r_pickF rfl hs44 rfl) rfl ?_
            refine ol_r (r_not rfl) rfl ?_
            refine ol_nil (to_k0 (fun _ _ h => h) (hK9 (_) _ _ ?_ (sub_cons rfl sub_nil) (sub_cons rfl (sub_cons rfl sub_nil)) subH_nil subH_nil))
            try dsimp only
            first
            | exact nn_e (by omega)
       ·have phs23 := hs23; try simp only [decide_eq_true_eq, decide_eq_false_iff_not, Bool.not_eq_true', Bool.not_eq_false', Bool.not_true, Bool.not_false] at phs23
        refine ol_s rfl rfl hs23 rfl ?_
        refine ol_s rfl rfl hs23 rfl ?_
        refine ol_g rfl rfl hs20 ?_
        refine ol_r (r_pickF rfl hs23 rfl) rfl ?_
        refine ol_r (r_pickF rfl hs20 rfl) rfl ?_
        refine ol_r (r_move rfl) rfl ?_
        refine ol_g rfl rfl rfl ?_
        refine ol_r (r_move rfl) rfl ?_
        refine ol_g rfl rfl rfl ?_
        refine ol_r (r_geq rfl rfl) rfl ?_
        refine ol_g rfl rfl rfl ?_
        refine ol_r (r_move rfl) rfl ?_
        refine ol_split (d := 31) rfl (fun hs31 => ?_) (fun hs31 => ?_)
        ·have phs31 := hs31; try simp only [decide_eq_true_eq, decide_eq_false_iff_not, Bool.not_eq_true', Bool.not_eq_false', Bool.not_true, Bool.not_false] at phs31
         refine ol_g rfl rfl hs31 ?_
         refine ol_r (r_move rfl) rfl ?_
         refine ol_g rfl rfl hs31 ?_
         refine ol_r (r_leq rfl rfl) rfl ?_
         refine ol_g rfl rfl rfl ?_
         refine ol_r (r_pickT rfl hs31 rfl) rfl ?_
         refine ol_r (r_pickF rfl rfl rfl) rfl ?_
         refine ol_r (r_move rfl) rfl ?_
         refine ol_split (d := 36) rfl (fun hs36 => ?_) (fun hs36 => ?_)
         ·have phs36 := hs36; try simp only [decide_eq_true_eq, decide_eq_false_iff_not, Bool.not_eq_true', Bool.not_eq_false', Bool.not_true, Bool.not_false] at phs36
          refine ol_s rfl rfl hs36 rfl ?_
          refine ol_s rfl rfl hs36 rfl ?_
          refine ol_r (r_pickT rfl hs36 rfl) rfl ?_
          refine ol_r (r_move rfl) rfl ?_
          refine ol_s rfl rfl rfl rfl ?_
          refine ol_s rfl rfl rfl rfl ?_
          refine ol_r (r_pickT rfl rfl rfl) rfl ?_
          refine ol_r (r_move rfl) rfl ?_
          refine ol_s rfl rfl rfl rfl ?_
          refine ol_s rfl rfl rfl rfl ?_
          refine ol_r (r_pickT rfl rfl rfl) rfl ?_
          refine ol_r (r_not rfl) rfl ?_
          refine ol_nil (to_k0 (fun _ _ h => h) (hK9 (_) _ _ ?_ (sub_cons rfl sub_nil) (sub_cons rfl (sub_cons rfl sub_nil)) subH_nil subH_nil))
          try dsimp only
          first
          | exact nn_f (by omega)
         ·have phs36 := hs36; try simp only [decide_eq_true_eq, decide_eq_false_iff_not, Bool.not_eq_true', Bool.not_eq_false', Bool.not_true, Bool.not_false] at phs36
          refine ol_g rfl rfl hs36 ?_
          refine ol_r (r_move rfl) rfl ?_
          refine ol_g rfl rfl hs36 ?_
          refine ol_r (r_eql rfl rfl) rfl ?_
          refine ol_r (r_pickF rfl hs36 rfl) rfl ?_
          refine ol_r (r_move rfl) rfl ?_
          refine ol_split (d := 40) rfl (fun hs40 => ?_) (fun hs40 => ?_)
          ·have phs40 := hs40; try simp only [decide_eq_true_eq, decide_eq_false_iff_not, Bool.not_eq_true', Bool.not_eq_false', Bool.not_true, Bool.not_false] at phs40
           refine ol_s rfl rfl hs40 rfl ?_
           refine ol_s rfl rfl hs40 rfl ?_
           refine ol_r (r_pickT rfl hs40 rfl) rfl ?_
           refine ol_r (r_move rfl) rfl ?_
           refine ol_s rfl rfl rfl rfl ?_
           refine ol_s rfl rfl rfl rfl ?_
           refine ol_r (r_pickT rfl rfl rfl) rfl ?_
           refine ol_r (r_not rfl) rfl ?_
           refine ol_nil (to_k0 (fun _ _ h => h) (hK9 (_) _ _ ?_ (sub_cons rfl sub_nil) (sub_cons rfl (sub_cons rfl sub_nil)) subH_nil subH_nil))
           try dsimp only
           first
           | exact nn_f (by omega)
          ·have phs40 := hs40; try simp only [decide_eq_true_eq, decide_eq_false_iff_not, Bool.not_eq_true', Bool.not_eq_false', Bool.not_true, Bool.not_false] at phs40
           refine ol_g rfl rfl hs40 ?_
           refine ol_r (r_move rfl) rfl ?_
           refine ol_g rfl rfl hs40 ?_
           refine ol_r (r_eql rfl rfl) rfl ?_
           refine ol_r (r_pickF rfl hs40 rfl) rfl ?_
           refine ol_r (r_move rfl) rfl ?_
           refine ol_split (d := 44) rfl (fun hs44 => ?_) (fun hs44 => ?_)
           ·have phs44 := hs44; try simp only [decide_eq_true_eq, decide_eq_false_iff_not, Bool.not_eq_true', Bool.not_eq_false', Bool.not_true, Bool.not_false] at phs44
            refine ol_s rfl rfl hs44 rfl ?_
            refine ol_s rfl rfl hs44 rfl ?_
            refine ol_r (r_pickT rfl hs44 rfl) rfl ?_
            refine ol_r (r_not rfl) rfl ?_
            refine ol_nil (to_k0 (fun _ _ h => h) (hK9 (_) _ _ ?_ (sub_cons rfl sub_nil) (sub_cons rfl (sub_cons rfl sub_nil)) subH_nil subH_nil))
            try dsimp only
            first
            | exact nn_f (by omega)
           ·have phs44 := hs44; try simp only [decide_eq_true_eq, decide_eq_false_iff_not, Bool.not_eq_true', Bool.not_eq_false', Bool.not_true, Bool.not_false] at phs44
            refine ol_g rfl rfl hs44 ?_
            refine ol_r (r_move rfl) rfl ?_
            refine ol_g rfl rfl hs44 ?_
            refine ol_r (r_eql rfl rfl) rfl ?_
            refine ol_r (r_pickF rfl hs44 rfl) rfl ?_
            refine ol_r (r_not rfl) rfl ?_
            refine ol_nil (to_k0 (fun _ _ h => h) (hK9 (_) _ _ ?_ (sub_cons rfl sub_nil) (sub_cons rfl (sub_cons rfl sub_nil)) subH_nil subH_nil))
            try dsimp only
            first
            | exact nn_e (by omega)
        ·have phs31 := hs31; try simp only [decide_eq_true_eq, decide_eq_false_iff_not, Bool.not_eq_true', Bool.not_eq_false', Bool.not_true, Bool.not_false] at phs31
         refine ol_s rfl rfl hs31 rfl ?_
         refine ol_s rfl rfl hs31 rfl ?_
         refine ol_g rfl rfl rfl ?_
         refine ol_r (r_pickF rfl hs31 rfl) rfl ?_
         refine ol_r (r_pickF rfl rfl rfl) rfl ?_
         refine ol_r (r_move rfl) rfl ?_
         refine ol_g rfl rfl rfl ?_
         refine ol_r (r_move rfl) rfl ?_
         refine ol_g rfl rfl rfl ?_
         refine ol_r (r_eql rfl rfl) rfl ?_
         refine ol_r (r_pickF rfl rfl rfl) rfl ?_
         refine ol_r (r_move rfl) rfl ?_
         refine ol_split (d := 40) rfl (fun hs40 => ?_) (fun hs40 => ?_)
         ·have phs40 := hs40; try simp only [decide_eq_true_eq, decide_eq_false_iff_not, Bool.not_eq_true', Bool.not_eq_false', Bool.not_true, Bool.not_false] at phs40
          refine ol_s rfl rfl hs40 rfl ?_
          refine ol_s rfl rfl hs40 rfl ?_
          refine ol_r (r_pickT rfl hs40 rfl) rfl ?_
          refine ol_r (r_move rfl) rfl ?_
          refine ol_s rfl rfl rfl rfl ?_
          refine ol_s rfl rfl rfl rfl ?_
          refine ol_r (r_pickT rfl rfl rfl) rfl ?_
          refine ol_r (r_not rfl) rfl ?_
          refine ol_nil (to_k0 (fun _ _ h => h) (hK9 (_) _ _ ?_ (sub_cons rfl sub_nil) (sub_cons rfl (sub_cons rfl sub_nil)) subH_nil subH_nil))
          try dsimp only
          first
          | exact nn_f (by omega)
         ·have phs40 := hs40; try simp only [decide_eq_true_eq, decide_eq_false_iff_not, Bool.not_eq_true', Bool.not_eq_false', Bool.not_true, Bool.not_false] at phs40
          refine ol_g rfl rfl hs40 ?_
          refine ol_r (r_move rfl) rfl ?_
          refine ol_g rfl rfl hs40 ?_
          refine ol_r (r_eql rfl rfl) rfl ?_
          refine ol_r (r_pickF rfl hs40 rfl) rfl ?_
          refine ol_r (r_move rfl) rfl ?_
          refine ol_split (d := 44) rfl (fun hs44 => ?_) (fun hs44 => ?_)
          ·have phs44 := hs44; try simp only [decide_eq_true_eq, decide_eq_false_iff_not, Bool.not_eq_true', Bool.not_eq_false', Bool.not_true, Bool.not_false] at phs44
           refine ol_s rfl rfl hs44 rfl ?_
           refine ol_s rfl rfl hs44 rfl ?_
           refine ol_r (r_pickT rfl hs44 rfl) rfl ?_
           refine ol_r (r_not rfl) rfl ?_
           refine ol_nil (to_k0 (fun _ _ h => h) (hK9 (_) _ _ ?_ (sub_cons rfl sub_nil) (sub_cons rfl (sub_cons rfl sub_nil)) subH_nil subH_nil))
           try dsimp only
           first
           | exact nn_f (by omega)
          ·have phs44 := hs44; try simp only [decide_eq_true_eq, decide_eq_false_iff_not, Bool.not_eq_true', Bool.not_eq_false', Bool.not_true, Bool.not_false] at phs44
           refine ol_g rfl rfl hs44 ?_
           refine ol_r (r_move rfl) rfl ?_
           refine ol_g rfl rfl hs44 ?_
           refine ol_r (r_eql rfl rfl) rfl ?_
           refine ol_r (r_pickF rfl hs44 rfl) rfl ?_
           refine ol_r (r_not rfl) rfl ?_
           refine ol_nil (to_k0 (fun _ _ h => h) (hK9 (_) _ _ ?_ (sub_cons rfl sub_nil) (sub_cons rfl (sub_cons rfl sub_nil)) subH_nil subH_nil))
           try dsimp only
           first
           | exact nn_e (by omega)
     ·have phs16 := hs16; try simp only [decide_eq_true_eq, decide_eq_false_iff_not, Bool.not_eq_true', Bool.not_eq_false', Bool.not_true, Bool.not_false] at phs16
      refine ol_s rfl rfl hs16 rfl ?_
      refine ol_s rfl rfl hs16 rfl ?_
      refine ol_r (r_pickF rfl hs16 rfl) rfl ?_
      refine ol_r (r_move rfl) rfl ?_
      refine ol_g rfl rfl rfl ?_
      refine ol_r (r_move rfl) rfl ?_
      refine ol_g rfl rfl rfl ?_
      refine ol_r (r_geq rfl rfl) rfl ?_
      refine ol_g rfl rfl rfl ?_
      refine ol_r (r_move rfl) rfl ?_
      refine ol_split (d := 23) rfl (fun hs23 => ?_) (fun hs23 => ?_)
      ·have phs23 := hs23; try simp only [decide_eq_true_eq, decide_eq_false_iff_not, Bool.not_eq_true', Bool.not_eq_false', Bool.not_true, Bool.not_false] at phs23
       refine ol_g rfl rfl hs23 ?_
       refine ol_r (r_move rfl) rfl ?_
       refine ol_g rfl rfl hs23 ?_
       refine ol_r (r_leq rfl rfl) rfl ?_
       refine ol_g rfl rfl rfl ?_
       refine ol_r (r_pickT rfl hs23 rfl) rfl ?_
       refine ol_r (r_pickF rfl rfl rfl) rfl ?_
       refine ol_r (r_move rfl) rfl ?_
       refine ol_split (d := 28) rfl (fun hs28 => ?_) (fun hs28 => ?_)
       ·have phs28 := hs28; try simp only [decide_eq_true_eq, decide_eq_false_iff_not, Bool.not_eq_true', Bool.not_eq_false', Bool.not_true, Bool.not_false] at phs28
        refine ol_s rfl rfl hs28 rfl ?_
        refine ol_s rfl rfl hs28 rfl ?_
        refine ol_s rfl rfl hs28 rfl ?_
        refine ol_u rfl rfl rfl ?_
        refine ol_u rfl rfl rfl ?_
        refine ol_s rfl rfl hs28 rfl ?_
        refine ol_r (r_pickT rfl hs28 rfl) rfl ?_
        refine ol_r (r_move rfl) rfl ?_
        refine ol_s rfl rfl rfl rfl ?_
        refine ol_s rfl rfl rfl rfl ?_
        refine ol_r (r_pickT rfl rfl rfl) rfl ?_
        refine ol_r (r_move rfl) rfl ?_
        refine ol_s rfl rfl rfl rfl ?_
        refine ol_s rfl rfl rfl rfl ?_
        refine ol_r (r_pickT rfl rfl rfl) rfl ?_
        refine ol_r (r_move rfl) rfl ?_
        refine ol_s rfl rfl rfl rfl ?_
        refine ol_s rfl rfl rfl rfl ?_
        refine ol_r (r_pickT rfl rfl rfl) rfl ?_
        refine ol_r (r_not rfl) rfl ?_
        refine ol_nil (to_k0 (fun _ _ h => h) (hK9 (_) _ _ ?_ (sub_cons rfl sub_nil) (sub_cons rfl (sub_cons rfl sub_nil)) subH_nil subH_nil))
        try dsimp only
        first
        | exact nn_f (by omega)
       ·have phs28 := hs28; try simp only [decide_eq_true_eq, decide_eq_false_iff_not, Bool.not_eq_true', Bool.not_eq_false', Bool.not_true, Bool.not_false] at phs28
        refine ol_g rfl rfl hs28 ?_
        refine ol_r (r_move rfl) rfl ?_
        refine ol_g rfl rfl hs28 ?_
        refine ol_r (r_geq rfl rfl) rfl ?_
        refine ol_g rfl rfl hs28 ?_
        refine ol_r (r_move rfl) rfl ?_
        refine ol_split (d := 31) rfl (fun hs31 => ?_) (fun hs31 => ?_)
        ·have phs31 := hs31; try simp only [decide_eq_true_eq, decide_eq_false_iff_not, Bool.not_eq_true', Bool.not_eq_false', Bool.not_true, Bool.not_false] at phs31
         refine ol_g rfl rfl hs31 ?_
         refine ol_r (r_move rfl) rfl ?_
         refine ol_g rfl rfl hs31 ?_
         refine ol_r (r_leq rfl rfl) rfl ?_
         refine ol_g rfl rfl hs28 ?_
         refine ol_r (r_pickT rfl hs31 rfl) rfl ?_
         refine ol_r (r_pickF rfl hs28 rfl) rfl ?_
         refine ol_r (r_move rfl) rfl ?_
         refine ol_split (d := 36) rfl (fun hs36 => ?_) (fun hs36 => ?_)
         ·have phs36 := hs36; try simp only [decide_eq_true_eq, decide_eq_false_iff_not, Bool.not_eq_true', Bool.not_eq_false', Bool.not_true, Bool.not_false] at phs36
          refine ol_s rfl rfl hs36 rfl ?_
          refine ol_s rfl rfl hs36 rfl ?_
          refine ol_r (r_pickT rfl hs36 rfl) rfl ?_
          refine ol_r (r_move rfl) rfl ?_
          refine ol_s rfl rfl rfl rfl ?_
          refine ol_s rfl rfl rfl rfl ?_
          refine ol_r (r_pickT rfl rfl rfl) rfl ?_
          refine ol_r (r_move rfl) rfl ?_
          refine ol_s rfl rfl rfl rfl ?_
          refine ol_s rfl rfl rfl rfl ?_
          refine ol_r (r_pickT rfl rfl rfl) rfl ?_
          refine ol_r (r_not rfl) rfl ?_
          refine ol_nil (to_k0 (fun _ _ h => h) (hK9 (_) _ _ ?_ (sub_cons rfl sub_nil) (sub_cons rfl (sub_cons rfl sub_nil)) subH_nil subH_nil))
          try dsimp only
          first
          | exact nn_f (by omega)
         ·have phs36 := hs36; try simp only [decide_eq_true_eq, decide_eq_false_iff_not, Bool.not_eq_true', Bool.not_eq_false', Bool.not_true, Bool.not_false] at phs36
          refine ol_g rfl rfl hs36 ?_
          refine ol_r (r_move rfl) rfl ?_
          refine ol_g rfl rfl hs36 ?_
          refine ol_r (r_eql rfl rfl) rfl ?_
          refine ol_r (r_pickF rfl hs36 rfl) rfl ?_
          refine ol_r (r_move rfl) rfl ?_
          refine ol_split (d := 40) rfl (fun hs40 => ?_) (fun hs40 => ?_)
          ·have phs40 := hs40; try simp only [decide_eq_true_eq, decide_eq_false_iff_not, Bool.not_eq_true', Bool.not_eq_false', Bool.not_true, Bool.not_false] at phs40
           refine ol_s rfl rfl hs40 rfl ?_
           refine ol_s rfl rfl hs40 rfl ?_
           refine ol_r (r_pickT rfl hs40 rfl) rfl ?_
           refine ol_r (r_move rfl) rfl ?_
           refine ol_s rfl rfl rfl rfl ?_
           refine ol_s rfl rfl rfl rfl ?_
           refine ol_r (r_pickT rfl rfl rfl) rfl ?_
           refine ol_r (r_not rfl) rfl ?_
           refine ol_nil (to_k0 (fun _ _ h => h) (hK9 (_) _ _ ?_ (sub_cons rfl sub_nil) (sub_cons rfl (sub_cons rfl sub_nil)) subH_nil subH_nil))
           try dsimp only
           first
           | exact nn_f (by omega)
          ·have phs40 := hs40; try simp only [decide_eq_true_eq, decide_eq_false_iff_not, Bool.not_eq_true', Bool.not_eq_false', Bool.not_true, Bool.not_false] at phs40
           refine ol_g rfl rfl hs40 ?_
           refine ol_r (r_move rfl) rfl ?_
           refine ol_g rfl rfl hs40 ?_
           refine ol_r (r_eql rfl rfl) rfl ?_
           refine ol_r (r_pickF rfl hs40 rfl) rfl ?_
           refine ol_r (r_move rfl) rfl ?_
           refine ol_split (d := 44) rfl (fun hs44 => ?_) (fun hs44 => ?_)
           ·have phs44 := hs44; try simp only [decide_eq_true_eq, decide_eq_false_iff_not, Bool.not_eq_true', Bool.not_eq_false', Bool.not_true, Bool.not_false] at phs44
            refine ol_s rfl rfl hs44 rfl ?_
            refine ol_s rfl rfl hs44 rfl ?_
            refine ol_r (r_pickT rfl hs44 rfl) rfl ?_
            refine ol_r (r_not rfl) rfl ?_
            refine ol_nil (to_k0 (fun _ _ h => h) (hK9 (_) _ _ ?_ (sub_cons rfl sub_nil) (sub_cons rfl (sub_cons rfl sub_nil)) subH_nil subH_nil))
            try dsimp only
            first
            | exact nn_f (by omega)
           ·have phs44 := hs44; try simp only [decide_eq_true_eq, decide_eq_false_iff_not, Bool.not_eq_true', Bool.not_eq_false', Bool.not_true, Bool.not_false] at phs44
            refine ol_g rfl rfl hs44 ?_
            refine ol_r (r_move rfl) rfl ?_
            refine ol_g rfl rfl hs44 ?_
            refine ol_r (r_eql rfl rfl) rfl ?_
            refine ol_r (r_pickF rfl hs44 rfl) rfl ?_
            refine ol_r (r_not rfl) rfl ?_
            refine ol_nil (to_k0 (fun _ _ h => h) (hK9 (_) _ _ ?_ (sub_cons rfl sub_nil) (sub_cons rfl (sub_cons rfl sub_nil)) subH_nil subH_nil))
            try dsimp only
            first
            | exact nn_e (by omega)
        ·have phs31 := hs31; try simp only [decide_eq_true_eq, decide_eq_false_iff_not, Bool.not_eq_true', Bool.not_eq_false', Bool.not_true, Bool.not_false] at phs31
         refine ol_s rfl rfl hs31 rfl ?_
         refine ol_s rfl rfl hs31 rfl ?_
         refine ol_g rfl rfl hs28 ?_
         refine ol_r (r_pickF rfl hs31 rfl) rfl ?_
         refine ol_r (r_pickF rfl hs28 rfl) rfl ?_
         refine ol_r (r_move rfl) rfl ?_
         refine ol_g rfl rfl rfl ?_
         refine ol_r (r_move rfl) rfl ?_
         refine ol_g rfl rfl rfl ?_
         refine ol_r (r_eql rfl rfl) rfl ?_
         refine ol_r (r_pickF rfl rfl rfl) rfl ?_
         refine ol_r (r_move rfl) rfl ?_
         refine ol_split (d := 40) rfl (fun hs40 => ?_) (fun hs40 => ?_)
         ·have phs40 := hs40; try simp only [decide_eq_true_eq, decide_eq_false_iff_not, Bool.not_eq_true', Bool.not_eq_false', Bool.not_true, Bool.not_false] at phs40
          refine ol_s rfl rfl hs40 rfl ?_
          refine ol_s rfl rfl hs40 rfl ?_
          refine ol_r (r_pickT rfl hs40 rfl) rfl ?_
          refine ol_r (r_move rfl) rfl ?_
          refine ol_s rfl rfl rfl rfl ?_
          refine ol_s rfl rfl rfl rfl ?_
          refine ol_r (r_pickT rfl rfl rfl) rfl ?_
          refine ol_r (r_not rfl) rfl ?_
          refine ol_nil (to_k0 (fun _ _ h => h) (hK9 (_) _ _ ?_ (sub_cons rfl sub_nil) (sub_cons rfl (sub_cons rfl sub_nil)) subH_nil subH_nil))
          try dsimp only
          first
          | exact nn_f (by omega)
         ·have phs40 := hs40; try simp only [decide_eq_true_eq, decide_eq_false_iff_not, Bool.not_eq_true', Bool.not_eq_false', Bool.not_true, Bool.not_false] at phs40
          refine ol_g rfl rfl hs40 ?_
          refine ol_r (r_move rfl) rfl ?_
          refine ol_g rfl rfl hs40 ?_
          refine ol_r (r_eql rfl rfl) rfl ?_
          refine ol_r (r_pickF rfl hs40 rfl) rfl ?_
          refine ol_r (r_move rfl) rfl ?_
          refine ol_split (d := 44) rfl (fun hs44 => ?_) (fun hs44 => ?_)
          ·have phs44 := hs44; try simp only [decide_eq_true_eq, decide_eq_false_iff_not, Bool.not_eq_true', Bool.not_eq_false', Bool.not_true, Bool.not_false] at phs44
           refine ol_s rfl rfl hs44 rfl ?_
           refine ol_s rfl rfl hs44 rfl ?_
           refine ol_r (r_pickT rfl hs44 rfl) rfl ?_
           refine ol_r (r_not rfl) rfl ?_
           refine ol_nil (to_k0 (fun _ _ h => h) (hK9 (_) _ _ ?_ (sub_cons rfl sub_nil) (sub_cons rfl (sub_cons rfl sub_nil)) subH_nil subH_nil))
           try dsimp only
           first
           | exact nn_f (by omega)
          ·have phs44 := hs44; try simp only [decide_eq_true_eq, decide_eq_false_iff_not, Bool.not_eq_true', Bool.not_eq_false', Bool.not_true, Bool.not_false] at phs44
           refine ol_g rfl rfl hs44 ?_
           refine ol_r (r_move rfl) rfl ?_
           refine ol_g rfl rfl hs44 ?_
           refine ol_r (r_eql rfl rfl) rfl ?_
           refine ol_r (r_pickF rfl hs44 rfl) rfl ?_
           refine ol_r (r_not rfl) rfl ?_
           refine ol_nil (to_k0 (fun _ _ h => h) (hK9 (_) _ _ ?_ (sub_cons rfl sub_nil) (sub_cons rfl (sub_cons rfl sub_nil)) subH_nil subH_nil))
           try dsimp only
           first
           | exact nn_e (by omega)
      ·have phs23 := hs23; try simp only [decide_eq_true_eq, decide_eq_false_iff_not, Bool.not_eq_true', Bool.not_eq_false', Bool.not_true, Bool.not_false] at phs23
       refine ol_s rfl rfl hs23 rfl ?_
       refine ol_s rfl rfl hs23 rfl ?_
       refine ol_g rfl rfl rfl ?_
       refine ol_r (r_pickF rfl hs23 rfl) rfl ?_
       refine ol_r (r_pickF rfl rfl rfl) rfl ?_
       refine ol_r (r_move rfl) rfl ?_
       refine ol_g rfl rfl rfl ?_
       refine ol_r (r_move rfl) rfl ?_
       refine ol_g rfl rfl rfl ?_
       refine ol_r (r_geq rfl rfl) rfl ?_
       refine ol_g rfl rfl rfl ?_
       refine ol_r (r_move rfl) rfl ?_
       refine ol_split (d := 31) rfl (fun hs31 => ?_) (fun hs31 => ?_)
       ·have phs31 := hs31; try simp only [decide_eq_true_eq, decide_eq_false_iff_not, Bool.not_eq_true', Bool.not_eq_false', Bool.not_true, Bool.not_false] at phs31
        refine ol_g rfl rfl hs31 ?_
        refine ol_r (r_move rfl) rfl ?_
        refine ol_g rfl rfl hs31 ?_
        refine ol_r (r_leq rfl rfl) rfl ?_
        refine ol_g rfl rfl rfl ?_
        refine ol_r (r_pickT rfl hs31 rfl) rfl ?_
        refine ol_r (r_pickF rfl rfl rfl) rfl ?_
        refine ol_r (r_move rfl) rfl ?_
        refine ol_split (d := 36) rfl (fun hs36 => ?_) (fun hs36 => ?_)
        ·have phs36 := hs36; try simp only [decide_eq_true_eq, decide_eq_false_iff_not, Bool.not_eq_true', Bool.not_eq_false', Bool.not_true, Bool.not_false] at phs36
         refine ol_s rfl rfl hs36 rfl ?_
         refine ol_s rfl rfl hs36 rfl ?_
         refine ol_r (r_pickT rfl hs36 rfl) rfl ?_
         refine ol_r (r_move rfl) rfl ?_
         refine ol_s rfl rfl rfl rfl ?_
         refine ol_s rfl rfl rfl rfl ?_
         refine ol_r (r_pickT rfl rfl rfl) rfl ?_
         refine ol_r (r_move rfl) rfl ?_
         refine ol_s rfl rfl rfl rfl ?_
         refine ol_s rfl rfl rfl rfl ?_
         refine ol_r (r_pickT rfl rfl rfl) rfl ?_
         refine ol_r (r_not rfl) rfl ?_
         refine ol_nil (to_k0 (fun _ _ h => h) (hK9 (_) _ _ ?_ (sub_cons rfl sub_nil) (sub_cons rfl (sub_cons rfl sub_nil)) subH_nil subH_nil))
         try dsimp only
         first
         | exact nn_f (by omega)
        ·have phs36 := hs36; try simp only [decide_eq_true_eq, decide_eq_false_iff_not, Bool.not_eq_true', Bool.not_eq_false', Bool.not_true, Bool.not_false] at phs36
         refine ol_g rfl rfl hs36 ?_
         refine ol_r (r_move rfl) rfl ?_
         refine ol_g rfl rfl hs36 ?_
         refine ol_r (r_eql rfl rfl) rfl ?_
         refine ol_r (r_pickF rfl hs36 rfl) rfl ?_
         refine ol_r (r_move rfl) rfl ?_
         refine ol_split (d := 40) rfl (fun hs40 => ?_) (fun hs40 => ?_)
         ·have phs40 := hs40; try simp only [decide_eq_true_eq, decide_eq_false_iff_not, Bool.not_eq_true', Bool.not_eq_false', Bool.not_true, Bool.not_false] at phs40
          refine ol_s rfl rfl hs40 rfl ?_
          refine ol_s rfl rfl hs40 rfl ?_
          refine ol_r (r_pickT rfl hs40 rfl) rfl ?_
          refine ol_r (r_move rfl) rfl ?_
          refine ol_s rfl rfl rfl rfl ?_
          refine ol_s rfl rfl rfl rfl ?_
          refine ol_r (r_pickT rfl rfl rfl) rfl ?_
          refine ol_r (r_not rfl) rfl ?_
          refine ol_nil (to_k0 (fun _ _ h => h) (hK9 (_) _ _ ?_ (sub_cons rfl sub_nil) (sub_cons rfl (sub_cons rfl sub_nil)) subH_nil subH_nil))
          try dsimp only
          first
          | exact nn_f (by omega)
         ·have phs40 := hs40; try simp only [decide_eq_true_eq, decide_eq_false_iff_not, Bool.not_eq_true', Bool.not_eq_false', Bool.not_true, Bool.not_false] at phs40
          refine ol_g rfl rfl hs40 ?_
          refine ol_r (r_move rfl) rfl ?_
          refine ol_g rfl rfl hs40 ?_
          refine ol_r (r_eql rfl rfl) rfl ?_
          refine ol_r (r_pickF rfl hs40 rfl) rfl ?_
          refine ol_r (r_move rfl) rfl ?_
          refine ol_split (d := 44) rfl (fun hs44 => ?_) (fun hs44 => ?_)
          ·have phs44 := hs44; try simp only [decide_eq_true_eq, decide_eq_false_iff_not, Bool.not_eq_true', Bool.not_eq_false', Bool.not_true, Bool.not_false] at phs44
           refine ol_s rfl rfl hs44 rfl ?_
           refine ol_s rfl rfl hs44 rfl ?_
           refine ol_r (r_pickT rfl hs44 rfl) rfl ?_
           refine ol_r (r_not rfl) rfl ?_
           refine ol_nil (to_k0 (fun _ _ h => h) (hK9 (_) _ _ ?_ (sub_cons rfl sub_nil) (sub_cons rfl (sub_cons rfl sub_nil)) subH_nil subH_nil))
           try dsimp only
           first
           | exact nn_f (by omega)
          ·have phs44 := hs44; try simp only [decide_eq_true_eq, decide_eq_false_iff_not, Bool.not_eq_true', Bool.not_eq_false', Bool.not_true, Bool.not_false] at phs44
           refine ol_g rfl rfl hs44 ?_
           refine ol_r (r_move rfl) rfl ?_
           refine ol_g rfl rfl hs44 ?_
           refine ol_r (r_eql rfl rfl) rfl ?_
           refine ol_r (r_pickF rfl hs44 rfl) rfl ?_
           refine ol_r (r_not rfl) rfl ?_
           refine ol_nil (to_k0 (fun _ _ h => h) (hK9 (_) _ _ ?_ (sub_cons rfl sub_nil) (sub_cons rfl (sub_cons rfl sub_nil)) subH_nil subH_nil))
           try dsimp only
           first
           | exact nn_e (by omega)
       ·have phs31 := hs31; try simp only [decide_eq_true_eq, decide_eq_false_iff_not, Bool.not_eq_true', Bool.not_eq_false', Bool.not_true, Bool.not_false] at phs31
        refine ol_s rfl rfl hs31 rfl ?_
        refine ol_s rfl rfl hs31 rfl ?_
        refine ol_g rfl rfl rfl ?_
        refine ol_r (r_pickF rfl hs31 rfl) rfl ?_
        refine ol_r (r_pickF rfl rfl rfl) rfl ?_
        refine ol_r (r_move rfl) rfl ?_
        refine ol_g rfl rfl rfl ?_
        refine ol_r (r_move rfl) rfl ?_
        refine ol_g rfl rfl rfl ?_
        refine ol_r (r_eql rfl rfl) rfl ?_
        refine ol_r (r_pickF rfl rfl rfl) rfl ?_
        refine ol_r (r_move rfl) rfl ?_
        refine ol_split (d := 40) rfl (fun hs40 => ?_) (fun hs40 => ?_)
        ·have phs40 := hs40; try simp only [decide_eq_true_eq, decide_eq_false_iff_not, Bool.not_eq_true', Bool.not_eq_false', Bool.not_true, Bool.not_false] at phs40
         refine ol_s rfl rfl hs40 rfl ?_
         refine ol_s rfl rfl hs40 rfl ?_
         refine ol_r (r_pickT rfl hs40 rfl) rfl ?_
         refine ol_r (r_move rfl) rfl ?_
         refine ol_s rfl rfl rfl rfl ?_
         refine ol_s rfl rfl rfl rfl ?_
         refine ol_r (r_pickT rfl rfl rfl) rfl ?_
         refine ol_r (r_not rfl) rfl ?_
         refine ol_nil (to_k0 (fun _ _ h => h) (hK9 (_) _ _ ?_ (sub_cons rfl sub_nil) (sub_cons rfl (sub_cons rfl sub_nil)) subH_nil subH_nil))
         try dsimp only
         first
         | exact nn_f (by omega)
        ·have phs40 := hs40; try simp only [decide_eq_true_eq, decide_eq_false_iff_not, Bool.not_eq_true', Bool.not_eq_false', Bool.not_true, Bool.not_false] at phs40
         refine ol_g rfl rfl hs40 ?_
         refine ol_r (r_move rfl) rfl ?_
         refine ol_g rfl rfl hs40 ?_
         refine ol_r (r_eql rfl rfl) rfl ?_
         refine ol_r (r_pickF rfl hs40 rfl) rfl ?_
         refine ol_r (r_move rfl) rfl ?_
         refine ol_split (d := 44) rfl (fun hs44 => ?_) (fun hs44 => ?_)
         ·have phs44 := hs44; try simp only [decide_eq_true_eq, decide_eq_false_iff_not, Bool.not_eq_true', Bool.not_eq_false', Bool.not_true, Bool.not_false] at phs44
          refine ol_s rfl rfl hs44 rfl ?_
          refine ol_s rfl rfl hs44 rfl ?_
          refine ol_r (r_pickT rfl hs44 rfl) rfl ?_
          refine ol_r (r_not rfl) rfl ?_
          refine ol_nil (to_k0 (fun _ _ h => h) (hK9 (_) _ _ ?_ (sub_cons rfl sub_nil) (sub_cons rfl (sub_cons rfl sub_nil)) subH_nil subH_nil))
          try dsimp only
          first
          | exact nn_f (by omega)
         ·have phs44 := hs44; try simp only [decide_eq_true_eq, decide_eq_false_iff_not, Bool.not_eq_true', Bool.not_eq_false', Bool.not_true, Bool.not_false] at phs44
          refine ol_g rfl rfl hs44 ?_
          refine ol_r (r_move rfl) rfl ?_
          refine ol_g rfl rfl hs44 ?_
          refine ol_r (r_eql rfl rfl) rfl ?_
          refine ol_r (r_pickF rfl hs44 rfl) rfl ?_
          refine ol_r (r_not rfl) rfl ?_
          refine ol_nil (to_k0 (fun _ _ h => h) (hK9 (_) _ _ ?_ (sub_cons rfl sub_nil) (sub_cons rfl (sub_cons rfl sub_nil)) subH_nil subH_nil))
          try dsimp only
          first
          | exact nn_e (by omega)
    ·rintro b rfl
     refine wp_condNB rfl (fun hc48 => ?_) (fun hc48 => ?_)
     ·refine wp_seq' fun K10 hK10 => ?_
      refine wp_reg ?_
      refine ol_r (r_assign rfl) rfl ?_
      refine ol_nil (to_k0 (fun _ _ h => h) (hK10 _ _ _ _ _ ?_))
      clear hK10
      refine hQ.ret (rvs1 (rv_t rfl)) (fun _ _ h => h) fun w hb hs hB hkd => ?_
      first
        | (refine ⟨?_, hb⟩
           have h1 : nameC (byteAt q k) = false := hc48
           have h2 : nameB q = false := by unfold nameB; rw [bytesAll_not (by omega) h1]; rfl
           rw [h2]
           done)
     ·refine wp_skip' (to_k0 (fun _ _ h => h) (hK7 _ _ _ _ _ ?_))
      clear hK7
      refine wp_reg ?_
      refine ol_r (r_move rfl) rfl ?_
      refine ol_r (r_add rfl rfl (by omega)) rfl ?_
      refine ol_r (r_assign rfl) rfl ?_
      refine ol_nil (to_k0 (fun _ _ h => h) (hK4 (k + 1) _ _ ?_ ?_ (sub_cons rfl sub_nil) (sub_cons rfl sub_nil) (by exact subH_nil) subH_nil))
      ·try dsimp only
       exact ⟨by omega, up_to hP hc48⟩
      ·try dsimp only
       omega
   ·refine wp_exit' (to_k0 (fun _ _ h => h) (hK2 _ _ _ _ _ ?_))
    clear hK2
    refine wp_seq' fun K11 hK11 => ?_
    refine wp_reg ?_
    refine ol_r (r_move rfl) rfl ?_
    refine ol_r (r_lens rfl st9) rfl ?_
    refine ol_r (r_geq rfl rfl) rfl ?_
    refine ol_r (r_move rfl) rfl ?_
    refine ol_split (d := 52) rfl (fun hs52 => ?_) (fun hs52 => ?_)
    ·have phs52 := hs52; try simp only [decide_eq_true_eq, decide_eq_false_iff_not, Bool.not_eq_true', Bool.not_eq_false', Bool.not_true, Bool.not_false] at phs52
     refine ol_g rfl rfl hs52 ?_
     refine ol_r (r_move rfl) rfl ?_
     refine ol_g rfl rfl hs52 ?_
     refine ol_r (r_lens rfl st9) rfl ?_
     refine ol_g rfl rfl hs52 ?_
     refine ol_r (r_leq rfl rfl) rfl ?_
     refine ol_r (r_pickT rfl hs52 rfl) rfl ?_
     refine ol_r (r_assign rfl) rfl ?_
     refine ol_nil (to_k0 (fun _ _ h => h) (hK11 _ _ _ _ _ ?_))
     clear hK11
     refine hQ.ret (rvs1 (rv_t rfl)) (fun _ _ h => h) fun w hb hs hB hkd => ?_
     first
       | (refine ⟨?_, hb⟩
          have h1 : bytesAll nameC q = true := bytesAll_iff.2 fun i hi => hP i (by omega)
          unfold nameB
          rw [h1]
          congr 2
          simp only [Bool.true_and]
          first
            | (rw [decide_eq_true (show 1 ≤ q.size by omega), Bool.true_and, decide_eq_decide]; omega)
            | (rw [decide_eq_false (show ¬1 ≤ q.size by omega)]; rfl))
    ·have phs52 := hs52; try simp only [decide_eq_true_eq, decide_eq_false_iff_not, Bool.not_eq_true', Bool.not_eq_false', Bool.not_true, Bool.not_false] at phs52
     refine ol_s rfl rfl hs52 rfl ?_
     refine ol_s rfl rfl hs52 rfl ?_
     refine ol_s rfl rfl hs52 rfl ?_
     refine ol_r (r_pickF rfl hs52 rfl) rfl ?_
     refine ol_r (r_assign rfl) rfl ?_
     refine ol_nil (to_k0 (fun _ _ h => h) (hK11 _ _ _ _ _ ?_))
     clear hK11
     refine hQ.ret (rvs1 (rv_t rfl)) (fun _ _ h => h) fun w hb hs hB hkd => ?_
     first
       | (refine ⟨?_, hb⟩
          have h1 : bytesAll nameC q = true := bytesAll_iff.2 fun i hi => hP i (by omega)
          unfold nameB
          rw [h1]
          congr 2
          simp only [Bool.true_and]
          first
            | (rw [decide_eq_true (show 1 ≤ q.size by omega), Bool.true_and, decide_eq_decide]; omega)
            | (rw [decide_eq_false (show ¬1 ≤ q.size by omega)]; rfl))
theorem record_IsTitle (q : ByteArray) (w : World) (hq0 : q.size ≤ 9223372036854775807) : Calls Try.prog 86 #[.string q] w fun e w' => e = .returned (.bool (titleB q)) ∧ Below w.heap.size w w' := by
  refine enterQ (N := 19) (C := fun _ => True) (H := []) (B := w.heap.size) (args := [_]) Try.func86 rfl rfl rfl (Nat.le_refl _) (Sat.nil _ _) fun Q hQ => ?_
  refine wp_seq' fun K1 hK1 => ?_
  refine wp_reg ?_
  refine ol_r (r_assign rfl) rfl ?_
  refine ol_nil (to_k0 (fun _ _ h => h) (hK1 _ _ _ _ _ ?_))
  clear hK1
  refine wp_seq' fun K2 hK2 => ?_
  refine wp_seq' fun K3 hK3 => ?_
  refine wp_reg ?_
  refine ol_r (r_move rfl) rfl ?_
  refine ol_r (r_lens rfl st9) rfl ?_
  refine ol_r (r_move rfl) rfl ?_
  refine ol_nil (to_k0 (fun _ _ h => h) (hK3 _ _ _ _ _ ?_))
  clear hK3
  refine wp_block' ?_
  apply wp_loopM (σ := Nat) (fun s => s ≤ q.size ∧ ∀ i, i < s → inB (byteAt q i) 32 126 = true) (fun s => [(6, .int .i64 s)]) [(0, _), (5, _)] (fun s => []) [] (fun s => q.size - s) (0)
  ·try dsimp only
   exact ⟨Nat.zero_le _, fun i h => by omega⟩
  ·exact (sub_cons rfl sub_nil)
  ·exact (sub_cons rfl (sub_cons rfl sub_nil))
  ·exact subH_nil
  ·exact subH_nil
  ·rintro k ⟨hk, hP⟩
   intro K4 hK4
   refine wp_seq' fun K5 hK5 => ?_
   refine wp_reg ?_
   refine ol_r (r_lss rfl rfl) rfl ?_
   refine ol_nil (to_k0 (fun _ _ h => h) (hK5 _ _ _ _ _ ?_))
   clear hK5
   refine wp_seq' fun K6 hK6 => ?_
   refine wp_condD rfl (fun hc7 => ?_) (fun hc7 => ?_)
   ·refine wp_skip' (to_k0 (fun _ _ h => h) (hK6 _ _ _ _ _ ?_))
    clear hK6
    refine wp_seq' fun K7 hK7 => ?_
    refine wp_block' ?_
    refine wp_seq' fun K8 hK8 => ?_
    refine wp_reg ?_
    refine ol_r (r_move rfl) rfl ?_
    refine ol_r (r_assign rfl) rfl ?_
    refine ol_nil (to_k0 (fun _ _ h => h) (hK8 _ _ _ _ _ ?_))
    clear hK8
    refine wp_seq' fun K9 hK9 => ?_
    refine wp_reg ?_
    refine ol_r (r_move rfl) rfl ?_
    refine ol_r (r_move rfl) rfl ?_
    refine ol_r (r_sidx rfl rfl st9 (by omega)) rfl ?_
    try simp only [Int.toNat_natCast]
    have hbb := byteAt_bd q k
    refine ol_r (r_conv (k2 := .i64) rfl (by kernel_rfl) (by kernel_rfl) (IntWalk.i64_in _ (by omega))) rfl ?_
    refine ol_call rfl rfl cb83 rfl (fun w1 hb1 hs1 hB1 => Calls.mono (record_in _ _ _ _) ?_)
    rintro e w2 ⟨rfl, hb2⟩
    refine After.below rfl hb1 hs1 hB1 hb2 ?_
    clear hb2 hB1 hs1 hb1 w2 w1
    refine ol_r (r_not rfl) rfl ?_
    refine ol_nil (to_k0 (fun _ _ h => h) (hK9 _ _ _ _ _ ?_))
    clear hK9
    refine wp_condNB rfl (fun hc14 => ?_) (fun hc14 => ?_)
    ·refine wp_seq' fun K10 hK10 => ?_
     refine wp_reg ?_
     refine ol_r (r_assign rfl) rfl ?_
     refine ol_nil (to_k0 (fun _ _ h => h) (hK10 _ _ _ _ _ ?_))
     clear hK10
     refine hQ.ret (rvs1 (rv_t rfl)) (fun _ _ h => h) fun w hb hs hB hkd => ?_
     first
       | (refine ⟨?_, hb⟩
          have h1 : inB (byteAt q k) 32 126 = false := by simpa using hc14
          have h2 : titleB q = false := by unfold titleB; rw [bytesAll_not (p := fun c => inB c 32 126) (by omega) h1]; rfl
          rw [h2]
          done)
    ·refine wp_skip' (to_k0 (fun _ _ h => h) (hK7 _ _ _ _ _ ?_))
     clear hK7
     refine wp_reg ?_
     refine ol_r (r_add rfl rfl (by omega)) rfl ?_
     refine ol_r (r_move rfl) rfl ?_
     refine ol_nil (to_k0 (fun _ _ h => h) (hK4 (k + 1) _ _ ?_ ?_ (sub_cons rfl sub_nil) (sub_cons rfl (sub_cons rfl sub_nil)) (by exact subH_nil) subH_nil))
     ·try dsimp only
      refine ⟨by omega, fun i hi => ?_⟩
      by_cases h : i < k
      · exact hP i h
      · have : i = k := by omega
        subst this
        simpa using hc14
     ·try dsimp only
      omega
   ·refine wp_exit' (to_k0 (fun _ _ h => h) (hK2 _ _ _ _ _ ?_))
    clear hK2
    refine wp_seq' fun K11 hK11 => ?_
    refine wp_reg ?_
    refine ol_r (r_move rfl) rfl ?_
    refine ol_r (r_lens rfl st9) rfl ?_
    refine ol_r (r_leq rfl rfl) rfl ?_
    refine ol_r (r_assign rfl) rfl ?_
    refine ol_nil (to_k0 (fun _ _ h => h) (hK11 _ _ _ _ _ ?_))
    clear hK11
    refine hQ.ret (rvs1 (rv_t rfl)) (fun _ _ h => h) fun w hb hs hB hkd => ?_
    first
      | (refine ⟨?_, hb⟩
         have h1 : bytesAll (fun c => inB c 32 126) q = true := bytesAll_iff.2 fun i hi => hP i (by omega)
         unfold titleB
         rw [h1, Bool.true_and]
         congr 2
         rw [decide_eq_decide]; omega)
end Go.Proofs.Ytjflbnbofedlkaa

/-
  Check and Span of activities: program and reference.
-/

namespace Go.Proofs.Ytjflbnbofedlkaa
open Go Go.RowKit Hx
set_option linter.unusedVariables false
set_option linter.unusedSimpArgs false
set_option maxRecDepth 8000
theorem record_inRange (x : SmpR) (w : World) : Calls Try.prog 84 #[.agg #[.int .i64 x.at_, .int .i64 x.x, .int .i64 x.y, .int .i64 x.z, .int .i64 x.pulse, .int .i64 x.power, .int .i64 x.steps]] w fun e w' => e = .returned (.bool (smpIn x)) ∧ Below w.heap.size w w' := by
  refine enterQ (N := 33) (C := fun _ => True) (H := []) (B := w.heap.size) (args := [_]) Try.func84 rfl rfl rfl (Nat.le_refl _) (Sat.nil _ _) fun Q hQ => ?_
  refine wp_seq' fun K1 hK1 => ?_
  refine wp_reg ?_
  refine ol_box 1 rfl rfl rfl fun b1 => ?_
  refine ol_r (r_assign rfl) rfl ?_
  refine ol_nil (to_k0 (fun _ _ h => h) (hK1 _ _ _ _ _ ?_))
  clear hK1
  refine wp_seq' fun K2 hK2 => ?_
  refine wp_reg ?_
  refine ol_r (r_fa (o' := 1) rfl fl51_1 rfl) rfl ?_
  refine ol_r (r_ld (id := 1) rfl rfl rfl sc3) rfl ?_
  refine ol_call rfl rfl cb83 rfl (fun w1 hb1 hs1 hB1 => Calls.mono (record_in _ _ _ _) ?_)
  rintro e w2 ⟨rfl, hb2⟩
  refine After.below rfl hb1 hs1 hB1 hb2 ?_
  clear hb2 hB1 hs1 hb1 w2 w1
  refine ol_r (r_move rfl) rfl ?_
  refine ol_split (d := 7) rfl (fun hs7 => ?_) (fun hs7 => ?_)
  ·have phs7 := hs7; try simp only [decide_eq_true_eq, decide_eq_false_iff_not, Bool.not_eq_true', Bool.not_eq_false', Bool.not_true, Bool.not_false] at phs7
   refine ol_g rfl rfl hs7 ?_
   refine ol_r (r_fa (o' := 2) rfl fl51_2 rfl) rfl ?_
   refine ol_g rfl rfl hs7 ?_
   refine ol_r (r_ld (id := 1) rfl rfl rfl sc3) rfl ?_
   refine ol_g rfl rfl hs7 ?_
   refine ol_call rfl rfl cb83 rfl (fun w1 hb1 hs1 hB1 => Calls.mono (record_in _ _ _ _) ?_)
   rintro e w2 ⟨rfl, hb2⟩
   refine After.below rfl hb1 hs1 hB1 hb2 ?_
   clear hb2 hB1 hs1 hb1 w2 w1
   refine ol_r (r_pickT rfl hs7 rfl) rfl ?_
   refine ol_r (r_move rfl) rfl ?_
   refine ol_split (d := 12) rfl (fun hs12 => ?_) (fun hs12 => ?_)
   ·have phs12 := hs12; try simp only [decide_eq_true_eq, decide_eq_false_iff_not, Bool.not_eq_true', Bool.not_eq_false', Bool.not_true, Bool.not_false] at phs12
    refine ol_g rfl rfl hs12 ?_
    refine ol_r (r_fa (o' := 3) rfl fl51_3 rfl) rfl ?_
    refine ol_g rfl rfl hs12 ?_
    refine ol_r (r_ld (id := 1) rfl rfl rfl sc3) rfl ?_
    refine ol_g rfl rfl hs12 ?_
    refine ol_call rfl rfl cb83 rfl (fun w1 hb1 hs1 hB1 => Calls.mono (record_in _ _ _ _) ?_)
    rintro e w2 ⟨rfl, hb2⟩
    refine After.below rfl hb1 hs1 hB1 hb2 ?_
    clear hb2 hB1 hs1 hb1 w2 w1
    refine ol_r (r_pickT rfl hs12 rfl) rfl ?_
    refine ol_r (r_assign rfl) rfl ?_
    refine ol_nil (to_k0 (fun _ _ h => h) (hK2 _ _ _ _ _ ?_))
    clear hK2
    refine wp_seq' fun K3 hK3 => ?_
    refine wp_reg ?_
    refine ol_r (r_move rfl) rfl ?_
    refine ol_r (r_move rfl) rfl ?_
    refine ol_split (d := 18) rfl (fun hs18 => ?_) (fun hs18 => ?_)
    ·have phs18 := hs18; try simp only [decide_eq_true_eq, decide_eq_false_iff_not, Bool.not_eq_true', Bool.not_eq_false', Bool.not_true, Bool.not_false] at phs18
     refine ol_g rfl rfl hs18 ?_
     refine ol_r (r_fa (o' := 4) rfl fl51_4 rfl) rfl ?_
     refine ol_g rfl rfl hs18 ?_
     refine ol_r (r_ld (id := 1) rfl rfl rfl sc3) rfl ?_
     refine ol_g rfl rfl hs18 ?_
     refine ol_call rfl rfl cb83 rfl (fun w1 hb1 hs1 hB1 => Calls.mono (record_in _ _ _ _) ?_)
     rintro e w2 ⟨rfl, hb2⟩
     refine After.below rfl hb1 hs1 hB1 hb2 ?_
     clear hb2 hB1 hs1 hb1 w2 w1
     refine ol_r (r_pickT rfl hs18 rfl) rfl ?_
     refine ol_r (r_move rfl) rfl ?_
     refine ol_split (d := 23) rfl (fun hs23 => ?_) (fun hs23 => ?_)
     ·have phs23 := hs23; try simp only [decide_eq_true_eq, decide_eq_false_iff_not, Bool.not_eq_true', Bool.not_eq_false', Bool.not_true, Bool.not_false] at phs23
      refine ol_g rfl rfl hs23 ?_
      refine ol_r (r_fa (o' := 5) rfl fl51_5 rfl) rfl ?_
      refine ol_g rfl rfl hs23 ?_
      refine ol_r (r_ld (id := 1) rfl rfl rfl sc3) rfl ?_
      refine ol_g rfl rfl hs23 ?_
      refine ol_call rfl rfl cb83 rfl (fun w1 hb1 hs1 hB1 => Calls.mono (record_in _ _ _ _) ?_)
      rintro e w2 ⟨rfl, hb2⟩
      refine After.below rfl hb1 hs1 hB1 hb2 ?_
      clear hb2 hB1 hs1 hb1 w2 w1
      refine ol_r (r_pickT rfl hs23 rfl) rfl ?_
      refine ol_r (r_move rfl) rfl ?_
      refine ol_split (d := 28) rfl (fun hs28 => ?_) (fun hs28 => ?_)
      ·have phs28 := hs28; try simp only [decide_eq_true_eq, decide_eq_false_iff_not, Bool.not_eq_true', Bool.not_eq_false', Bool.not_true, Bool.not_false] at phs28
       refine ol_g rfl rfl hs28 ?_
       refine ol_r (r_fa (o' := 6) rfl fl51_6 rfl) rfl ?_
       refine ol_g rfl rfl hs28 ?_
       refine ol_r (r_ld (id := 1) rfl rfl rfl sc3) rfl ?_
       refine ol_g rfl rfl hs28 ?_
       refine ol_call rfl rfl cb83 rfl (fun w1 hb1 hs1 hB1 => Calls.mono (record_in _ _ _ _) ?_)
       rintro e w2 ⟨rfl, hb2⟩
       refine After.below rfl hb1 hs1 hB1 hb2 ?_
       clear hb2 hB1 hs1 hb1 w2 w1
       refine ol_r (r_pickT rfl hs28 rfl) rfl ?_
       refine ol_r (r_assign rfl) rfl ?_
       refine ol_nil (to_k0 (fun _ _ h => h) (hK3 _ _ _ _ _ ?_))
       clear hK3
       refine hQ.ret (rvs1 (rv_t rfl)) (fun _ _ h => h) fun w hb hs hB hkd => ?_
       refine ⟨?_, hb⟩
       unfold smpIn
       first
         | (simp_all; done)
         | (congr 2; simp_all; done)
      ·have phs28 := hs28; try simp only [decide_eq_true_eq, decide_eq_false_iff_not, Bool.not_eq_true', Bool.not_eq_false', Bool.not_true, Bool.not_false] at phs28
       refine ol_s rfl rfl hs28 rfl ?_
       refine ol_s rfl rfl hs28 rfl ?_
       refine ol_s rfl rfl hs28 rfl ?_
       refine ol_r (r_pickF rfl hs28 rfl) rfl ?_
       refine ol_r (r_assign rfl) rfl ?_
       refine ol_nil (to_k0 (fun _ _ h => h) (hK3 _ _ _ _ _ ?_))
       clear hK3
       refine hQ.ret (rvs1 (rv_t rfl)) (fun _ _ h => h) fun w hb hs hB hkd => ?_
       refine ⟨?_, hb⟩
       unfold smpIn
       first
         | (simp_all; done)
         | (congr 2; simp_all; done)
     ·have phs23 := hs23; try simp only [decide_eq_true_eq, decide_eq_false_iff_not, Bool.not_eq_true', Bool.not_eq_false', Bool.not_true, Bool.not_false] at phs23
      refine ol_s rfl rfl hs23 rfl ?_
      refine ol_s rfl rfl hs23 rfl ?_
      refine ol_s rfl rfl hs23 rfl ?_
      refine ol_r (r_pickF rfl hs23 rfl) rfl ?_
      refine ol_r (r_move rfl) rfl ?_
      refine ol_s rfl rfl rfl rfl ?_
      refine ol_s rfl rfl rfl rfl ?_
      refine ol_s rfl rfl rfl rfl ?_
      refine ol_r (r_pickF rfl rfl rfl) rfl ?_
      refine ol_r (r_assign rfl) rfl ?_
      refine ol_nil (to_k0 (fun _ _ h => h) (hK3 _ _ _ _ _ ?_))
      clear hK3
      refine hQ.ret (rvs1 (rv_t rfl)) (fun _ _ h => h) fun w hb hs hB hkd => ?_
      refine ⟨?_, hb⟩
      unfold smpIn
      first
        | (simp_all; done)
        | (congr 2; simp_all; done)
    ·have phs18 := hs18; try simp only [decide_eq_true_eq, decide_eq_false_iff_not, Bool.not_eq_true', Bool.not_eq_false', Bool.not_true, Bool.not_false] at phs18
     refine ol_s rfl rfl hs18 rfl ?_
     refine ol_s rfl rfl hs18 rfl ?_
     refine ol_s rfl rfl hs18 rfl ?_
     refine ol_r (r_pickF rfl hs18 rfl) rfl ?_
     refine ol_r (r_move rfl) rfl ?_
     refine ol_s rfl rfl rfl rfl ?_
     refine ol_s rfl rfl rfl rfl ?_
     refine ol_s rfl rfl rfl rfl ?_
     refine ol_r (r_pickF rfl rfl rfl) rfl ?_
     refine ol_r (r_move rfl) rfl ?_
     refine ol_s rfl rfl rfl rfl ?_
     refine ol_s rfl rfl rfl rfl ?_
     refine ol_s rfl rfl rfl rfl ?_
     refine ol_r (r_pickF rfl rfl rfl) rfl ?_
     refine ol_r (r_assign rfl) rfl ?_
     refine ol_nil (to_k0 (fun _ _ h => h) (hK3 _ _ _ _ _ ?_))
     clear hK3
     refine hQ.ret (rvs1 (rv_t rfl)) (fun _ _ h => h) fun w hb hs hB hkd => ?_
     refine ⟨?_, hb⟩
     unfold smpIn
     first
       | (simp_all; done)
       | (congr 2; simp_all; done)
   ·have phs12 := hs12; try simp only [decide_eq_true_eq, decide_eq_false_iff_not, Bool.not_eq_true', Bool.not_eq_false', Bool.not_true, Bool.not_false] at phs12
    refine ol_s rfl rfl hs12 rfl ?_
    refine ol_s rfl rfl hs12 rfl ?_
    refine ol_s rfl rfl hs12 rfl ?_
    refine ol_r (r_pickF rfl hs12 rfl) rfl ?_
    refine ol_r (r_assign rfl) rfl ?_
    refine ol_nil (to_k0 (fun _ _ h => h) (hK2 _ _ _ _ _ ?_))
    clear hK2
    refine wp_seq' fun K4 hK4 => ?_
    refine wp_reg ?_
    refine ol_r (r_move rfl) rfl ?_
    refine ol_r (r_move rfl) rfl ?_
    refine ol_s rfl rfl rfl rfl ?_
    refine ol_s rfl rfl rfl rfl ?_
    refine ol_s rfl rfl rfl rfl ?_
    refine ol_r (r_pickF rfl rfl rfl) rfl ?_
    refine ol_r (r_move rfl) rfl ?_
    refine ol_s rfl rfl rfl rfl ?_
    refine ol_s rfl rfl rfl rfl ?_
    refine ol_s rfl rfl rfl rfl ?_
    refine ol_r (r_pickF rfl rfl rfl) rfl ?_
    refine ol_r (r_move rfl) rfl ?_
    refine ol_s rfl rfl rfl rfl ?_
    refine ol_s rfl rfl rfl rfl ?_
    refine ol_s rfl rfl rfl rfl ?_
    refine ol_r (r_pickF rfl rfl rfl) rfl ?_
    refine ol_r (r_assign rfl) rfl ?_
    refine ol_nil (to_k0 (fun _ _ h => h) (hK4 _ _ _ _ _ ?_))
    clear hK4
    refine hQ.ret (rvs1 (rv_t rfl)) (fun _ _ h => h) fun w hb hs hB hkd => ?_
    refine ⟨?_, hb⟩
    unfold smpIn
    first
      | (simp_all; done)
      | (congr 2; simp_all; done)
  ·have phs7 := hs7; try simp only [decide_eq_true_eq, decide_eq_false_iff_not, Bool.not_eq_true', Bool.not_eq_false', Bool.not_true, Bool.not_false] at phs7
   refine ol_s rfl rfl hs7 rfl ?_
   refine ol_s rfl rfl hs7 rfl ?_
   refine ol_s rfl rfl hs7 rfl ?_
   refine ol_r (r_pickF rfl hs7 rfl) rfl ?_
   refine ol_r (r_move rfl) rfl ?_
   refine ol_s rfl rfl rfl rfl ?_
   refine ol_s rfl rfl rfl rfl ?_
   refine ol_s rfl rfl rfl rfl ?_
   refine ol_r (r_pickF rfl rfl rfl) rfl ?_
   refine ol_r (r_assign rfl) rfl ?_
   refine ol_nil (to_k0 (fun _ _ h => h) (hK2 _ _ _ _ _ ?_))
   clear hK2
   refine wp_seq' fun K5 hK5 => ?_
   refine wp_reg ?_
   refine ol_r (r_move rfl) rfl ?_
   refine ol_r (r_move rfl) rfl ?_
   refine ol_s rfl rfl rfl rfl ?_
   refine ol_s rfl rfl rfl rfl ?_
   refine ol_s rfl rfl rfl rfl ?_
   refine ol_r (r_pickF rfl rfl rfl) rfl ?_
   refine ol_r (r_move rfl) rfl ?_
   refine ol_s rfl rfl rfl rfl ?_
   refine ol_s rfl rfl rfl rfl ?_
   refine ol_s rfl rfl rfl rfl ?_
   refine ol_r (r_pickF rfl rfl rfl) rfl ?_
   refine ol_r (r_move rfl) rfl ?_
   refine ol_s rfl rfl rfl rfl ?_
   refine ol_s rfl rfl rfl rfl ?_
   refine ol_s rfl rfl rfl rfl ?_
   refine ol_r (r_pickF rfl rfl rfl) rfl ?_
   refine ol_r (r_assign rfl) rfl ?_
   refine ol_nil (to_k0 (fun _ _ h => h) (hK5 _ _ _ _ _ ?_))
   clear hK5
   refine hQ.ret (rvs1 (rv_t rfl)) (fun _ _ h => h) fun w hb hs hB hkd => ?_
   refine ⟨?_, hb⟩
   unfold smpIn
   first
     | (simp_all; done)
     | (congr 2; simp_all; done)
theorem record_Span (A : ActV) (w : World) (hA : A.Ok w.heap.size w) : Calls Try.prog 85 #[.agg #[.string A.name, .int .i64 A.sport, .int .i64 A.start, .slice A.sa A.sn A.sc, .slice A.la A.ln A.lc, .slice A.ta A.tn A.tc]] w fun e w' => e = .returned (.int .i64 (spanL A.ss)) ∧ Below w.heap.size w w' := by
  have hn := hA.s.len
  have hfit := hA.s.fit
  refine enterQ (N := 16) (C := fun _ => True) (H := []) (B := w.heap.size) (args := [_]) Try.func85 rfl rfl rfl (Nat.le_refl _) (Sat.nil _ _) fun Q hQ => ?_
  refine wp_seq' fun K1 hK1 => ?_
  refine wp_reg ?_
  refine ol_box 1 rfl rfl rfl fun b1 => ?_
  refine ol_r (r_assign rfl) rfl ?_
  refine ol_nil (to_k0 (fun _ _ h => h) (hK1 _ _ _ _ _ ?_))
  clear hK1
  refine wp_seq' fun K2 hK2 => ?_
  refine wp_seq' fun K3 hK3 => ?_
  refine wp_reg ?_
  refine ol_r (r_fa (o' := 3) rfl fl39_3 rfl) rfl ?_
  refine ol_r (r_ld (id := 1) rfl rfl rfl sc35) rfl ?_
  refine ol_r (r_len rfl sl35) rfl ?_
  refine ol_r (r_assign rfl) rfl ?_
  refine ol_nil (to_k0 (fun _ _ h => h) (hK3 _ _ _ _ _ ?_))
  clear hK3
  refine wp_seq' fun K4 hK4 => ?_
  refine wp_reg ?_
  refine ol_r (r_move rfl) rfl ?_
  refine ol_r (r_gtr rfl rfl) rfl ?_
  refine ol_nil (to_k0 (fun _ _ h => h) (hK4 _ _ _ _ _ ?_))
  clear hK4
  refine wp_condD rfl (fun hc8 => ?_) (fun hc8 => ?_)
  ·refine wp_seq' fun K5 hK5 => ?_
   refine wp_reg ?_
   refine ol_r (r_fa (o' := 3) rfl fl39_3 rfl) rfl ?_
   refine ol_r (r_ld (id := 1) rfl rfl rfl sc35) rfl ?_
   refine ol_r (r_move rfl) rfl ?_
   refine ol_r (r_sub rfl rfl (by omega)) rfl ?_
   refine ol_ixr hA.s rfl rfl sl35 (by omega) rfl fun x13 hx13 => ?_
   try simp only [Int.toNat_natCast] at hx13
   refine ol_r (r_faw rfl (ix_some hA.s (by omega)) fl51_0) rfl ?_
   refine ol_r (r_ldw rfl (fun w1 hb1 hs1 hB1 => Rd.loadsF (o := 0) hA.s sc3 hx13 hb1 rfl)) rfl ?_
   refine ol_r (r_assign rfl) rfl ?_
   refine ol_nil (to_k0 (fun _ _ h => h) (hK5 _ _ _ _ _ ?_))
   clear hK5
   refine hQ.ret (rvs1 (rv_t rfl)) (fun _ _ h => h) fun w hb hs hB hkd => ?_
   exact ⟨by rw [spanL_get hx13 (by omega)], hb⟩
  ·refine wp_skip' (to_k0 (fun _ _ h => h) (hK2 _ _ _ _ _ ?_))
   clear hK2
   refine wp_seq' fun K6 hK6 => ?_
   refine wp_reg ?_
   refine ol_r (r_assign rfl) rfl ?_
   refine ol_nil (to_k0 (fun _ _ h => h) (hK6 _ _ _ _ _ ?_))
   clear hK6
   refine hQ.ret (rvs1 (rv_t rfl)) (fun _ _ h => h) fun w hb hs hB hkd => ?_
   exact ⟨by rw [spanL_nil (by omega)], hb⟩
theorem ref2_SpanOf (A : ActV) (w : World) (hA : A.Ok w.heap.size w) : Calls Try.prog 107 #[.agg #[.string A.name, .int .i64 A.sport, .int .i64 A.start, .slice A.sa A.sn A.sc, .slice A.la A.ln A.lc, .slice A.ta A.tn A.tc]] w fun e w' => e = .returned (.int .i64 (spanL A.ss)) ∧ Below w.heap.size w w' := by
  have hn := hA.s.len
  have hfit := hA.s.fit
  refine enterQ (N := 16) (C := fun _ => True) (H := []) (B := w.heap.size) (args := [_]) Try.func107 rfl rfl rfl (Nat.le_refl _) (Sat.nil _ _) fun Q hQ => ?_
  refine wp_seq' fun K1 hK1 => ?_
  refine wp_reg ?_
  refine ol_box 1 rfl rfl rfl fun b1 => ?_
  refine ol_r (r_assign rfl) rfl ?_
  refine ol_nil (to_k0 (fun _ _ h => h) (hK1 _ _ _ _ _ ?_))
  clear hK1
  refine wp_seq' fun K2 hK2 => ?_
  refine wp_seq' fun K3 hK3 => ?_
  refine wp_reg ?_
  refine ol_r (r_fa (o' := 3) rfl fl39_3 rfl) rfl ?_
  refine ol_r (r_ld (id := 1) rfl rfl rfl sc35) rfl ?_
  refine ol_r (r_len rfl sl35) rfl ?_
  refine ol_r (r_eql rfl rfl) rfl ?_
  refine ol_nil (to_k0 (fun _ _ h => h) (hK3 _ _ _ _ _ ?_))
  clear hK3
  refine wp_condD rfl (fun hc6 => ?_) (fun hc6 => ?_)
  ·refine wp_seq' fun K4 hK4 => ?_
   refine wp_reg ?_
   refine ol_r (r_assign rfl) rfl ?_
   refine ol_nil (to_k0 (fun _ _ h => h) (hK4 _ _ _ _ _ ?_))
   clear hK4
   refine hQ.ret (rvs1 (rv_t rfl)) (fun _ _ h => h) fun w hb hs hB hkd => ?_
   exact ⟨by rw [spanL_nil (by omega)], hb⟩
  ·refine wp_skip' (to_k0 (fun _ _ h => h) (hK2 _ _ _ _ _ ?_))
   clear hK2
   refine wp_seq' fun K5 hK5 => ?_
   refine wp_reg ?_
   refine ol_r (r_fa (o' := 3) rfl fl39_3 rfl) rfl ?_
   refine ol_r (r_ld (id := 1) rfl rfl rfl sc35) rfl ?_
   refine ol_r (r_fa (o' := 3) rfl fl39_3 rfl) rfl ?_
   refine ol_r (r_ld (id := 1) rfl rfl rfl sc35) rfl ?_
   refine ol_r (r_len rfl sl35) rfl ?_
   refine ol_r (r_sub rfl rfl (by omega)) rfl ?_
   refine ol_ixr hA.s rfl rfl sl35 (by omega) rfl fun x13 hx13 => ?_
   try simp only [Int.toNat_natCast] at hx13
   refine ol_r (r_faw rfl (ix_some hA.s (by omega)) fl51_0) rfl ?_
   refine ol_r (r_ldw rfl (fun w1 hb1 hs1 hB1 => Rd.loadsF (o := 0) hA.s sc3 hx13 hb1 rfl)) rfl ?_
   refine ol_r (r_assign rfl) rfl ?_
   refine ol_nil (to_k0 (fun _ _ h => h) (hK5 _ _ _ _ _ ?_))
   clear hK5
   refine hQ.ret (rvs1 (rv_t rfl)) (fun _ _ h => h) fun w hb hs hB hkd => ?_
   exact ⟨by rw [spanL_get hx13 (by omega)], hb⟩
theorem pos_ahead {ss : List SmpR} {k : Nat} (h : ∀ j y, j < k → ss[j]? = some y → 0 ≤ y.at_) {x y : SmpR} (hk : (0 : Int) < k) (hy : ss[((k : Int) - 1).toNat]? = some y) : 0 ≤ y.at_ := h _ y (by omega) hy
theorem pos_next {ss : List SmpR} {k : Nat} (h : ∀ j y, j < k → ss[j]? = some y → 0 ≤ y.at_) {x : SmpR} (hx : ss[k]? = some x) (h0 : 0 ≤ x.at_) : ∀ j y, j < k + 1 → ss[j]? = some y → 0 ≤ y.at_ := fun j y hj hy => by
  by_cases hjk : j < k
  · exact h j y hjk hy
  · have : j = k := by omega
    subst this
    rw [hx] at hy; cases hy; exact h0
theorem fS_is {st : Int} {p : Option SmpR} {x : SmpR} (h : ordS p x = false) (h1 : x.at_ ≤ 1000000) (h2 : st + x.at_ ≤ 86399999999) (h3 : smpIn x = true) : fS st p x = 0 := by
  unfold fS
  rw [if_neg (by rw [h]; simp), if_neg]
  rintro (h | h | h)
  · omega
  · omega
  · rw [h3] at h; cases h
theorem fS_10 {st : Int} {p : Option SmpR} {x : SmpR} (h : ordS p x = true) : fS st p x = 10 := by unfold fS; rw [if_pos h]
theorem fS_9 {st : Int} {p : Option SmpR} {x : SmpR} (h : ordS p x = false) (h1 : 1000000 < x.at_ ∨ 86399999999 < st + x.at_ ∨ smpIn x = false) : fS st p x = 9 := by
  unfold fS; rw [if_neg (by rw [h]; simp), if_pos h1]
theorem ordS_0 {ss : List SmpR} {k : Nat} {x : SmpR} (hk : (k : Int) = 0) : ordS (ahead ss k) x = decide (x.at_ ≠ 0) := by rw [ahead_none hk]; rfl
theorem ordS_1 {ss : List SmpR} {k : Nat} {x y : SmpR} (hk : (0 : Int) < k) (hy : ss[((k : Int) - 1).toNat]? = some y) : ordS (ahead ss k) x = decide (x.at_ ≤ y.at_) := by rw [ahead_pred hk hy]; rfl
theorem ordL_0 {ls : List LapR} {k : Nat} {x : LapR} (hk : (k : Int) = 0) : ordL (ahead ls k) x = false := by rw [ahead_none hk]; rfl
theorem ordL_1 {ls : List LapR} {k : Nat} {x y : LapR} (hk : (0 : Int) < k) (hy : ls[((k : Int) - 1).toNat]? = some y) : ordL (ahead ls k) x = decide (x.from_ < y.to) := by rw [ahead_pred hk hy]; rfl
theorem ordT_0 {ts : List ByteArray} {k : Nat} {x : ByteArray} (hk : (k : Int) = 0) : ordT (ahead ts k) x = false := by rw [ahead_none hk]; rfl
theorem ordT_1 {ts : List ByteArray} {k : Nat} {x y : ByteArray} (hk : (0 : Int) < k) (hy : ts[((k : Int) - 1).toNat]? = some y) : ordT (ahead ts k) x = sLe x y := by rw [ahead_pred hk hy]; rfl
theorem fL_9 {sp : Int} {p : Option LapR} {x : LapR} (h : x.from_ < 0 ∨ x.to ≤ x.from_ ∨ sp < x.to) : fL sp p x = 9 := by unfold fL; rw [if_pos h]
theorem fL_10 {sp : Int} {p : Option LapR} {x : LapR} (h : ¬(x.from_ < 0 ∨ x.to ≤ x.from_ ∨ sp < x.to)) (h2 : ordL p x = true) : fL sp p x = 10 := by unfold fL; rw [if_neg h, if_pos h2]
theorem fL_8 {sp : Int} {p : Option LapR} {x : LapR} (h : ¬(x.from_ < 0 ∨ x.to ≤ x.from_ ∨ sp < x.to)) (h2 : ordL p x = false) (h3 : titleB x.name = false) : fL sp p x = 8 := by unfold fL; rw [if_neg h, if_neg (by rw [h2]; simp), if_pos h3]
theorem fL_0 {sp : Int} {p : Option LapR} {x : LapR} (h : ¬(x.from_ < 0 ∨ x.to ≤ x.from_ ∨ sp < x.to)) (h2 : ordL p x = false) (h3 : titleB x.name = true) : fL sp p x = 0 := by unfold fL; rw [if_neg h, if_neg (by rw [h2]; simp), if_neg (by rw [h3]; simp)]
theorem fT_8 {p : Option ByteArray} {x : ByteArray} (h : nameB x = false) : fT p x = 8 := by unfold fT; rw [if_pos h]
theorem fT_10 {p : Option ByteArray} {x : ByteArray} (h : nameB x = true) (h2 : ordT p x = true) : fT p x = 10 := by unfold fT; rw [if_neg (by rw [h]; simp), if_pos h2]
theorem fT_0 {p : Option ByteArray} {x : ByteArray} (h : nameB x = true) (h2 : ordT p x = false) : fT p x = 0 := by unfold fT; rw [if_neg (by rw [h]; simp), if_neg (by rw [h2]; simp)]
theorem record_Check (A : ActV) (w : World) (hA : A.Ok w.heap.size w) : Calls Try.prog 54 #[.agg #[.string A.name, .int .i64 A.sport, .int .i64 A.start, .slice A.sa A.sn A.sc, .slice A.la A.ln A.lc, .slice A.ta A.tn A.tc]] w fun e w' => e = .returned (.int .i64 (chkA A.d)) ∧ Below w.heap.size w w' := by
  have hsn := hA.s.len
  have hln := hA.l.len
  have htn := hA.t.len
  have hsf := hA.s.fit
  have hlf := hA.l.fit
  have htf := hA.t.fit
  refine enterQ (N := 164) (C := fun _ => True) (H := []) (B := w.heap.size) (args := [_]) Try.func54 rfl rfl rfl (Nat.le_refl _) (Sat.nil _ _) fun Q hQ => ?_
  refine wp_seq' fun K1 hK1 => ?_
  refine wp_reg ?_
  refine ol_box 1 rfl rfl rfl fun b1 => ?_
  refine ol_r (r_assign rfl) rfl ?_
  refine ol_nil (to_k0 (fun _ _ h => h) (hK1 _ _ _ _ _ ?_))
  clear hK1
  refine wp_seq' fun K2 hK2 => ?_
  refine wp_block' ?_
  refine wp_seq' fun K3 hK3 => ?_
  refine wp_reg ?_
  refine ol_r (r_fa (o' := 0) rfl fl39_0 rfl) rfl ?_
  refine ol_r (r_ld (id := 1) rfl rfl rfl sc9) rfl ?_
  refine ol_call rfl rfl cb44 rfl (fun w1 hb1 hs1 hB1 => Calls.mono (quant_IsName A.name _ hA.nm) ?_)
  rintro e w2 ⟨rfl, hb2⟩
  refine After.below rfl hb1 hs1 hB1 hb2 ?_
  clear hb2 hB1 hs1 hb1 w2 w1
  refine ol_r (r_not rfl) rfl ?_
  refine ol_r (r_assign rfl) rfl ?_
  refine ol_nil (to_k0 (fun _ _ h => h) (hK3 _ _ _ _ _ ?_))
  clear hK3
  refine wp_condNB rfl (fun hc10 => ?_) (fun hc10 => ?_)
  ·refine wp_seq' fun K4 hK4 => ?_
   refine wp_reg ?_
   refine ol_r (r_assign rfl) rfl ?_
   refine ol_nil (to_k0 (fun _ _ h => h) (hK4 _ _ _ _ _ ?_))
   clear hK4
   refine hQ.ret (rvs1 (rv_t rfl)) (fun _ _ h => h) fun w hb hs hB hkd => ?_
   first
     | (exact ⟨by rw [chkA_8 (a := A.d) (show nameB A.name = false by simpa using hc10)], hb⟩; done)
  ·refine wp_seq' fun K5 hK5 => ?_
   refine wp_reg ?_
   refine ol_r (r_fa (o' := 1) rfl fl39_1 rfl) rfl ?_
   refine ol_r (r_ld (id := 1) rfl rfl rfl sc3) rfl ?_
   refine ol_call rfl rfl cb83 rfl (fun w1 hb1 hs1 hB1 => Calls.mono (record_in _ _ _ _) ?_)
   rintro e w2 ⟨rfl, hb2⟩
   refine After.below rfl hb1 hs1 hB1 hb2 ?_
   clear hb2 hB1 hs1 hb1 w2 w1
   refine ol_r (r_not rfl) rfl ?_
   refine ol_r (r_assign rfl) rfl ?_
   refine ol_nil (to_k0 (fun _ _ h => h) (hK5 _ _ _ _ _ ?_))
   clear hK5
   refine wp_condNB rfl (fun hc15 => ?_) (fun hc15 => ?_)
   ·refine wp_seq' fun K6 hK6 => ?_
    refine wp_reg ?_
    refine ol_r (r_assign rfl) rfl ?_
    refine ol_nil (to_k0 (fun _ _ h => h) (hK6 _ _ _ _ _ ?_))
    clear hK6
    refine hQ.ret (rvs1 (rv_t rfl)) (fun _ _ h => h) fun w hb hs hB hkd => ?_
    first
      | (exact ⟨by rw [chkA_7 (a := A.d) (show nameB A.name = true by simpa using hc10) (show inB A.sport 1 5 = false by simpa using hc15)], hb⟩; done)
   ·refine wp_seq' fun K7 hK7 => ?_
    refine wp_reg ?_
    refine ol_r (r_fa (o' := 2) rfl fl39_2 rfl) rfl ?_
    refine ol_r (r_ld (id := 1) rfl rfl rfl sc3) rfl ?_
    refine ol_call rfl rfl cb83 rfl (fun w1 hb1 hs1 hB1 => Calls.mono (record_in _ _ _ _) ?_)
    rintro e w2 ⟨rfl, hb2⟩
    refine After.below rfl hb1 hs1 hB1 hb2 ?_
    clear hb2 hB1 hs1 hb1 w2 w1
    refine ol_r (r_not rfl) rfl ?_
    refine ol_r (r_assign rfl) rfl ?_
    refine ol_nil (to_k0 (fun _ _ h => h) (hK7 _ _ _ _ _ ?_))
    clear hK7
    refine wp_condNB rfl (fun hc20 => ?_) (fun hc20 => ?_)
    ·refine wp_seq' fun K8 hK8 => ?_
     refine wp_reg ?_
     refine ol_r (r_assign rfl) rfl ?_
     refine ol_nil (to_k0 (fun _ _ h => h) (hK8 _ _ _ _ _ ?_))
     clear hK8
     refine hQ.ret (rvs1 (rv_t rfl)) (fun _ _ h => h) fun w hb hs hB hkd => ?_
     first
       | (exact ⟨by rw [chkA_9 (a := A.d) (show nameB A.name = true by simpa using hc10) (show inB A.sport 1 5 = true by simpa using hc15) (show inB A.start 0 86399999999 = false by simpa using hc20)], hb⟩; done)
    ·refine wp_seq' fun K9 hK9 => ?_
     refine wp_reg ?_
     refine ol_r (r_fa (o' := 3) rfl fl39_3 rfl) rfl ?_
     refine ol_r (r_ld (id := 1) rfl rfl rfl sc35) rfl ?_
     refine ol_r (r_len rfl sl35) rfl ?_
     refine ol_r (r_gtr rfl rfl) rfl ?_
     refine ol_r (r_move rfl) rfl ?_
     refine ol_split (d := 30) rfl (fun hs30 => ?_) (fun hs30 => ?_)
     ·have phs30 := hs30; try simp only [decide_eq_true_eq, decide_eq_false_iff_not, Bool.not_eq_true', Bool.not_eq_false', Bool.not_true, Bool.not_false] at phs30
      refine ol_s rfl rfl hs30 rfl ?_
      refine ol_s rfl rfl hs30 rfl ?_
      refine ol_s rfl rfl hs30 rfl ?_
      refine ol_s rfl rfl hs30 rfl ?_
      refine ol_r (r_pickT rfl hs30 rfl) rfl ?_
      refine ol_r (r_move rfl) rfl ?_
      refine ol_s rfl rfl rfl rfl ?_
      refine ol_s rfl rfl rfl rfl ?_
      refine ol_s rfl rfl rfl rfl ?_
      refine ol_s rfl rfl rfl rfl ?_
      refine ol_r (r_pickT rfl rfl rfl) rfl ?_
      refine ol_r (r_assign rfl) rfl ?_
      refine ol_nil (to_k0 (fun _ _ h => h) (hK9 _ _ _ _ _ ?_))
      clear hK9
      refine wp_condT rfl ?_
      refine wp_seq' fun K10 hK10 => ?_
      refine wp_reg ?_
      refine ol_r (r_assign rfl) rfl ?_
      refine ol_nil (to_k0 (fun _ _ h => h) (hK10 _ _ _ _ _ ?_))
      clear hK10
      refine hQ.ret (rvs1 (rv_t rfl)) (fun _ _ h => h) fun w hb hs hB hkd => ?_
      first
        | (exact ⟨by rw [chkA_3 (a := A.d) (show nameB A.name = true by simpa using hc10) (show inB A.sport 1 5 = true by simpa using hc15) (show inB A.start 0 86399999999 = true by simpa using hc20) (show 20000 < A.ss.length ∨ 200 < A.ls.length ∨ 20 < A.ts.length by omega)], hb⟩; done)
     ·have phs30 := hs30; try simp only [decide_eq_true_eq, decide_eq_false_iff_not, Bool.not_eq_true', Bool.not_eq_false', Bool.not_true, Bool.not_false] at phs30
      refine ol_g rfl rfl hs30 ?_
      refine ol_r (r_fa (o' := 4) rfl fl39_4 rfl) rfl ?_
      refine ol_g rfl rfl hs30 ?_
      refine ol_r (r_ld (id := 1) rfl rfl rfl sc36) rfl ?_
      refine ol_g rfl rfl hs30 ?_
      refine ol_r (r_len rfl sl36) rfl ?_
      refine ol_g rfl rfl hs30 ?_
      refine ol_r (r_gtr rfl rfl) rfl ?_
      refine ol_r (r_pickF rfl hs30 rfl) rfl ?_
      refine ol_r (r_move rfl) rfl ?_
      refine ol_split (d := 36) rfl (fun hs36 => ?_) (fun hs36 => ?_)
      ·have phs36 := hs36; try simp only [decide_eq_true_eq, decide_eq_false_iff_not, Bool.not_eq_true', Bool.not_eq_false', Bool.not_true, Bool.not_false] at phs36
       refine ol_s rfl rfl hs36 rfl ?_
       refine ol_s rfl rfl hs36 rfl ?_
       refine ol_s rfl rfl hs36 rfl ?_
       refine ol_s rfl rfl hs36 rfl ?_
       refine ol_r (r_pickT rfl hs36 rfl) rfl ?_
       refine ol_r (r_assign rfl) rfl ?_
       refine ol_nil (to_k0 (fun _ _ h => h) (hK9 _ _ _ _ _ ?_))
       clear hK9
       refine wp_condT rfl ?_
       refine wp_seq' fun K11 hK11 => ?_
       refine wp_reg ?_
       refine ol_r (r_assign rfl) rfl ?_
       refine ol_nil (to_k0 (fun _ _ h => h) (hK11 _ _ _ _ _ ?_))
       clear hK11
       refine hQ.ret (rvs1 (rv_t rfl)) (fun _ _ h => h) fun w hb hs hB hkd => ?_
       first
         | (exact ⟨by rw [chkA_3 (a := A.d) (show nameB A.name = true by simpa using hc10) (show inB A.sport 1 5 = true by simpa using hc15) (show inB A.start 0 86399999999 = true by simpa using hc20) (show 20000 < A.ss.length ∨ 200 < A.ls.length ∨ 20 < A.ts.length by omega)], hb⟩; done)
      ·have phs36 := hs36; try simp only [decide_eq_true_eq, decide_eq_false_iff_not, Bool.not_eq_true', Bool.not_eq_false', Bool.not_true, Bool.not_false] at phs36
       refine ol_g rfl rfl hs36 ?_
       refine ol_r (r_fa (o' := 5) rfl fl39_5 rfl) rfl ?_
       refine ol_g rfl rfl hs36 ?_
       refine ol_r (r_ld (id := 1) rfl rfl rfl sc37) rfl ?_
       refine ol_g rfl rfl hs36 ?_
       refine ol_r (r_len rfl sl37) rfl ?_
       refine ol_g rfl rfl hs36 ?_
       refine ol_r (r_gtr rfl rfl) rfl ?_
       refine ol_r (r_pickF rfl hs36 rfl) rfl ?_
       refine ol_r (r_assign rfl) rfl ?_
       refine ol_nil (to_k0 (fun _ _ h => h) (hK9 _ _ _ _ _ ?_))
       clear hK9
       refine wp_condD rfl (fun hc25 => ?_) (fun hc25 => ?_)
       ·refine wp_seq' fun K12 hK12 => ?_
        refine wp_reg ?_
        refine ol_r (r_assign rfl) rfl ?_
        refine ol_nil (to_k0 (fun _ _ h => h) (hK12 _ _ _ _ _ ?_))
        clear hK12
        refine hQ.ret (rvs1 (rv_t rfl)) (fun _ _ h => h) fun w hb hs hB hkd => ?_
        first
          | (exact ⟨by rw [chkA_3 (a := A.d) (show nameB A.name = true by simpa using hc10) (show inB A.sport 1 5 = true by simpa using hc15) (show inB A.start 0 86399999999 = true by simpa using hc20) (show 20000 < A.ss.length ∨ 200 < A.ls.length ∨ 20 < A.ts.length by omega)], hb⟩; done)
       ·refine wp_skip' (to_k0 (fun _ _ h => h) (hK2 _ _ _ _ _ ?_))
        clear hK2
        refine wp_seq' fun K13 hK13 => ?_
        refine wp_seq' fun K14 hK14 => ?_
        refine wp_reg ?_
        have hH : headA A.d := ⟨show nameB A.name = true by simpa using hc10, show inB A.sport 1 5 = true by simpa using hc15, show inB A.start 0 86399999999 = true by simpa using hc20, by show A.ss.length ≤ 20000; simp_all; omega, by show A.ls.length ≤ 200; simp_all; omega, by show A.ts.length ≤ 20; simp_all; omega⟩
        have hst := inB_iff.1 hH.2.2.1
        simp only [ActV.d] at hst
        refine ol_r (r_fa (o' := 3) rfl fl39_3 rfl) rfl ?_
        refine ol_r (r_ld (id := 1) rfl rfl rfl sc35) rfl ?_
        refine ol_r (r_len rfl sl35) rfl ?_
        refine ol_r (r_move rfl) rfl ?_
        refine ol_nil (to_k0 (fun _ _ h => h) (hK14 _ _ _ _ _ ?_))
        clear hK14
        refine wp_block' ?_
        apply wp_loopM (σ := Nat) (fun s => s ≤ A.sn ∧ chkE (fS A.start) none A.ss = chkE (fS A.start) (ahead A.ss s) (A.ss.drop s) ∧ (∀ j y, j < s → A.ss[j]? = some y → 0 ≤ y.at_)) (fun s => [(45, .int .i64 s)]) [(1, _), (43, _), (44, _)] (fun s => []) [(1, _)] (fun s => A.sn - s) (0)
        ·try dsimp only
         exact ⟨Nat.zero_le _, chkE_start _ _, fun j y h => by omega⟩
        ·exact (sub_cons rfl sub_nil)
        ·exact (sub_cons rfl (sub_cons rfl (sub_cons rfl sub_nil)))
        ·exact subH_nil
        ·exact (subH_same rfl subH_nil)
        ·rintro k ⟨hk, hP, hpos⟩
         intro K15 hK15
         refine wp_seq' fun K16 hK16 => ?_
         refine wp_reg ?_
         refine ol_r (r_lss rfl rfl) rfl ?_
         refine ol_nil (to_k0 (fun _ _ h => h) (hK16 _ _ _ _ _ ?_))
         clear hK16
         refine wp_seq' fun K17 hK17 => ?_
         refine wp_condD rfl (fun hc46 => ?_) (fun hc46 => ?_)
         ·refine wp_skip' (to_k0 (fun _ _ h => h) (hK17 _ _ _ _ _ ?_))
          clear hK17
          refine wp_seq' fun K18 hK18 => ?_
          refine wp_block' ?_
          refine wp_seq' fun K19 hK19 => ?_
          refine wp_reg ?_
          refine ol_r (r_move rfl) rfl ?_
          refine ol_ixr hA.s rfl rfl sl35 (by omega) rfl fun x48 hx48 => ?_
          try simp only [Int.toNat_natCast] at hx48
          refine ol_r (r_ldw rfl (fun w1 hb1 hs1 hB1 => Rd.loads hA.s ty51 hx48 hb1)) rfl ?_
          refine ol_alloc 4 z51 rfl fun b4 => ?_
          refine ol_r (r_assign rfl) rfl ?_
          refine ol_store (id := 4) rfl rfl rfl rfl sz51 rfl rfl (by first | decide | exact Nat.zero_lt_succ _ | simp) ?_
          refine ol_nil (to_k0 (fun _ _ h => h) (hK19 _ _ _ _ _ ?_))
          clear hK19
          refine wp_block' ?_
          refine wp_seq' fun K20 hK20 => ?_
          refine wp_seq' fun K21 hK21 => ?_
          refine wp_reg ?_
          refine ol_r (r_move rfl) rfl ?_
          refine ol_r (r_eql rfl rfl) rfl ?_
          refine ol_r (r_move rfl) rfl ?_
          refine ol_split (d := 53) rfl (fun hs53 => ?_) (fun hs53 => ?_)
          ·have phs53 := hs53; try simp only [decide_eq_true_eq, decide_eq_false_iff_not, Bool.not_eq_true', Bool.not_eq_false', Bool.not_true, Bool.not_false] at phs53
           refine ol_g rfl rfl hs53 ?_
           refine ol_r (r_fa (o' := 0) rfl fl51_0 rfl) rfl ?_
           refine ol_g rfl rfl hs53 ?_
           refine ol_r (r_ld (id := 4) rfl rfl rfl sc3) rfl ?_
           refine ol_g rfl rfl hs53 ?_
           refine ol_r (r_neq rfl rfl) rfl ?_
           refine ol_r (r_pickT rfl hs53 rfl) rfl ?_
           refine ol_r (r_assign rfl) rfl ?_
           refine ol_nil (to_k0 (fun _ _ h => h) (hK21 _ _ _ _ _ ?_))
           clear hK21
           refine wp_condD rfl (fun hc50 => ?_) (fun hc50 => ?_)
           ·refine wp_skip' (to_k0 (fun _ _ h => h) (hK20 _ _ _ _ _ ?_))
            clear hK20
            refine wp_condD rfl (fun hc50 => ?_) (fun hc50 => ?_)
            ·refine wp_seq' fun K22 hK22 => ?_
             refine wp_reg ?_
             refine ol_r (r_assign rfl) rfl ?_
             refine ol_nil (to_k0 (fun _ _ h => h) (hK22 _ _ _ _ _ ?_))
             clear hK22
             refine hQ.ret (rvs1 (rv_t rfl)) (fun _ _ h => h) fun w hb hs hB hkd => ?_
             first
               | (have ho : ordS (ahead A.ss k) x48 = true := by
                    first
                      | (rw [ordS_0 (by omega), decide_eq_true (by omega)]; done)
                      | (rw [ordS_1 (by omega) hx67, decide_eq_true (by omega)]; done)
                  have h := chkE_bad hP hx48 (fS_10 ho) (by simp)
                  exact ⟨by rw [(chkA_s hH (by show chkE (fS A.start) none A.ss ≠ 0; rw [h]; simp)).trans h], hb⟩)
            ·refine wp_seq' fun K23 hK23 => ?_
             refine wp_reg ?_
             refine ol_r (r_fa (o' := 0) rfl fl51_0 rfl) rfl ?_
             refine ol_r (r_ld (id := 4) rfl rfl rfl sc3) rfl ?_
             refine ol_r (r_gtr rfl rfl) rfl ?_
             refine ol_r (r_move rfl) rfl ?_
             refine ol_split (d := 76) rfl (fun hs76 => ?_) (fun hs76 => ?_)
             ·have phs76 := hs76; try simp only [decide_eq_true_eq, decide_eq_false_iff_not, Bool.not_eq_true', Bool.not_eq_false', Bool.not_true, Bool.not_false] at phs76
              refine ol_s rfl rfl hs76 rfl ?_
              refine ol_s rfl rfl hs76 rfl ?_
              refine ol_s rfl rfl hs76 rfl ?_
              refine ol_s rfl rfl hs76 rfl ?_
              refine ol_s rfl rfl hs76 rfl ?_
              refine ol_s rfl rfl hs76 rfl ?_
              refine ol_r (r_pickT rfl hs76 rfl) rfl ?_
              refine ol_r (r_move rfl) rfl ?_
              refine ol_s rfl rfl rfl rfl ?_
              refine ol_s rfl rfl rfl rfl ?_
              refine ol_s rfl rfl rfl rfl ?_
              refine ol_r (r_pickT rfl rfl rfl) rfl ?_
              refine ol_r (r_assign rfl) rfl ?_
              refine ol_nil (to_k0 (fun _ _ h => h) (hK23 _ _ _ _ _ ?_))
              clear hK23
              refine wp_condT rfl ?_
              refine wp_seq' fun K24 hK24 => ?_
              refine wp_reg ?_
              refine ol_r (r_assign rfl) rfl ?_
              refine ol_nil (to_k0 (fun _ _ h => h) (hK24 _ _ _ _ _ ?_))
              clear hK24
              refine hQ.ret (rvs1 (rv_t rfl)) (fun _ _ h => h) fun w hb hs hB hkd => ?_
              first
                | (exfalso; omega)
             ·have phs76 := hs76; try simp only [decide_eq_true_eq, decide_eq_false_iff_not, Bool.not_eq_true', Bool.not_eq_false', Bool.not_true, Bool.not_false] at phs76
              refine ol_g rfl rfl hs76 ?_
              refine ol_r (r_fa (o' := 2) rfl fl39_2 rfl) rfl ?_
              refine ol_g rfl rfl hs76 ?_
              refine ol_r (r_ld (id := 1) rfl rfl rfl sc3) rfl ?_
              refine ol_g rfl rfl hs76 ?_
              refine ol_r (r_fa (o' := 0) rfl fl51_0 rfl) rfl ?_
              refine ol_g rfl rfl hs76 ?_
              refine ol_r (r_ld (id := 4) rfl rfl rfl sc3) rfl ?_
              refine ol_g rfl rfl hs76 ?_
              have hlo := hA.lo _ (List.mem_of_getElem? hx48)
              have hat : 0 ≤ x48.at_ := by
                first
                  | (have h1 := hpos _ _ (by omega) hx67
                     omega)
                  | omega
              refine ol_r (r_add rfl rfl (by omega)) rfl ?_
              refine ol_g rfl rfl hs76 ?_
              refine ol_r (r_gtr rfl rfl) rfl ?_
              refine ol_r (r_pickF rfl hs76 rfl) rfl ?_
              refine ol_r (r_move rfl) rfl ?_
              refine ol_split (d := 84) rfl (fun hs84 => ?_) (fun hs84 => ?_)
              ·have phs84 := hs84; try simp only [decide_eq_true_eq, decide_eq_false_iff_not, Bool.not_eq_true', Bool.not_eq_false', Bool.not_true, Bool.not_false] at phs84
               refine ol_s rfl rfl hs84 rfl ?_
               refine ol_s rfl rfl hs84 rfl ?_
               refine ol_s rfl rfl hs84 rfl ?_
               refine ol_r (r_pickT rfl hs84 rfl) rfl ?_
               refine ol_r (r_assign rfl) rfl ?_
               refine ol_nil (to_k0 (fun _ _ h => h) (hK23 _ _ _ _ _ ?_))
               clear hK23
               refine wp_condT rfl ?_
               refine wp_seq' fun K25 hK25 => ?_
               refine wp_reg ?_
               refine ol_r (r_assign rfl) rfl ?_
               refine ol_nil (to_k0 (fun _ _ h => h) (hK25 _ _ _ _ _ ?_))
               clear hK25
               refine hQ.ret (rvs1 (rv_t rfl)) (fun _ _ h => h) fun w hb hs hB hkd => ?_
               first
                 | (exfalso; omega)
              ·have phs84 := hs84; try simp only [decide_eq_true_eq, decide_eq_false_iff_not, Bool.not_eq_true', Bool.not_eq_false', Bool.not_true, Bool.not_false] at phs84
               refine ol_g rfl rfl hs84 ?_
               refine ol_r (r_lda (id := 4) (n := 7) rfl rfl rfl ag51) rfl ?_
               refine ol_g rfl rfl hs84 ?_
               refine ol_call rfl rfl cb84 rfl (fun w1 hb1 hs1 hB1 => Calls.mono (record_inRange x48 _) ?_)
               rintro e w2 ⟨rfl, hb2⟩
               refine After.below rfl hb1 hs1 hB1 hb2 ?_
               clear hb2 hB1 hs1 hb1 w2 w1
               refine ol_g rfl rfl hs84 ?_
               refine ol_r (r_not rfl) rfl ?_
               refine ol_r (r_pickF rfl hs84 rfl) rfl ?_
               refine ol_r (r_assign rfl) rfl ?_
               refine ol_nil (to_k0 (fun _ _ h => h) (hK23 _ _ _ _ _ ?_))
               clear hK23
               refine wp_condNB rfl (fun hc72 => ?_) (fun hc72 => ?_)
               ·refine wp_seq' fun K26 hK26 => ?_
                refine wp_reg ?_
                refine ol_r (r_assign rfl) rfl ?_
                refine ol_nil (to_k0 (fun _ _ h => h) (hK26 _ _ _ _ _ ?_))
                clear hK26
                refine hQ.ret (rvs1 (rv_t rfl)) (fun _ _ h => h) fun w hb hs hB hkd => ?_
                first
                  | (exfalso; omega)
               ·refine wp_skip' (to_k0 (fun _ _ h => h) (hK18 _ _ _ _ _ ?_))
                clear hK18
                refine wp_reg ?_
                refine ol_r (r_add rfl rfl (by omega)) rfl ?_
                refine ol_r (r_move rfl) rfl ?_
                refine ol_nil (to_k0 (fun _ _ h => h) (hK15 (k + 1) _ _ ?_ ?_ (sub_cons rfl sub_nil) (sub_cons rfl (sub_cons rfl (sub_cons rfl sub_nil))) (by exact subH_nil) (subH_same rfl subH_nil)))
                ·try dsimp only
                 first
                   | (exfalso; omega)
                ·try dsimp only
                 omega
           ·refine wp_regq (by kernel_rfl) (by kernel_rfl) ?_
            refine ql_r (r_move rfl) rfl ?_
            refine ql_r (r_gtr rfl rfl) rfl ?_
            refine ql_r (r_move rfl) rfl ?_
            refine ql_split (d := 60) rfl (fun hs60 => ?_) (fun hs60 => ?_)
            ·have phs60 := hs60; try simp only [decide_eq_true_eq, decide_eq_false_iff_not, Bool.not_eq_true', Bool.not_eq_false', Bool.not_true, Bool.not_false] at phs60
             refine ql_g rfl rfl hs60 ?_
             refine ql_r (r_fa (o' := 0) rfl fl51_0 rfl) rfl ?_
             refine ql_g rfl rfl hs60 ?_
             refine ql_r (r_ld (id := 4) rfl rfl rfl sc3) rfl ?_
             refine ql_g rfl rfl hs60 ?_
             refine ql_r (r_fa (o' := 3) rfl fl39_3 rfl) rfl ?_
             refine ql_g rfl rfl hs60 ?_
             refine ql_r (r_ld (id := 1) rfl rfl rfl sc35) rfl ?_
             refine ql_g rfl rfl hs60 ?_
             refine ql_r (r_move rfl) rfl ?_
             refine ql_g rfl rfl hs60 ?_
             refine ql_r (r_sub rfl rfl (by omega)) rfl ?_
             refine ql_g rfl rfl hs60 ?_
             refine ql_ixr hA.s rfl rfl sl35 (by omega) rfl fun x67 hx67 => ?_
             try simp only [Int.toNat_natCast] at hx67
             refine ql_g rfl rfl hs60 ?_
             refine ql_r (r_faw rfl (ix_some hA.s (by omega)) fl51_0) rfl ?_
             refine ql_g rfl rfl hs60 ?_
             refine ql_r (r_ldw rfl (fun w1 hb1 hs1 hB1 => Rd.loadsF (o := 0) hA.s sc3 hx67 hb1 rfl)) rfl ?_
             refine ql_g rfl rfl hs60 ?_
             refine ql_r (r_leq rfl rfl) rfl ?_
             refine ql_r (r_pickT rfl hs60 rfl) rfl ?_
             refine ql_r (r_assign rfl) rfl ?_
             refine ql_nil (to_k0 (fun _ _ h => h) (hK20 _ _ _ _ _ ?_))
             clear hK20
             refine wp_condD rfl (fun hc50 => ?_) (fun hc50 => ?_)
             ·refine wp_seq' fun K27 hK27 => ?_
              refine wp_reg ?_
              refine ol_r (r_assign rfl) rfl ?_
              refine ol_nil (to_k0 (fun _ _ h => h) (hK27 _ _ _ _ _ ?_))
              clear hK27
              refine hQ.ret (rvs1 (rv_t rfl)) (fun _ _ h => h) fun w hb hs hB hkd => ?_
              first
                | (exfalso; omega)
             ·refine wp_seq' fun K28 hK28 => ?_
              refine wp_reg ?_
              refine ol_r (r_fa (o' := 0) rfl fl51_0 rfl) rfl ?_
              refine ol_r (r_ld (id := 4) rfl rfl rfl sc3) rfl ?_
              refine ol_r (r_gtr rfl rfl) rfl ?_
              refine ol_r (r_move rfl) rfl ?_
              refine ol_split (d := 76) rfl (fun hs76 => ?_) (fun hs76 => ?_)
              ·have phs76 := hs76; try simp only [decide_eq_true_eq, decide_eq_false_iff_not, Bool.not_eq_true', Bool.not_eq_false', Bool.not_true, Bool.not_false] at phs76
               refine ol_s rfl rfl hs76 rfl ?_
               refine ol_s rfl rfl hs76 rfl ?_
               refine ol_s rfl rfl hs76 rfl ?_
               refine ol_s rfl rfl hs76 rfl ?_
               refine ol_s rfl rfl hs76 rfl ?_
               refine ol_s rfl rfl hs76 rfl ?_
               refine ol_r (r_pickT rfl hs76 rfl) rfl ?_
               refine ol_r (r_move rfl) rfl ?_
               refine ol_s rfl rfl rfl rfl ?_
               refine ol_s rfl rfl rfl rfl ?_
               refine ol_s rfl rfl rfl rfl ?_
               refine ol_r (r_pickT rfl rfl rfl) rfl ?_
               refine ol_r (r_assign rfl) rfl ?_
               refine ol_nil (to_k0 (fun _ _ h => h) (hK28 _ _ _ _ _ ?_))
               clear hK28
               refine wp_condT rfl ?_
               refine wp_seq' fun K29 hK29 => ?_
               refine wp_reg ?_
               refine ol_r (r_assign rfl) rfl ?_
               refine ol_nil (to_k0 (fun _ _ h => h) (hK29 _ _ _ _ _ ?_))
               clear hK29
               refine hQ.ret (rvs1 (rv_t rfl)) (fun _ _ h => h) fun w hb hs hB hkd => ?_
               first
                 | (exfalso; omega)
              ·have phs76 := hs76; try simp only [decide_eq_true_eq, decide_eq_false_iff_not, Bool.not_eq_true', Bool.not_eq_false', Bool.not_true, Bool.not_false] at phs76
               refine ol_g rfl rfl hs76 ?_
               refine ol_r (r_fa (o' := 2) rfl fl39_2 rfl) rfl ?_
               refine ol_g rfl rfl hs76 ?_
               refine ol_r (r_ld (id := 1) rfl rfl rfl sc3) rfl ?_
               refine ol_g rfl rfl hs76 ?_
               refine ol_r (r_fa (o' := 0) rfl fl51_0 rfl) rfl ?_
               refine ol_g rfl rfl hs76 ?_
               refine ol_r (r_ld (id := 4) rfl rfl rfl sc3) rfl ?_
               refine ol_g rfl rfl hs76 ?_
               have hlo := hA.lo _ (List.mem_of_getElem? hx48)
               have hat : 0 ≤ x48.at_ := by
                 first
                   | (have h1 := hpos _ _ (by omega) hx67
                      omega)
                   | omega
               refine ol_r (r_add rfl rfl (by omega)) rfl ?_
               refine ol_g rfl rfl hs76 ?_
               refine ol_r (r_gtr rfl rfl) rfl ?_
               refine ol_r (r_pickF rfl hs76 rfl) rfl ?_
               refine ol_r (r_move rfl) rfl ?_
               refine ol_split (d := 84) rfl (fun hs84 => ?_) (fun hs84 => ?_)
               ·have phs84 := hs84; try simp only [decide_eq_true_eq, decide_eq_false_iff_not, Bool.not_eq_true', Bool.not_eq_false', Bool.not_true, Bool.not_false] at phs84
                refine ol_s rfl rfl hs84 rfl ?_
                refine ol_s rfl rfl hs84 rfl ?_
                refine ol_s rfl rfl hs84 rfl ?_
                refine ol_r (r_pickT rfl hs84 rfl) rfl ?_
                refine ol_r (r_assign rfl) rfl ?_
                refine ol_nil (to_k0 (fun _ _ h => h) (hK28 _ _ _ _ _ ?_))
                clear hK28
                refine wp_condT rfl ?_
                refine wp_seq' fun K30 hK30 => ?_
                refine wp_reg ?_
                refine ol_r (r_assign rfl) rfl ?_
                refine ol_nil (to_k0 (fun _ _ h => h) (hK30 _ _ _ _ _ ?_))
                clear hK30
                refine hQ.ret (rvs1 (rv_t rfl)) (fun _ _ h => h) fun w hb hs hB hkd => ?_
                first
                  | (exfalso; omega)
               ·have phs84 := hs84; try simp only [decide_eq_true_eq, decide_eq_false_iff_not, Bool.not_eq_true', Bool.not_eq_false', Bool.not_true, Bool.not_false] at phs84
                refine ol_g rfl rfl hs84 ?_
                refine ol_r (r_lda (id := 4) (n := 7) rfl rfl rfl ag51) rfl ?_
                refine ol_g rfl rfl hs84 ?_
                refine ol_call rfl rfl cb84 rfl (fun w1 hb1 hs1 hB1 => Calls.mono (record_inRange x48 _) ?_)
                rintro e w2 ⟨rfl, hb2⟩
                refine After.below rfl hb1 hs1 hB1 hb2 ?_
                clear hb2 hB1 hs1 hb1 w2 w1
                refine ol_g rfl rfl hs84 ?_
                refine ol_r (r_not rfl) rfl ?_
                refine ol_r (r_pickF rfl hs84 rfl) rfl ?_
                refine ol_r (r_assign rfl) rfl ?_
                refine ol_nil (to_k0 (fun _ _ h => h) (hK28 _ _ _ _ _ ?_))
                clear hK28
                refine wp_condNB rfl (fun hc72 => ?_) (fun hc72 => ?_)
                ·refine wp_seq' fun K31 hK31 => ?_
                 refine wp_reg ?_
                 refine ol_r (r_assign rfl) rfl ?_
                 refine ol_nil (to_k0 (fun _ _ h => h) (hK31 _ _ _ _ _ ?_))
                 clear hK31
                 refine hQ.ret (rvs1 (rv_t rfl)) (fun _ _ h => h) fun w hb hs hB hkd => ?_
                 first
                   | (exfalso; omega)
                ·refine wp_skip' (to_k0 (fun _ _ h => h) (hK18 _ _ _ _ _ ?_))
                 clear hK18
                 refine wp_reg ?_
                 refine ol_r (r_add rfl rfl (by omega)) rfl ?_
                 refine ol_r (r_move rfl) rfl ?_
                 refine ol_nil (to_k0 (fun _ _ h => h) (hK15 (k + 1) _ _ ?_ ?_ (sub_cons rfl sub_nil) (sub_cons rfl (sub_cons rfl (sub_cons rfl sub_nil))) (by exact subH_nil) (subH_same rfl subH_nil)))
                 ·try dsimp only
                  first
                    | (exfalso; omega)
                 ·try dsimp only
                  omega
            ·have phs60 := hs60; try simp only [decide_eq_true_eq, decide_eq_false_iff_not, Bool.not_eq_true', Bool.not_eq_false', Bool.not_true, Bool.not_false] at phs60
             refine ql_s rfl rfl hs60 rfl ?_
             refine ql_s rfl rfl hs60 rfl ?_
             refine ql_s rfl rfl hs60 rfl ?_
             refine ql_s rfl rfl hs60 rfl ?_
             refine ql_s rfl rfl hs60 rfl ?_
             refine ql_s rfl rfl hs60 rfl ?_
             refine ql_s rfl rfl hs60 rfl ?_
             refine ql_s rfl rfl hs60 rfl ?_
             refine ql_s rfl rfl hs60 rfl ?_
             refine ql_s rfl rfl hs60 rfl ?_
             refine ql_r (r_pickF rfl hs60 rfl) rfl ?_
             refine ql_r (r_assign rfl) rfl ?_
             refine ql_nil (to_k0 (fun _ _ h => h) (hK20 _ _ _ _ _ ?_))
             clear hK20
             refine wp_condF rfl ?_
             refine wp_seq' fun K32 hK32 => ?_
             refine wp_reg ?_
             refine ol_r (r_fa (o' := 0) rfl fl51_0 rfl) rfl ?_
             refine ol_r (r_ld (id := 4) rfl rfl rfl sc3) rfl ?_
             refine ol_r (r_gtr rfl rfl) rfl ?_
             refine ol_r (r_move rfl) rfl ?_
             refine ol_split (d := 76) rfl (fun hs76 => ?_) (fun hs76 => ?_)
             ·have phs76 := hs76; try simp only [decide_eq_true_eq, decide_eq_false_iff_not, Bool.not_eq_true', Bool.not_eq_false', Bool.not_true, Bool.not_false] at phs76
              refine ol_s rfl rfl hs76 rfl ?_
              refine ol_s rfl rfl hs76 rfl ?_
              refine ol_s rfl rfl hs76 rfl ?_
              refine ol_s rfl rfl hs76 rfl ?_
              refine ol_s rfl rfl hs76 rfl ?_
              refine ol_s rfl rfl hs76 rfl ?_
              refine ol_r (r_pickT rfl hs76 rfl) rfl ?_
              refine ol_r (r_move rfl) rfl ?_
              refine ol_s rfl rfl rfl rfl ?_
              refine ol_s rfl rfl rfl rfl ?_
              refine ol_s rfl rfl rfl rfl ?_
              refine ol_r (r_pickT rfl rfl rfl) rfl ?_
              refine ol_r (r_assign rfl) rfl ?_
              refine ol_nil (to_k0 (fun _ _ h => h) (hK32 _ _ _ _ _ ?_))
              clear hK32
              refine wp_condT rfl ?_
              refine wp_seq' fun K33 hK33 => ?_
              refine wp_reg ?_
              refine ol_r (r_assign rfl) rfl ?_
              refine ol_nil (to_k0 (fun _ _ h => h) (hK33 _ _ _ _ _ ?_))
              clear hK33
              refine hQ.ret (rvs1 (rv_t rfl)) (fun _ _ h => h) fun w hb hs hB hkd => ?_
              first
                | (exfalso; omega)
             ·have phs76 := hs76; try simp only [decide_eq_true_eq, decide_eq_false_iff_not, Bool.not_eq_true', Bool.not_eq_false', Bool.not_true, Bool.not_false] at phs76
              refine ol_g rfl rfl hs76 ?_
              refine ol_r (r_fa (o' := 2) rfl fl39_2 rfl) rfl ?_
              refine ol_g rfl rfl hs76 ?_
              refine ol_r (r_ld (id := 1) rfl rfl rfl sc3) rfl ?_
              refine ol_g rfl rfl hs76 ?_
              refine ol_r (r_fa (o' := 0) rfl fl51_0 rfl) rfl ?_
              refine ol_g rfl rfl hs76 ?_
              refine ol_r (r_ld (id := 4) rfl rfl rfl sc3) rfl ?_
              refine ol_g rfl rfl hs76 ?_
              have hlo := hA.lo _ (List.mem_of_getElem? hx48)
              have hat : 0 ≤ x48.at_ := by
                first
                  | (have h1 := hpos _ _ (by omega) hx67
                     omega)
                  | omega
              refine ol_r (r_add rfl rfl (by omega)) rfl ?_
              refine ol_g rfl rfl hs76 ?_
              refine ol_r (r_gtr rfl rfl) rfl ?_
              refine ol_r (r_pickF rfl hs76 rfl) rfl ?_
              refine ol_r (r_move rfl) rfl ?_
              refine ol_split (d := 84) rfl (fun hs84 => ?_) (fun hs84 => ?_)
              ·have phs84 := hs84; try simp only [decide_eq_true_eq, decide_eq_false_iff_not, Bool.not_eq_true', Bool.not_eq_false', Bool.not_true, Bool.not_false] at phs84
               refine ol_s rfl rfl hs84 rfl ?_
               refine ol_s rfl rfl hs84 rfl ?_
               refine ol_s rfl rfl hs84 rfl ?_
               refine ol_r (r_pickT rfl hs84 rfl) rfl ?_
               refine ol_r (r_assign rfl) rfl ?_
               refine ol_nil (to_k0 (fun _ _ h => h) (hK32 _ _ _ _ _ ?_))
               clear hK32
               refine wp_condT rfl ?_
               refine wp_seq' fun K34 hK34 => ?_
               refine wp_reg ?_
               refine ol_r (r_assign rfl) rfl ?_
               refine ol_nil (to_k0 (fun _ _ h => h) (hK34 _ _ _ _ _ ?_))
               clear hK34
               refine hQ.ret (rvs1 (rv_t rfl)) (fun _ _ h => h) fun w hb hs hB hkd => ?_
               first
                 | (exfalso; omega)
              ·have phs84 := hs84; try simp only [decide_eq_true_eq, decide_eq_false_iff_not, Bool.not_eq_true', Bool.not_eq_false', Bool.not_true, Bool.not_false] at phs84
               refine ol_g rfl rfl hs84 ?_
               refine ol_r (r_lda (id := 4) (n := 7) rfl rfl rfl ag51) rfl ?_
               refine ol_g rfl rfl hs84 ?_
               refine ol_call rfl rfl cb84 rfl (fun w1 hb1 hs1 hB1 => Calls.mono (record_inRange x48 _) ?_)
               rintro e w2 ⟨rfl, hb2⟩
               refine After.below rfl hb1 hs1 hB1 hb2 ?_
               clear hb2 hB1 hs1 hb1 w2 w1
               refine ol_g rfl rfl hs84 ?_
               refine ol_r (r_not rfl) rfl ?_
               refine ol_r (r_pickF rfl hs84 rfl) rfl ?_
               refine ol_r (r_assign rfl) rfl ?_
               refine ol_nil (to_k0 (fun _ _ h => h) (hK32 _ _ _ _ _ ?_))
               clear hK32
               refine wp_condNB rfl (fun hc72 => ?_) (fun hc72 => ?_)
               ·refine wp_seq' fun K35 hK35 => ?_
                refine wp_reg ?_
                refine ol_r (r_assign rfl) rfl ?_
                refine ol_nil (to_k0 (fun _ _ h => h) (hK35 _ _ _ _ _ ?_))
                clear hK35
                refine hQ.ret (rvs1 (rv_t rfl)) (fun _ _ h => h) fun w hb hs hB hkd => ?_
                first
                  | (have ho : ordS (ahead A.ss k) x48 = false := by
                       first
                         | (rw [ordS_0 (by omega), decide_eq_false (by omega)]; done)
                         | (rw [ordS_1 (by omega) hx67, decide_eq_false (by omega)]; done)
                     have h := chkE_bad hP hx48 (fS_9 (st := A.start) ho (by first | (left; omega) | (right; left; omega) | (right; right; simpa using hc72))) (by simp)
                     exact ⟨by rw [(chkA_s hH (by show chkE (fS A.start) none A.ss ≠ 0; rw [h]; simp)).trans h], hb⟩)
               ·refine wp_skip' (to_k0 (fun _ _ h => h) (hK18 _ _ _ _ _ ?_))
                clear hK18
                refine wp_reg ?_
                refine ol_r (r_add rfl rfl (by omega)) rfl ?_
                refine ol_r (r_move rfl) rfl ?_
                refine ol_nil (to_k0 (fun _ _ h => h) (hK15 (k + 1) _ _ ?_ ?_ (sub_cons rfl sub_nil) (sub_cons rfl (sub_cons rfl (sub_cons rfl sub_nil))) (by exact subH_nil) (subH_same rfl subH_nil)))
                ·try dsimp only
                 first
                   | (have ho := ordS_0 (ss := A.ss) (k := k) (x := x48) (by omega)
                      rw [decide_eq_false (by omega)] at ho
                      exact ⟨by omega, chkE_next hP hx48 (fS_is ho (by omega) (by omega) (by simpa using hc72)), pos_next hpos hx48 (by omega)⟩)
                ·try dsimp only
                 omega
          ·have phs53 := hs53; try simp only [decide_eq_true_eq, decide_eq_false_iff_not, Bool.not_eq_true', Bool.not_eq_false', Bool.not_true, Bool.not_false] at phs53
           refine ol_s rfl rfl hs53 rfl ?_
           refine ol_s rfl rfl hs53 rfl ?_
           refine ol_s rfl rfl hs53 rfl ?_
           refine ol_r (r_pickF rfl hs53 rfl) rfl ?_
           refine ol_r (r_assign rfl) rfl ?_
           refine ol_nil (to_k0 (fun _ _ h => h) (hK21 _ _ _ _ _ ?_))
           clear hK21
           refine wp_condF rfl ?_
           refine wp_regq (by kernel_rfl) (by kernel_rfl) ?_
           refine ql_r (r_move rfl) rfl ?_
           refine ql_r (r_gtr rfl rfl) rfl ?_
           refine ql_r (r_move rfl) rfl ?_
           refine ql_split (d := 60) rfl (fun hs60 => ?_) (fun hs60 => ?_)
           ·have phs60 := hs60; try simp only [decide_eq_true_eq, decide_eq_false_iff_not, Bool.not_eq_true', Bool.not_eq_false', Bool.not_true, Bool.not_false] at phs60
            refine ql_g rfl rfl hs60 ?_
            refine ql_r (r_fa (o' := 0) rfl fl51_0 rfl) rfl ?_
            refine ql_g rfl rfl hs60 ?_
            refine ql_r (r_ld (id := 4) rfl rfl rfl sc3) rfl ?_
            refine ql_g rfl rfl hs60 ?_
            refine ql_r (r_fa (o' := 3) rfl fl39_3 rfl) rfl ?_
            refine ql_g rfl rfl hs60 ?_
            refine ql_r (r_ld (id := 1) rfl rfl rfl sc35) rfl ?_
            refine ql_g rfl rfl hs60 ?_
            refine ql_r (r_move rfl) rfl ?_
            refine ql_g rfl rfl hs60 ?_
            refine ql_r (r_sub rfl rfl (by omega)) rfl ?_
            refine ql_g rfl rfl hs60 ?_
            refine ql_ixr hA.s rfl rfl sl35 (by omega) rfl fun x67 hx67 => ?_
            try simp only [Int.toNat_natCast] at hx67
            refine ql_g rfl rfl hs60 ?_
            refine ql_r (r_faw rfl (ix_some hA.s (by omega)) fl51_0) rfl ?_
            refine ql_g rfl rfl hs60 ?_
            refine ql_r (r_ldw rfl (fun w1 hb1 hs1 hB1 => Rd.loadsF (o := 0) hA.s sc3 hx67 hb1 rfl)) rfl ?_
            refine ql_g rfl rfl hs60 ?_
            refine ql_r (r_leq rfl rfl) rfl ?_
            refine ql_r (r_pickT rfl hs60 rfl) rfl ?_
            refine ql_r (r_assign rfl) rfl ?_
            refine ql_nil (to_k0 (fun _ _ h => h) (hK20 _ _ _ _ _ ?_))
            clear hK20
            refine wp_condD rfl (fun hc50 => ?_) (fun hc50 => ?_)
            ·refine wp_seq' fun K36 hK36 => ?_
             refine wp_reg ?_
             refine ol_r (r_assign rfl) rfl ?_
             refine ol_nil (to_k0 (fun _ _ h => h) (hK36 _ _ _ _ _ ?_))
             clear hK36
             refine hQ.ret (rvs1 (rv_t rfl)) (fun _ _ h => h) fun w hb hs hB hkd => ?_
             first
               | (have ho : ordS (ahead A.ss k) x48 = true := by
                    first
                      | (rw [ordS_0 (by omega), decide_eq_true (by omega)]; done)
                      | (rw [ordS_1 (by omega) hx67, decide_eq_true (by omega)]; done)
                  have h := chkE_bad hP hx48 (fS_10 ho) (by simp)
                  exact ⟨by rw [(chkA_s hH (by show chkE (fS A.start) none A.ss ≠ 0; rw [h]; simp)).trans h], hb⟩)
            ·refine wp_seq' fun K37 hK37 => ?_
             refine wp_reg ?_
             refine ol_r (r_fa (o' := 0) rfl fl51_0 rfl) rfl ?_
             refine ol_r (r_ld (id := 4) rfl rfl rfl sc3) rfl ?_
             refine ol_r (r_gtr rfl rfl) rfl ?_
             refine ol_r (r_move rfl) rfl ?_
             refine ol_split (d := 76) rfl (fun hs76 => ?_) (fun hs76 => ?_)
             ·have phs76 := hs76; try simp only [decide_eq_true_eq, decide_eq_false_iff_not, Bool.not_eq_true', Bool.not_eq_false', Bool.not_true, Bool.not_false] at phs76
              refine ol_s rfl rfl hs76 rfl ?_
              refine ol_s rfl rfl hs76 rfl ?_
              refine ol_s rfl rfl hs76 rfl ?_
              refine ol_s rfl rfl hs76 rfl ?_
              refine ol_s rfl rfl hs76 rfl ?_
              refine ol_s rfl rfl hs76 rfl ?_
              refine ol_r (r_pickT rfl hs76 rfl) rfl ?_
              refine ol_r (r_move rfl) rfl ?_
              refine ol_s rfl rfl rfl rfl ?_
              refine ol_s rfl rfl rfl rfl ?_
              refine ol_s rfl rfl rfl rfl ?_
              refine ol_r (r_pickT rfl rfl rfl) rfl ?_
              refine ol_r (r_assign rfl) rfl ?_
              refine ol_nil (to_k0 (fun _ _ h => h) (hK37 _ _ _ _ _ ?_))
              clear hK37
              refine wp_condT rfl ?_
              refine wp_seq' fun K38 hK38 => ?_
              refine wp_reg ?_
              refine ol_r (r_assign rfl) rfl ?_
              refine ol_nil (to_k0 (fun _ _ h => h) (hK38 _ _ _ _ _ ?_))
              clear hK38
              refine hQ.ret (rvs1 (rv_t rfl)) (fun _ _ h => h) fun w hb hs hB hkd => ?_
              first
                | (have ho : ordS (ahead A.ss k) x48 = false := by
                     first
                       | (rw [ordS_0 (by omega), decide_eq_false (by omega)]; done)
                       | (rw [ordS_1 (by omega) hx67, decide_eq_false (by omega)]; done)
                   have h := chkE_bad hP hx48 (fS_9 (st := A.start) ho (by first | (left; omega) | (right; left; omega) | (right; right; simpa using hc72))) (by simp)
                   exact ⟨by rw [(chkA_s hH (by show chkE (fS A.start) none A.ss ≠ 0; rw [h]; simp)).trans h], hb⟩)
             ·have phs76 := hs76; try simp only [decide_eq_true_eq, decide_eq_false_iff_not, Bool.not_eq_true', Bool.not_eq_false', Bool.not_true, Bool.not_false] at phs76
              refine ol_g rfl rfl hs76 ?_
              refine ol_r (r_fa (o' := 2) rfl fl39_2 rfl) rfl ?_
              refine ol_g rfl rfl hs76 ?_
              refine ol_r (r_ld (id := 1) rfl rfl rfl sc3) rfl ?_
              refine ol_g rfl rfl hs76 ?_
              refine ol_r (r_fa (o' := 0) rfl fl51_0 rfl) rfl ?_
              refine ol_g rfl rfl hs76 ?_
              refine ol_r (r_ld (id := 4) rfl rfl rfl sc3) rfl ?_
              refine ol_g rfl rfl hs76 ?_
              have hlo := hA.lo _ (List.mem_of_getElem? hx48)
              have hat : 0 ≤ x48.at_ := by
                first
                  | (have h1 := hpos _ _ (by omega) hx67
                     omega)
                  | omega
              refine ol_r (r_add rfl rfl (by omega)) rfl ?_
              refine ol_g rfl rfl hs76 ?_
              refine ol_r (r_gtr rfl rfl) rfl ?_
              refine ol_r (r_pickF rfl hs76 rfl) rfl ?_
              refine ol_r (r_move rfl) rfl ?_
              refine ol_split (d := 84) rfl (fun hs84 => ?_) (fun hs84 => ?_)
              ·have phs84 := hs84; try simp only [decide_eq_true_eq, decide_eq_false_iff_not, Bool.not_eq_true', Bool.not_eq_false', Bool.not_true, Bool.not_false] at phs84
               refine ol_s rfl rfl hs84 rfl ?_
               refine ol_s rfl rfl hs84 rfl ?_
               refine ol_s rfl rfl hs84 rfl ?_
               refine ol_r (r_pickT rfl hs84 rfl) rfl ?_
               refine ol_r (r_assign rfl) rfl ?_
               refine ol_nil (to_k0 (fun _ _ h => h) (hK37 _ _ _ _ _ ?_))
               clear hK37
               refine wp_condT rfl ?_
               refine wp_seq' fun K39 hK39 => ?_
               refine wp_reg ?_
               refine ol_r (r_assign rfl) rfl ?_
               refine ol_nil (to_k0 (fun _ _ h => h) (hK39 _ _ _ _ _ ?_))
               clear hK39
               refine hQ.ret (rvs1 (rv_t rfl)) (fun _ _ h => h) fun w hb hs hB hkd => ?_
               first
                 | (have ho : ordS (ahead A.ss k) x48 = false := by
                      first
                        | (rw [ordS_0 (by omega), decide_eq_false (by omega)]; done)
                        | (rw [ordS_1 (by omega) hx67, decide_eq_false (by omega)]; done)
                    have h := chkE_bad hP hx48 (fS_9 (st := A.start) ho (by first | (left; omega) | (right; left; omega) | (right; right; simpa using hc72))) (by simp)
                    exact ⟨by rw [(chkA_s hH (by show chkE (fS A.start) none A.ss ≠ 0; rw [h]; simp)).trans h], hb⟩)
              ·have phs84 := hs84; try simp only [decide_eq_true_eq, decide_eq_false_iff_not, Bool.not_eq_true', Bool.not_eq_false', Bool.not_true, Bool.not_false] at phs84
               refine ol_g rfl rfl hs84 ?_
               refine ol_r (r_lda (id := 4) (n := 7) rfl rfl rfl ag51) rfl ?_
               refine ol_g rfl rfl hs84 ?_
               refine ol_call rfl rfl cb84 rfl (fun w1 hb1 hs1 hB1 => Calls.mono (record_inRange x48 _) ?_)
               rintro e w2 ⟨rfl, hb2⟩
               refine After.below rfl hb1 hs1 hB1 hb2 ?_
               clear hb2 hB1 hs1 hb1 w2 w1
               refine ol_g rfl rfl hs84 ?_
               refine ol_r (r_not rfl) rfl ?_
               refine ol_r (r_pickF rfl hs84 rfl) rfl ?_
               refine ol_r (r_assign rfl) rfl ?_
               refine ol_nil (to_k0 (fun _ _ h => h) (hK37 _ _ _ _ _ ?_))
               clear hK37
               refine wp_condNB rfl (fun hc72 => ?_) (fun hc72 => ?_)
               ·refine wp_seq' fun K40 hK40 => ?_
                refine wp_reg ?_
                refine ol_r (r_assign rfl) rfl ?_
                refine ol_nil (to_k0 (fun _ _ h => h) (hK40 _ _ _ _ _ ?_))
                clear hK40
                refine hQ.ret (rvs1 (rv_t rfl)) (fun _ _ h => h) fun w hb hs hB hkd => ?_
                first
                  | (have ho : ordS (ahead A.ss k) x48 = false := by
                       first
                         | (rw [ordS_0 (by omega), decide_eq_false (by omega)]; done)
                         | (rw [ordS_1 (by omega) hx67, decide_eq_false (by omega)]; done)
                     have h := chkE_bad hP hx48 (fS_9 (st := A.start) ho (by first | (left; omega) | (right; left; omega) | (right; right; simpa using hc72))) (by simp)
                     exact ⟨by rw [(chkA_s hH (by show chkE (fS A.start) none A.ss ≠ 0; rw [h]; simp)).trans h], hb⟩)
               ·refine wp_skip' (to_k0 (fun _ _ h => h) (hK18 _ _ _ _ _ ?_))
                clear hK18
                refine wp_reg ?_
                refine ol_r (r_add rfl rfl (by omega)) rfl ?_
                refine ol_r (r_move rfl) rfl ?_
                refine ol_nil (to_k0 (fun _ _ h => h) (hK15 (k + 1) _ _ ?_ ?_ (sub_cons rfl sub_nil) (sub_cons rfl (sub_cons rfl (sub_cons rfl sub_nil))) (by exact subH_nil) (subH_same rfl subH_nil)))
                ·try dsimp only
                 first
                   | (have ho := ordS_1 (ss := A.ss) (k := k) (x := x48) (by omega) hx67
                      have hy := hpos _ _ (by omega) hx67
                      rw [decide_eq_false (by omega)] at ho
                      exact ⟨by omega, chkE_next hP hx48 (fS_is ho (by omega) (by omega) (by simpa using hc72)), pos_next hpos hx48 (by omega)⟩)
                ·try dsimp only
                 omega
           ·have phs60 := hs60; try simp only [decide_eq_true_eq, decide_eq_false_iff_not, Bool.not_eq_true', Bool.not_eq_false', Bool.not_true, Bool.not_false] at phs60
            refine ql_s rfl rfl hs60 rfl ?_
            refine ql_s rfl rfl hs60 rfl ?_
            refine ql_s rfl rfl hs60 rfl ?_
            refine ql_s rfl rfl hs60 rfl ?_
            refine ql_s rfl rfl hs60 rfl ?_
            refine ql_s rfl rfl hs60 rfl ?_
            refine ql_s rfl rfl hs60 rfl ?_
            refine ql_s rfl rfl hs60 rfl ?_
            refine ql_s rfl rfl hs60 rfl ?_
            refine ql_s rfl rfl hs60 rfl ?_
            refine ql_r (r_pickF rfl hs60 rfl) rfl ?_
            refine ql_r (r_assign rfl) rfl ?_
            refine ql_nil (to_k0 (fun _ _ h => h) (hK20 _ _ _ _ _ ?_))
            clear hK20
            refine wp_condF rfl ?_
            refine wp_seq' fun K41 hK41 => ?_
            refine wp_reg ?_
            refine ol_r (r_fa (o' := 0) rfl fl51_0 rfl) rfl ?_
            refine ol_r (r_ld (id := 4) rfl rfl rfl sc3) rfl ?_
            refine ol_r (r_gtr rfl rfl) rfl ?_
            refine ol_r (r_move rfl) rfl ?_
            refine ol_split (d := 76) rfl (fun hs76 => ?_) (fun hs76 => ?_)
            ·have phs76 := hs76; try simp only [decide_eq_true_eq, decide_eq_false_iff_not, Bool.not_eq_true', Bool.not_eq_false', Bool.not_true, Bool.not_false] at phs76
             refine ol_s rfl rfl hs76 rfl ?_
             refine ol_s rfl rfl hs76 rfl ?_
             refine ol_s rfl rfl hs76 rfl ?_
             refine ol_s rfl rfl hs76 rfl ?_
             refine ol_s rfl rfl hs76 rfl ?_
             refine ol_s rfl rfl hs76 rfl ?_
             refine ol_r (r_pickT rfl hs76 rfl) rfl ?_
             refine ol_r (r_move rfl) rfl ?_
             refine ol_s rfl rfl rfl rfl ?_
             refine ol_s rfl rfl rfl rfl ?_
             refine ol_s rfl rfl rfl rfl ?_
             refine ol_r (r_pickT rfl rfl rfl) rfl ?_
             refine ol_r (r_assign rfl) rfl ?_
             refine ol_nil (to_k0 (fun _ _ h => h) (hK41 _ _ _ _ _ ?_))
             clear hK41
             refine wp_condT rfl ?_
             refine wp_seq' fun K42 hK42 => ?_
             refine wp_reg ?_
             refine ol_r (r_assign rfl) rfl ?_
             refine ol_nil (to_k0 (fun _ _ h => h) (hK42 _ _ _ _ _ ?_))
             clear hK42
             refine hQ.ret (rvs1 (rv_t rfl)) (fun _ _ h => h) fun w hb hs hB hkd => ?_
             first
               | (exfalso; omega)
            ·have phs76 := hs76; try simp only [decide_eq_true_eq, decide_eq_false_iff_not, Bool.not_eq_true', Bool.not_eq_false', Bool.not_true, Bool.not_false] at phs76
             refine ol_g rfl rfl hs76 ?_
             refine ol_r (r_fa (o' := 2) rfl fl39_2 rfl) rfl ?_
             refine ol_g rfl rfl hs76 ?_
             refine ol_r (r_ld (id := 1) rfl rfl rfl sc3) rfl ?_
             refine ol_g rfl rfl hs76 ?_
             refine ol_r (r_fa (o' := 0) rfl fl51_0 rfl) rfl ?_
             refine ol_g rfl rfl hs76 ?_
             refine ol_r (r_ld (id := 4) rfl rfl rfl sc3) rfl ?_
             refine ol_g rfl rfl hs76 ?_
             have hlo := hA.lo _ (List.mem_of_getElem? hx48)
             have hat : 0 ≤ x48.at_ := by
               first
                 | (have h1 := hpos _ _ (by omega) hx67
                    omega)
                 | omega
             refine ol_r (r_add rfl rfl (by omega)) rfl ?_
             refine ol_g rfl rfl hs76 ?_
             refine ol_r (r_gtr rfl rfl) rfl ?_
             refine ol_r (r_pickF rfl hs76 rfl) rfl ?_
             refine ol_r (r_move rfl) rfl ?_
             refine ol_split (d := 84) rfl (fun hs84 => ?_) (fun hs84 => ?_)
             ·have phs84 := hs84; try simp only [decide_eq_true_eq, decide_eq_false_iff_not, Bool.not_eq_true', Bool.not_eq_false', Bool.not_true, Bool.not_false] at phs84
              refine ol_s rfl rfl hs84 rfl ?_
              refine ol_s rfl rfl hs84 rfl ?_
              refine ol_s rfl rfl hs84 rfl ?_
              refine ol_r (r_pickT rfl hs84 rfl) rfl ?_
              refine ol_r (r_assign rfl) rfl ?_
              refine ol_nil (to_k0 (fun _ _ h => h) (hK41 _ _ _ _ _ ?_))
              clear hK41
              refine wp_condT rfl ?_
              refine wp_seq' fun K43 hK43 => ?_
              refine wp_reg ?_
              refine ol_r (r_assign rfl) rfl ?_
              refine ol_nil (to_k0 (fun _ _ h => h) (hK43 _ _ _ _ _ ?_))
              clear hK43
              refine hQ.ret (rvs1 (rv_t rfl)) (fun _ _ h => h) fun w hb hs hB hkd => ?_
              first
                | (exfalso; omega)
             ·have phs84 := hs84; try simp only [decide_eq_true_eq, decide_eq_false_iff_not, Bool.not_eq_true', Bool.not_eq_false', Bool.not_true, Bool.not_false] at phs84
              refine ol_g rfl rfl hs84 ?_
              refine ol_r (r_lda (id := 4) (n := 7) rfl rfl rfl ag51) rfl ?_
              refine ol_g rfl rfl hs84 ?_
              refine ol_call rfl rfl cb84 rfl (fun w1 hb1 hs1 hB1 => Calls.mono (record_inRange x48 _) ?_)
              rintro e w2 ⟨rfl, hb2⟩
              refine After.below rfl hb1 hs1 hB1 hb2 ?_
              clear hb2 hB1 hs1 hb1 w2 w1
              refine ol_g rfl rfl hs84 ?_
              refine ol_r (r_not rfl) rfl ?_
              refine ol_r (r_pickF rfl hs84 rfl) rfl ?_
              refine ol_r (r_assign rfl) rfl ?_
              refine ol_nil (to_k0 (fun _ _ h => h) (hK41 _ _ _ _ _ ?_))
              clear hK41
              refine wp_condNB rfl (fun hc72 => ?_) (fun hc72 => ?_)
              ·refine wp_seq' fun K44 hK44 => ?_
               refine wp_reg ?_
               refine ol_r (r_assign rfl) rfl ?_
               refine ol_nil (to_k0 (fun _ _ h => h) (hK44 _ _ _ _ _ ?_))
               clear hK44
               refine hQ.ret (rvs1 (rv_t rfl)) (fun _ _ h => h) fun w hb hs hB hkd => ?_
               first
                 | (exfalso; omega)
              ·refine wp_skip' (to_k0 (fun _ _ h => h) (hK18 _ _ _ _ _ ?_))
               clear hK18
               refine wp_reg ?_
               refine ol_r (r_add rfl rfl (by omega)) rfl ?_
               refine ol_r (r_move rfl) rfl ?_
               refine ol_nil (to_k0 (fun _ _ h => h) (hK15 (k + 1) _ _ ?_ ?_ (sub_cons rfl sub_nil) (sub_cons rfl (sub_cons rfl (sub_cons rfl sub_nil))) (by exact subH_nil) (subH_same rfl subH_nil)))
               ·try dsimp only
                first
                  | (exfalso; omega)
               ·try dsimp only
                omega
         ·refine wp_exit' (to_k0 (fun _ _ h => h) (hK13 _ _ _ _ _ ?_))
          clear hK13
          refine wp_seq' fun K45 hK45 => ?_
          refine wp_reg ?_
          refine ol_r (r_lda (id := 1) (n := 6) rfl rfl rfl ag39) rfl ?_
          have hS0 := chkE_end hP (by omega)
          refine ol_call rfl rfl cb85 rfl (fun w1 hb1 hs1 hB1 => Calls.mono (record_Span A _ (hA.at hb1 hB1)) ?_)
          rintro e w2 ⟨rfl, hb2⟩
          refine After.below rfl hb1 hs1 hB1 hb2 ?_
          clear hb2 hB1 hs1 hb1 w2 w1
          refine ol_r (r_assign rfl) rfl ?_
          refine ol_nil (to_k0 (fun _ _ h => h) (hK45 _ _ _ _ _ ?_))
          clear hK45
          refine wp_seq' fun K46 hK46 => ?_
          refine wp_seq' fun K47 hK47 => ?_
          refine wp_reg ?_
          refine ol_r (r_fa (o' := 4) rfl fl39_4 rfl) rfl ?_
          refine ol_r (r_ld (id := 1) rfl rfl rfl sc36) rfl ?_
          refine ol_r (r_len rfl sl36) rfl ?_
          refine ol_r (r_move rfl) rfl ?_
          refine ol_nil (to_k0 (fun _ _ h => h) (hK47 _ _ _ _ _ ?_))
          clear hK47
          refine wp_block' ?_
          apply wp_loopM (σ := Nat) (fun s => s ≤ A.ln ∧ chkE (fL (spanL A.ss)) none A.ls = chkE (fL (spanL A.ss)) (ahead A.ls s) (A.ls.drop s)) (fun s => [(95, .int .i64 s)]) [(1, _), (5, _), (93, _), (94, _)] (fun s => []) [(1, _)] (fun s => A.ln - s) (0)
          ·try dsimp only
           exact ⟨Nat.zero_le _, chkE_start _ _⟩
          ·exact (sub_cons rfl sub_nil)
          ·exact (sub_cons rfl (sub_cons rfl (sub_cons rfl (sub_cons rfl sub_nil))))
          ·exact subH_nil
          ·exact (subH_same rfl subH_nil)
          ·rintro k ⟨hk, hPl⟩
           intro K48 hK48
           refine wp_seq' fun K49 hK49 => ?_
           refine wp_reg ?_
           refine ol_r (r_lss rfl rfl) rfl ?_
           refine ol_nil (to_k0 (fun _ _ h => h) (hK49 _ _ _ _ _ ?_))
           clear hK49
           refine wp_seq' fun K50 hK50 => ?_
           refine wp_condD rfl (fun hc96 => ?_) (fun hc96 => ?_)
           ·refine wp_skip' (to_k0 (fun _ _ h => h) (hK50 _ _ _ _ _ ?_))
            clear hK50
            refine wp_seq' fun K51 hK51 => ?_
            refine wp_block' ?_
            refine wp_seq' fun K52 hK52 => ?_
            refine wp_reg ?_
            refine ol_r (r_move rfl) rfl ?_
            refine ol_ixr hA.l rfl rfl sl36 (by omega) rfl fun x98 hx98 => ?_
            try simp only [Int.toNat_natCast] at hx98
            refine ol_r (r_ldw rfl (fun w1 hb1 hs1 hB1 => Rd.loads hA.l ty135 hx98 hb1)) rfl ?_
            refine ol_alloc 7 z135 rfl fun b7 => ?_
            refine ol_r (r_assign rfl) rfl ?_
            refine ol_store (id := 7) rfl rfl rfl rfl sz135 rfl rfl (by first | decide | exact Nat.zero_lt_succ _ | simp) ?_
            refine ol_nil (to_k0 (fun _ _ h => h) (hK52 _ _ _ _ _ ?_))
            clear hK52
            refine wp_block' ?_
            refine wp_seq' fun K53 hK53 => ?_
            refine wp_reg ?_
            refine ol_r (r_fa (o' := 0) rfl fl135_0 rfl) rfl ?_
            refine ol_r (r_ld (id := 7) rfl rfl rfl sc3) rfl ?_
            refine ol_r (r_lss rfl rfl) rfl ?_
            refine ol_r (r_move rfl) rfl ?_
            refine ol_split (d := 104) rfl (fun hs104 => ?_) (fun hs104 => ?_)
            ·have phs104 := hs104; try simp only [decide_eq_true_eq, decide_eq_false_iff_not, Bool.not_eq_true', Bool.not_eq_false', Bool.not_true, Bool.not_false] at phs104
             refine ol_s rfl rfl hs104 rfl ?_
             refine ol_s rfl rfl hs104 rfl ?_
             refine ol_s rfl rfl hs104 rfl ?_
             refine ol_s rfl rfl hs104 rfl ?_
             refine ol_s rfl rfl hs104 rfl ?_
             refine ol_r (r_pickT rfl hs104 rfl) rfl ?_
             refine ol_r (r_move rfl) rfl ?_
             refine ol_s rfl rfl rfl rfl ?_
             refine ol_s rfl rfl rfl rfl ?_
             refine ol_s rfl rfl rfl rfl ?_
             refine ol_s rfl rfl rfl rfl ?_
             refine ol_r (r_pickT rfl rfl rfl) rfl ?_
             refine ol_r (r_assign rfl) rfl ?_
             refine ol_nil (to_k0 (fun _ _ h => h) (hK53 _ _ _ _ _ ?_))
             clear hK53
             refine wp_condT rfl ?_
             refine wp_seq' fun K54 hK54 => ?_
             refine wp_reg ?_
             refine ol_r (r_assign rfl) rfl ?_
             refine ol_nil (to_k0 (fun _ _ h => h) (hK54 _ _ _ _ _ ?_))
             clear hK54
             refine hQ.ret (rvs1 (rv_t rfl)) (fun _ _ h => h) fun w hb hs hB hkd => ?_
             first
               | (have h := chkE_bad hPl hx98 (fL_9 (by omega)) (by simp)
                  exact ⟨by rw [(chkA_l hH hS0 (by show chkE (fL (spanL A.ss)) none A.ls ≠ 0; rw [h]; simp)).trans h], hb⟩)
            ·have phs104 := hs104; try simp only [decide_eq_true_eq, decide_eq_false_iff_not, Bool.not_eq_true', Bool.not_eq_false', Bool.not_true, Bool.not_false] at phs104
             refine ol_g rfl rfl hs104 ?_
             refine ol_r (r_fa (o' := 0) rfl fl135_0 rfl) rfl ?_
             refine ol_g rfl rfl hs104 ?_
             refine ol_r (r_ld (id := 7) rfl rfl rfl sc3) rfl ?_
             refine ol_g rfl rfl hs104 ?_
             refine ol_r (r_fa (o' := 1) rfl fl135_1 rfl) rfl ?_
             refine ol_g rfl rfl hs104 ?_
             refine ol_r (r_ld (id := 7) rfl rfl rfl sc3) rfl ?_
             refine ol_g rfl rfl hs104 ?_
             refine ol_r (r_geq rfl rfl) rfl ?_
             refine ol_r (r_pickF rfl hs104 rfl) rfl ?_
             refine ol_r (r_move rfl) rfl ?_
             refine ol_split (d := 111) rfl (fun hs111 => ?_) (fun hs111 => ?_)
             ·have phs111 := hs111; try simp only [decide_eq_true_eq, decide_eq_false_iff_not, Bool.not_eq_true', Bool.not_eq_false', Bool.not_true, Bool.not_false] at phs111
              refine ol_s rfl rfl hs111 rfl ?_
              refine ol_s rfl rfl hs111 rfl ?_
              refine ol_s rfl rfl hs111 rfl ?_
              refine ol_s rfl rfl hs111 rfl ?_
              refine ol_r (r_pickT rfl hs111 rfl) rfl ?_
              refine ol_r (r_assign rfl) rfl ?_
              refine ol_nil (to_k0 (fun _ _ h => h) (hK53 _ _ _ _ _ ?_))
              clear hK53
              refine wp_condT rfl ?_
              refine wp_seq' fun K55 hK55 => ?_
              refine wp_reg ?_
              refine ol_r (r_assign rfl) rfl ?_
              refine ol_nil (to_k0 (fun _ _ h => h) (hK55 _ _ _ _ _ ?_))
              clear hK55
              refine hQ.ret (rvs1 (rv_t rfl)) (fun _ _ h => h) fun w hb hs hB hkd => ?_
              first
                | (have h := chkE_bad hPl hx98 (fL_9 (by omega)) (by simp)
                   exact ⟨by rw [(chkA_l hH hS0 (by show chkE (fL (spanL A.ss)) none A.ls ≠ 0; rw [h]; simp)).trans h], hb⟩)
             ·have phs111 := hs111; try simp only [decide_eq_true_eq, decide_eq_false_iff_not, Bool.not_eq_true', Bool.not_eq_false', Bool.not_true, Bool.not_false] at phs111
              refine ol_g rfl rfl hs111 ?_
              refine ol_r (r_fa (o' := 1) rfl fl135_1 rfl) rfl ?_
              refine ol_g rfl rfl hs111 ?_
              refine ol_r (r_ld (id := 7) rfl rfl rfl sc3) rfl ?_
              refine ol_g rfl rfl hs111 ?_
              refine ol_r (r_move rfl) rfl ?_
              refine ol_g rfl rfl hs111 ?_
              refine ol_r (r_gtr rfl rfl) rfl ?_
              refine ol_r (r_pickF rfl hs111 rfl) rfl ?_
              refine ol_r (r_assign rfl) rfl ?_
              refine ol_nil (to_k0 (fun _ _ h => h) (hK53 _ _ _ _ _ ?_))
              clear hK53
              refine wp_condD rfl (fun hc100 => ?_) (fun hc100 => ?_)
              ·refine wp_seq' fun K56 hK56 => ?_
               refine wp_reg ?_
               refine ol_r (r_assign rfl) rfl ?_
               refine ol_nil (to_k0 (fun _ _ h => h) (hK56 _ _ _ _ _ ?_))
               clear hK56
               refine hQ.ret (rvs1 (rv_t rfl)) (fun _ _ h => h) fun w hb hs hB hkd => ?_
               first
                 | (have h := chkE_bad hPl hx98 (fL_9 (by omega)) (by simp)
                    exact ⟨by rw [(chkA_l hH hS0 (by show chkE (fL (spanL A.ss)) none A.ls ≠ 0; rw [h]; simp)).trans h], hb⟩)
              ·refine wp_seq' fun K57 hK57 => ?_
               refine wp_regq (by kernel_rfl) (by kernel_rfl) ?_
               refine ql_r (r_move rfl) rfl ?_
               refine ql_r (r_gtr rfl rfl) rfl ?_
               refine ql_r (r_move rfl) rfl ?_
               refine ql_split (d := 120) rfl (fun hs120 => ?_) (fun hs120 => ?_)
               ·have phs120 := hs120; try simp only [decide_eq_true_eq, decide_eq_false_iff_not, Bool.not_eq_true', Bool.not_eq_false', Bool.not_true, Bool.not_false] at phs120
                refine ql_g rfl rfl hs120 ?_
                refine ql_r (r_fa (o' := 0) rfl fl135_0 rfl) rfl ?_
                refine ql_g rfl rfl hs120 ?_
                refine ql_r (r_ld (id := 7) rfl rfl rfl sc3) rfl ?_
                refine ql_g rfl rfl hs120 ?_
                refine ql_r (r_fa (o' := 4) rfl fl39_4 rfl) rfl ?_
                refine ql_g rfl rfl hs120 ?_
                refine ql_r (r_ld (id := 1) rfl rfl rfl sc36) rfl ?_
                refine ql_g rfl rfl hs120 ?_
                refine ql_r (r_move rfl) rfl ?_
                refine ql_g rfl rfl hs120 ?_
                refine ql_r (r_sub rfl rfl (by omega)) rfl ?_
                refine ql_g rfl rfl hs120 ?_
                refine ql_ixr hA.l rfl rfl sl36 (by omega) rfl fun x127 hx127 => ?_
                try simp only [Int.toNat_natCast] at hx127
                refine ql_g rfl rfl hs120 ?_
                refine ql_r (r_faw rfl (ix_some hA.l (by omega)) fl135_1) rfl ?_
                refine ql_g rfl rfl hs120 ?_
                refine ql_r (r_ldw rfl (fun w1 hb1 hs1 hB1 => Rd.loadsF (o := 1) hA.l sc3 hx127 hb1 rfl)) rfl ?_
                refine ql_g rfl rfl hs120 ?_
                refine ql_r (r_lss rfl rfl) rfl ?_
                refine ql_r (r_pickT rfl hs120 rfl) rfl ?_
                refine ql_r (r_assign rfl) rfl ?_
                refine ql_nil (to_k0 (fun _ _ h => h) (hK57 _ _ _ _ _ ?_))
                clear hK57
                refine wp_condD rfl (fun hc117 => ?_) (fun hc117 => ?_)
                ·refine wp_seq' fun K58 hK58 => ?_
                 refine wp_reg ?_
                 refine ol_r (r_assign rfl) rfl ?_
                 refine ol_nil (to_k0 (fun _ _ h => h) (hK58 _ _ _ _ _ ?_))
                 clear hK58
                 refine hQ.ret (rvs1 (rv_t rfl)) (fun _ _ h => h) fun w hb hs hB hkd => ?_
                 first
                   | (have h := chkE_bad hPl hx98 (fL_10 (by omega) (by rw [ordL_1 (by omega) hx127, decide_eq_true (by omega)])) (by simp)
                      exact ⟨by rw [(chkA_l hH hS0 (by show chkE (fL (spanL A.ss)) none A.ls ≠ 0; rw [h]; simp)).trans h], hb⟩)
                ·refine wp_seq' fun K59 hK59 => ?_
                 refine wp_reg ?_
                 refine ol_r (r_fa (o' := 2) rfl fl135_2 rfl) rfl ?_
                 refine ol_r (r_ld (id := 7) rfl rfl rfl sc9) rfl ?_
                 refine ol_call rfl rfl cb86 rfl (fun w1 hb1 hs1 hB1 => Calls.mono (record_IsTitle _ _ (hA.lm _ (List.mem_of_getElem? hx98))) ?_)
                 rintro e w2 ⟨rfl, hb2⟩
                 refine After.below rfl hb1 hs1 hB1 hb2 ?_
                 clear hb2 hB1 hs1 hb1 w2 w1
                 refine ol_r (r_not rfl) rfl ?_
                 refine ol_r (r_assign rfl) rfl ?_
                 refine ol_nil (to_k0 (fun _ _ h => h) (hK59 _ _ _ _ _ ?_))
                 clear hK59
                 refine wp_condNB rfl (fun hc132 => ?_) (fun hc132 => ?_)
                 ·refine wp_seq' fun K60 hK60 => ?_
                  refine wp_reg ?_
                  refine ol_r (r_assign rfl) rfl ?_
                  refine ol_nil (to_k0 (fun _ _ h => h) (hK60 _ _ _ _ _ ?_))
                  clear hK60
                  refine hQ.ret (rvs1 (rv_t rfl)) (fun _ _ h => h) fun w hb hs hB hkd => ?_
                  first
                    | (have ho : ordL (ahead A.ls k) x98 = false := by
                         first
                           | (rw [ordL_0 (by omega)]; done)
                           | (rw [ordL_1 (by omega) hx127, decide_eq_false (by omega)]; done)
                       have h := chkE_bad hPl hx98 (fL_8 (by omega) ho (by simpa using hc132)) (by simp)
                       exact ⟨by rw [(chkA_l hH hS0 (by show chkE (fL (spanL A.ss)) none A.ls ≠ 0; rw [h]; simp)).trans h], hb⟩)
                 ·refine wp_skip' (to_k0 (fun _ _ h => h) (hK51 _ _ _ _ _ ?_))
                  clear hK51
                  refine wp_reg ?_
                  refine ol_r (r_add rfl rfl (by omega)) rfl ?_
                  refine ol_r (r_move rfl) rfl ?_
                  refine ol_nil (to_k0 (fun _ _ h => h) (hK48 (k + 1) _ _ ?_ ?_ (sub_cons rfl sub_nil) (sub_cons rfl (sub_cons rfl (sub_cons rfl (sub_cons rfl sub_nil)))) (by exact subH_nil) (subH_same rfl subH_nil)))
                  ·try dsimp only
                   first
                     | (have ho := ordL_1 (ls := A.ls) (k := k) (x := x98) (by omega) hx127
                        rw [decide_eq_false (by omega)] at ho
                        exact ⟨by omega, chkE_next hPl hx98 (fL_0 (by omega) ho (by simpa using hc132))⟩)
                  ·try dsimp only
                   omega
               ·have phs120 := hs120; try simp only [decide_eq_true_eq, decide_eq_false_iff_not, Bool.not_eq_true', Bool.not_eq_false', Bool.not_true, Bool.not_false] at phs120
                refine ql_s rfl rfl hs120 rfl ?_
                refine ql_s rfl rfl hs120 rfl ?_
                refine ql_s rfl rfl hs120 rfl ?_
                refine ql_s rfl rfl hs120 rfl ?_
                refine ql_s rfl rfl hs120 rfl ?_
                refine ql_s rfl rfl hs120 rfl ?_
                refine ql_s rfl rfl hs120 rfl ?_
                refine ql_s rfl rfl hs120 rfl ?_
                refine ql_s rfl rfl hs120 rfl ?_
                refine ql_s rfl rfl hs120 rfl ?_
                refine ql_r (r_pickF rfl hs120 rfl) rfl ?_
                refine ql_r (r_assign rfl) rfl ?_
                refine ql_nil (to_k0 (fun _ _ h => h) (hK57 _ _ _ _ _ ?_))
                clear hK57
                refine wp_condF rfl ?_
                refine wp_seq' fun K61 hK61 => ?_
                refine wp_reg ?_
                refine ol_r (r_fa (o' := 2) rfl fl135_2 rfl) rfl ?_
                refine ol_r (r_ld (id := 7) rfl rfl rfl sc9) rfl ?_
                refine ol_call rfl rfl cb86 rfl (fun w1 hb1 hs1 hB1 => Calls.mono (record_IsTitle _ _ (hA.lm _ (List.mem_of_getElem? hx98))) ?_)
                rintro e w2 ⟨rfl, hb2⟩
                refine After.below rfl hb1 hs1 hB1 hb2 ?_
                clear hb2 hB1 hs1 hb1 w2 w1
                refine ol_r (r_not rfl) rfl ?_
                refine ol_r (r_assign rfl) rfl ?_
                refine ol_nil (to_k0 (fun _ _ h => h) (hK61 _ _ _ _ _ ?_))
                clear hK61
                refine wp_condNB rfl (fun hc132 => ?_) (fun hc132 => ?_)
                ·refine wp_seq' fun K62 hK62 => ?_
                 refine wp_reg ?_
                 refine ol_r (r_assign rfl) rfl ?_
                 refine ol_nil (to_k0 (fun _ _ h => h) (hK62 _ _ _ _ _ ?_))
                 clear hK62
                 refine hQ.ret (rvs1 (rv_t rfl)) (fun _ _ h => h) fun w hb hs hB hkd => ?_
                 first
                   | (have ho : ordL (ahead A.ls k) x98 = false := by
                        first
                          | (rw [ordL_0 (by omega)]; done)
                          | (rw [ordL_1 (by omega) hx127, decide_eq_false (by omega)]; done)
                      have h := chkE_bad hPl hx98 (fL_8 (by omega) ho (by simpa using hc132)) (by simp)
                      exact ⟨by rw [(chkA_l hH hS0 (by show chkE (fL (spanL A.ss)) none A.ls ≠ 0; rw [h]; simp)).trans h], hb⟩)
                ·refine wp_skip' (to_k0 (fun _ _ h => h) (hK51 _ _ _ _ _ ?_))
                 clear hK51
                 refine wp_reg ?_
                 refine ol_r (r_add rfl rfl (by omega)) rfl ?_
                 refine ol_r (r_move rfl) rfl ?_
                 refine ol_nil (to_k0 (fun _ _ h => h) (hK48 (k + 1) _ _ ?_ ?_ (sub_cons rfl sub_nil) (sub_cons rfl (sub_cons rfl (sub_cons rfl (sub_cons rfl sub_nil)))) (by exact subH_nil) (subH_same rfl subH_nil)))
                 ·try dsimp only
                  first
                    | (have ho := ordL_0 (ls := A.ls) (k := k) (x := x98) (by omega)
                       exact ⟨by omega, chkE_next hPl hx98 (fL_0 (by omega) ho (by simpa using hc132))⟩)
                 ·try dsimp only
                  omega
           ·refine wp_exit' (to_k0 (fun _ _ h => h) (hK46 _ _ _ _ _ ?_))
            clear hK46
            refine wp_seq' fun K63 hK63 => ?_
            refine wp_seq' fun K64 hK64 => ?_
            refine wp_reg ?_
            have hL0 := chkE_end hPl (by omega)
            refine ol_r (r_fa (o' := 5) rfl fl39_5 rfl) rfl ?_
            refine ol_r (r_ld (id := 1) rfl rfl rfl sc37) rfl ?_
            refine ol_r (r_len rfl sl37) rfl ?_
            refine ol_r (r_move rfl) rfl ?_
            refine ol_nil (to_k0 (fun _ _ h => h) (hK64 _ _ _ _ _ ?_))
            clear hK64
            refine wp_block' ?_
            apply wp_loopM (σ := Nat) (fun s => s ≤ A.tn ∧ chkE fT none A.ts = chkE fT (ahead A.ts s) (A.ts.drop s)) (fun s => [(141, .int .i64 s)]) [(1, _), (139, _), (140, _)] (fun s => []) [(1, _)] (fun s => A.tn - s) (0)
            ·try dsimp only
             exact ⟨Nat.zero_le _, chkE_start _ _⟩
            ·exact (sub_cons rfl sub_nil)
            ·exact (sub_cons rfl (sub_cons rfl (sub_cons rfl sub_nil)))
            ·exact subH_nil
            ·exact (subH_same rfl subH_nil)
            ·rintro k ⟨hk, hPt⟩
             intro K65 hK65
             refine wp_seq' fun K66 hK66 => ?_
             refine wp_reg ?_
             refine ol_r (r_lss rfl rfl) rfl ?_
             refine ol_nil (to_k0 (fun _ _ h => h) (hK66 _ _ _ _ _ ?_))
             clear hK66
             refine wp_seq' fun K67 hK67 => ?_
             refine wp_condD rfl (fun hc142 => ?_) (fun hc142 => ?_)
             ·refine wp_skip' (to_k0 (fun _ _ h => h) (hK67 _ _ _ _ _ ?_))
              clear hK67
              refine wp_seq' fun K68 hK68 => ?_
              refine wp_block' ?_
              refine wp_seq' fun K69 hK69 => ?_
              refine wp_reg ?_
              refine ol_r (r_move rfl) rfl ?_
              refine ol_ixr hA.t rfl rfl sl37 (by omega) rfl fun x144 hx144 => ?_
              try simp only [Int.toNat_natCast] at hx144
              refine ol_r (r_ldw rfl (fun w1 hb1 hs1 hB1 => Rd.loads hA.t ty9 hx144 hb1)) rfl ?_
              refine ol_r (r_assign rfl) rfl ?_
              refine ol_r (r_assign rfl) rfl ?_
              refine ol_nil (to_k0 (fun _ _ h => h) (hK69 _ _ _ _ _ ?_))
              clear hK69
              refine wp_block' ?_
              refine wp_seq' fun K70 hK70 => ?_
              refine wp_reg ?_
              refine ol_r (r_move rfl) rfl ?_
              refine ol_call rfl rfl cb44 rfl (fun w1 hb1 hs1 hB1 => Calls.mono (quant_IsName x144 _ (hA.tm _ (List.mem_of_getElem? hx144))) ?_)
              rintro e w2 ⟨rfl, hb2⟩
              refine After.below rfl hb1 hs1 hB1 hb2 ?_
              clear hb2 hB1 hs1 hb1 w2 w1
              refine ol_r (r_not rfl) rfl ?_
              refine ol_r (r_assign rfl) rfl ?_
              refine ol_nil (to_k0 (fun _ _ h => h) (hK70 _ _ _ _ _ ?_))
              clear hK70
              refine wp_condNB rfl (fun hc146 => ?_) (fun hc146 => ?_)
              ·refine wp_seq' fun K71 hK71 => ?_
               refine wp_reg ?_
               refine ol_r (r_assign rfl) rfl ?_
               refine ol_nil (to_k0 (fun _ _ h => h) (hK71 _ _ _ _ _ ?_))
               clear hK71
               refine hQ.ret (rvs1 (rv_t rfl)) (fun _ _ h => h) fun w hb hs hB hkd => ?_
               first
                 | (have h := chkE_bad hPt hx144 (fT_8 (by simpa using hc146)) (by simp)
                    exact ⟨by rw [(chkA_t hH hS0 hL0).trans h], hb⟩)
              ·refine wp_seq' fun K72 hK72 => ?_
               refine wp_reg ?_
               refine ol_r (r_move rfl) rfl ?_
               refine ol_r (r_gtr rfl rfl) rfl ?_
               refine ol_r (r_move rfl) rfl ?_
               refine ol_split (d := 153) rfl (fun hs153 => ?_) (fun hs153 => ?_)
               ·have phs153 := hs153; try simp only [decide_eq_true_eq, decide_eq_false_iff_not, Bool.not_eq_true', Bool.not_eq_false', Bool.not_true, Bool.not_false] at phs153
                refine ol_g rfl rfl hs153 ?_
                refine ol_r (r_move rfl) rfl ?_
                refine ol_g rfl rfl hs153 ?_
                refine ol_r (r_fa (o' := 5) rfl fl39_5 rfl) rfl ?_
                refine ol_g rfl rfl hs153 ?_
                refine ol_r (r_ld (id := 1) rfl rfl rfl sc37) rfl ?_
                refine ol_g rfl rfl hs153 ?_
                refine ol_r (r_move rfl) rfl ?_
                refine ol_g rfl rfl hs153 ?_
                refine ol_r (r_sub rfl rfl (by omega)) rfl ?_
                refine ol_g rfl rfl hs153 ?_
                refine ol_ixr hA.t rfl rfl sl37 (by omega) rfl fun x159 hx159 => ?_
                try simp only [Int.toNat_natCast] at hx159
                refine ol_g rfl rfl hs153 ?_
                refine ol_r (r_ldw rfl (fun w1 hb1 hs1 hB1 => Rd.loads hA.t ty9 hx159 hb1)) rfl ?_
                refine ol_g rfl rfl hs153 ?_
                refine ol_r (r_sleq rfl rfl) rfl ?_
                refine ol_r (r_pickT rfl hs153 rfl) rfl ?_
                refine ol_r (r_assign rfl) rfl ?_
                refine ol_nil (to_k0 (fun _ _ h => h) (hK72 _ _ _ _ _ ?_))
                clear hK72
                refine wp_cond' rfl (fun hc150 => ?_) (fun hc150 => ?_)
                ·refine wp_seq' fun K73 hK73 => ?_
                 refine wp_reg ?_
                 refine ol_r (r_assign rfl) rfl ?_
                 refine ol_nil (to_k0 (fun _ _ h => h) (hK73 _ _ _ _ _ ?_))
                 clear hK73
                 refine hQ.ret (rvs1 (rv_t rfl)) (fun _ _ h => h) fun w hb hs hB hkd => ?_
                 first
                   | (have hc : sLe x144 x159 = true := hc150
                      have h := chkE_bad hPt hx144 (fT_10 (by simpa using hc146) (by rw [ordT_1 (by omega) hx159, hc])) (by simp)
                      exact ⟨by rw [(chkA_t hH hS0 hL0).trans h], hb⟩)
                ·refine wp_skip' (to_k0 (fun _ _ h => h) (hK68 _ _ _ _ _ ?_))
                 clear hK68
                 refine wp_reg ?_
                 refine ol_r (r_add rfl rfl (by omega)) rfl ?_
                 refine ol_r (r_move rfl) rfl ?_
                 refine ol_nil (to_k0 (fun _ _ h => h) (hK65 (k + 1) _ _ ?_ ?_ (sub_cons rfl sub_nil) (sub_cons rfl (sub_cons rfl (sub_cons rfl sub_nil))) (by exact subH_nil) (subH_same rfl subH_nil)))
                 ·try dsimp only
                  first
                    | (have ho := ordT_1 (ts := A.ts) (k := k) (x := x144) (by omega) hx159
                       have hc : sLe x144 x159 = false := hc150
                       rw [hc] at ho
                       exact ⟨by omega, chkE_next hPt hx144 (fT_0 (by simpa using hc146) ho)⟩)
                 ·try dsimp only
                  omega
               ·have phs153 := hs153; try simp only [decide_eq_true_eq, decide_eq_false_iff_not, Bool.not_eq_true', Bool.not_eq_false', Bool.not_true, Bool.not_false] at phs153
                refine ol_s rfl rfl hs153 rfl ?_
                refine ol_s rfl rfl hs153 rfl ?_
                refine ol_s rfl rfl hs153 rfl ?_
                refine ol_s rfl rfl hs153 rfl ?_
                refine ol_s rfl rfl hs153 rfl ?_
                refine ol_s rfl rfl hs153 rfl ?_
                refine ol_s rfl rfl hs153 rfl ?_
                refine ol_s rfl rfl hs153 rfl ?_
                refine ol_r (r_pickF rfl hs153 rfl) rfl ?_
                refine ol_r (r_assign rfl) rfl ?_
                refine ol_nil (to_k0 (fun _ _ h => h) (hK72 _ _ _ _ _ ?_))
                clear hK72
                refine wp_condF rfl ?_
                refine wp_skip' (to_k0 (fun _ _ h => h) (hK68 _ _ _ _ _ ?_))
                clear hK68
                refine wp_reg ?_
                refine ol_r (r_add rfl rfl (by omega)) rfl ?_
                refine ol_r (r_move rfl) rfl ?_
                refine ol_nil (to_k0 (fun _ _ h => h) (hK65 (k + 1) _ _ ?_ ?_ (sub_cons rfl sub_nil) (sub_cons rfl (sub_cons rfl (sub_cons rfl sub_nil))) (by exact subH_nil) (subH_same rfl subH_nil)))
                ·try dsimp only
                 first
                   | (have ho := ordT_0 (ts := A.ts) (k := k) (x := x144) (by omega)
                      exact ⟨by omega, chkE_next hPt hx144 (fT_0 (by simpa using hc146) ho)⟩)
                ·try dsimp only
                 omega
             ·refine wp_exit' (to_k0 (fun _ _ h => h) (hK63 _ _ _ _ _ ?_))
              clear hK63
              refine wp_seq' fun K74 hK74 => ?_
              refine wp_reg ?_
              refine ol_r (r_assign rfl) rfl ?_
              refine ol_nil (to_k0 (fun _ _ h => h) (hK74 _ _ _ _ _ ?_))
              clear hK74
              refine hQ.ret (rvs1 (rv_t rfl)) (fun _ _ h => h) fun w hb hs hB hkd => ?_
              first
                | (exact ⟨by rw [(chkA_t hH hS0 hL0).trans (chkE_end hPt (by omega))], hb⟩)
end Go.Proofs.Ytjflbnbofedlkaa
