/-
  Names, titles, Check, Span: program and reference.
-/
import Derived.Test.YtogcclagmobkiaaEncAct
import Derived.Test.YtogcclagmobkiaaHw
namespace Go.Proofs.Ytogcclagmobkiaa
open Go Go.RowKit Hx
set_option linter.unusedVariables false
set_option linter.unusedSimpArgs false
set_option maxRecDepth 8000
theorem record_in (n a b : Int) (w : World) : Calls Try.prog 91 #[.int .i64 n, .int .i64 a, .int .i64 b] w fun e w' => e = .returned (.bool (inB n a b)) ∧ Below w.heap.size w w' := by
  refine enterQ (N := 15) (C := fun _ => True) (H := []) (B := w.heap.size) (args := [_, _, _]) Try.func91 rfl rfl rfl (Nat.le_refl _) (Sat.nil _ _) fun Q hQ => ?_
  refine wp_seq' fun K1 hK1 => ?_
  refine wp_reg ?_
  refine ol_r (r_assign rfl) rfl ?_
  refine ol_nil (to_k0 (fun _ _ h => h) (hK1 _ _ _ _ _ ?_))
  clear hK1
  refine wp_seq' fun K2 hK2 => ?_
  refine wp_reg ?_
  refine ol_r (r_move rfl) rfl ?_
  refine ol_r (r_move rfl) rfl ?_
  refine ol_r (r_geq rfl rfl) rfl ?_
  refine ol_r (r_move rfl) rfl ?_
  refine ol_split (d := 10) rfl (fun hs10 => ?_) (fun hs10 => ?_)
  ·have phs10 := hs10; try simp only [decide_eq_true_eq, decide_eq_false_iff_not, Bool.not_eq_true', Bool.not_eq_false', Bool.not_true, Bool.not_false] at phs10
   refine ol_g rfl rfl hs10 ?_
   refine ol_r (r_move rfl) rfl ?_
   refine ol_g rfl rfl hs10 ?_
   refine ol_r (r_move rfl) rfl ?_
   refine ol_g rfl rfl hs10 ?_
   refine ol_r (r_leq rfl rfl) rfl ?_
   refine ol_r (r_pickT rfl hs10 rfl) rfl ?_
   refine ol_r (r_assign rfl) rfl ?_
   refine ol_nil (to_k0 (fun _ _ h => h) (hK2 _ _ _ _ _ ?_))
   clear hK2
   refine hQ.ret (rvs1 (rv_t rfl)) (fun _ _ h => h) fun w hb hs hB hkd => ?_
   exact ⟨by simp [inB, hs10], hb⟩
  ·have phs10 := hs10; try simp only [decide_eq_true_eq, decide_eq_false_iff_not, Bool.not_eq_true', Bool.not_eq_false', Bool.not_true, Bool.not_false] at phs10
   refine ol_s rfl rfl hs10 rfl ?_
   refine ol_s rfl rfl hs10 rfl ?_
   refine ol_s rfl rfl hs10 rfl ?_
   refine ol_r (r_pickF rfl hs10 rfl) rfl ?_
   refine ol_r (r_assign rfl) rfl ?_
   refine ol_nil (to_k0 (fun _ _ h => h) (hK2 _ _ _ _ _ ?_))
   clear hK2
   refine hQ.ret (rvs1 (rv_t rfl)) (fun _ _ h => h) fun w hb hs hB hkd => ?_
   exact ⟨by simp [inB, hs10], hb⟩
theorem ref2_outside (n a b : Int) (w : World) : Calls Try.prog 98 #[.int .i64 n, .int .i64 a, .int .i64 b] w fun e w' => e = .returned (.bool (!inB n a b)) ∧ Below w.heap.size w w' := by
  refine enterQ (N := 15) (C := fun _ => True) (H := []) (B := w.heap.size) (args := [_, _, _]) Try.func98 rfl rfl rfl (Nat.le_refl _) (Sat.nil _ _) fun Q hQ => ?_
  refine wp_seq' fun K1 hK1 => ?_
  refine wp_reg ?_
  refine ol_r (r_assign rfl) rfl ?_
  refine ol_nil (to_k0 (fun _ _ h => h) (hK1 _ _ _ _ _ ?_))
  clear hK1
  refine wp_seq' fun K2 hK2 => ?_
  refine wp_reg ?_
  refine ol_r (r_move rfl) rfl ?_
  refine ol_r (r_move rfl) rfl ?_
  refine ol_r (r_lss rfl rfl) rfl ?_
  refine ol_r (r_move rfl) rfl ?_
  refine ol_split (d := 10) rfl (fun hs10 => ?_) (fun hs10 => ?_)
  ·have phs10 := hs10; try simp only [decide_eq_true_eq, decide_eq_false_iff_not, Bool.not_eq_true', Bool.not_eq_false', Bool.not_true, Bool.not_false] at phs10
   refine ol_s rfl rfl hs10 rfl ?_
   refine ol_s rfl rfl hs10 rfl ?_
   refine ol_s rfl rfl hs10 rfl ?_
   refine ol_r (r_pickT rfl hs10 rfl) rfl ?_
   refine ol_r (r_assign rfl) rfl ?_
   refine ol_nil (to_k0 (fun _ _ h => h) (hK2 _ _ _ _ _ ?_))
   clear hK2
   refine hQ.ret (rvs1 (rv_t rfl)) (fun _ _ h => h) fun w hb hs hB hkd => ?_
   exact ⟨by rw [inB_not.2 (.inl (by simpa using phs10))]; rfl, hb⟩
  ·have phs10 := hs10; try simp only [decide_eq_true_eq, decide_eq_false_iff_not, Bool.not_eq_true', Bool.not_eq_false', Bool.not_true, Bool.not_false] at phs10
   refine ol_g rfl rfl hs10 ?_
   refine ol_r (r_move rfl) rfl ?_
   refine ol_g rfl rfl hs10 ?_
   refine ol_r (r_move rfl) rfl ?_
   refine ol_g rfl rfl hs10 ?_
   refine ol_r (r_gtr rfl rfl) rfl ?_
   refine ol_r (r_pickF rfl hs10 rfl) rfl ?_
   refine ol_r (r_assign rfl) rfl ?_
   refine ol_nil (to_k0 (fun _ _ h => h) (hK2 _ _ _ _ _ ?_))
   clear hK2
   refine hQ.ret (rvs1 (rv_t rfl)) (fun _ _ h => h) fun w hb hs hB hkd => ?_
   have h2 : decide (b < n) = !inB n a b := by
     by_cases h : n ≤ b
     · rw [inB_iff.2 ⟨by omega, h⟩, decide_eq_false (by omega)]; rfl
     · rw [inB_not.2 (.inr (by omega)), decide_eq_true (by omega)]; rfl
   exact ⟨by rw [h2], hb⟩
theorem quant_isDigit (c : Int) (w : World) : Calls Try.prog 123 #[.int .u8 c] w fun e w' => e = .returned (.bool (decide (48 ≤ c ∧ c ≤ 57))) ∧ Below w.heap.size w w' := by
  refine enterQ (N := 9) (C := fun _ => True) (H := []) (B := w.heap.size) (args := [_]) Try.func123 rfl rfl rfl (Nat.le_refl _) (Sat.nil _ _) fun Q hQ => ?_
  refine wp_seq' fun K1 hK1 => ?_
  refine wp_reg ?_
  refine ol_r (r_assign rfl) rfl ?_
  refine ol_nil (to_k0 (fun _ _ h => h) (hK1 _ _ _ _ _ ?_))
  clear hK1
  refine wp_seq' fun K2 hK2 => ?_
  refine wp_reg ?_
  refine ol_r (r_move rfl) rfl ?_
  refine ol_r (r_geq rfl rfl) rfl ?_
  refine ol_r (r_move rfl) rfl ?_
  refine ol_split (d := 5) rfl (fun hs5 => ?_) (fun hs5 => ?_)
  ·have phs5 := hs5; try simp only [decide_eq_true_eq, decide_eq_false_iff_not, Bool.not_eq_true', Bool.not_eq_false', Bool.not_true, Bool.not_false] at phs5
   refine ol_g rfl rfl hs5 ?_
   refine ol_r (r_move rfl) rfl ?_
   refine ol_g rfl rfl hs5 ?_
   refine ol_r (r_leq rfl rfl) rfl ?_
   refine ol_r (r_pickT rfl hs5 rfl) rfl ?_
   refine ol_r (r_assign rfl) rfl ?_
   refine ol_nil (to_k0 (fun _ _ h => h) (hK2 _ _ _ _ _ ?_))
   clear hK2
   refine hQ.ret (rvs1 (rv_t rfl)) (fun _ _ h => h) fun w hb hs hB hkd => ?_
   first
     | exact ⟨congrArg (fun b => Ending.returned (Value.bool b)) (decide_eq_decide.2 (by omega)), hb⟩
  ·have phs5 := hs5; try simp only [decide_eq_true_eq, decide_eq_false_iff_not, Bool.not_eq_true', Bool.not_eq_false', Bool.not_true, Bool.not_false] at phs5
   refine ol_s rfl rfl hs5 rfl ?_
   refine ol_s rfl rfl hs5 rfl ?_
   refine ol_r (r_pickF rfl hs5 rfl) rfl ?_
   refine ol_r (r_assign rfl) rfl ?_
   refine ol_nil (to_k0 (fun _ _ h => h) (hK2 _ _ _ _ _ ?_))
   clear hK2
   refine hQ.ret (rvs1 (rv_t rfl)) (fun _ _ h => h) fun w hb hs hB hkd => ?_
   first
     | exact ⟨congrArg (fun b => Ending.returned (Value.bool b)) (decide_eq_false (by omega)).symm, hb⟩
theorem quant_IsName (q : ByteArray) (w : World) (hq0 : q.size ≤ 9223372036854775807) : Calls Try.prog 90 #[.string q] w fun e w' => e = .returned (.bool (nameB q)) ∧ Below w.heap.size w w' := by
  refine enterQ (N := 56) (C := fun _ => True) (H := []) (B := w.heap.size) (args := [_]) Try.func90 rfl rfl rfl (Nat.le_refl _) (Sat.nil _ _) fun Q hQ => ?_
  refine wp_seq' fun K1 hK1 => ?_
  refine wp_reg ?_
  refine ol_r (r_assign rfl) rfl ?_
  refine ol_nil (to_k0 (fun _ _ h => h) (hK1 _ _ _ _ _ ?_))
  clear hK1
  refine wp_seq' fun K2 hK2 => ?_
  refine wp_seq' fun K3 hK3 => ?_
  refine wp_reg ?_
  refine ol_r (r_move rfl) rfl ?_
  refine ol_r (r_lens rfl st9) rfl ?_
  refine ol_r (r_move rfl) rfl ?_
  refine ol_nil (to_k0 (fun _ _ h => h) (hK3 _ _ _ _ _ ?_))
  clear hK3
  refine wp_block' ?_
  apply wp_loopM (σ := Nat) (fun s => s ≤ q.size ∧ ∀ i, i < s → nameC (byteAt q i) = true) (fun s => [(8, .int .i64 s)]) [(0, _), (7, _)] (fun s => []) [] (fun s => q.size - s) (0)
  ·try dsimp only
   exact ⟨Nat.zero_le _, fun i h => by omega⟩
  ·exact (sub_cons rfl sub_nil)
  ·exact (sub_cons rfl (sub_cons rfl sub_nil))
  ·exact subH_nil
  ·exact subH_nil
  ·rintro k ⟨hk, hP⟩
   intro K4 hK4
   refine wp_seq' fun K5 hK5 => ?_
   refine wp_reg ?_
   refine ol_r (r_lss rfl rfl) rfl ?_
   refine ol_nil (to_k0 (fun _ _ h => h) (hK5 _ _ _ _ _ ?_))
   clear hK5
   refine wp_seq' fun K6 hK6 => ?_
   refine wp_condD rfl (fun hc9 => ?_) (fun hc9 => ?_)
   ·refine wp_skip' (to_k0 (fun _ _ h => h) (hK6 _ _ _ _ _ ?_))
    clear hK6
    refine wp_seq' fun K7 hK7 => ?_
    refine wp_block' ?_
    refine wp_seq' fun K8 hK8 => ?_
    refine wp_reg ?_
    refine ol_r (r_move rfl) rfl ?_
    refine ol_r (r_assign rfl) rfl ?_
    refine ol_nil (to_k0 (fun _ _ h => h) (hK8 _ _ _ _ _ ?_))
    clear hK8
    refine wp_seq' fun K9 hK9 => ?_
    refine wp_reg ?_
    refine ol_r (r_move rfl) rfl ?_
    refine ol_r (r_move rfl) rfl ?_
    refine ol_r (r_sidx rfl rfl st9 (by omega)) rfl ?_
    try simp only [Int.toNat_natCast]
    refine ol_r (r_assign rfl) rfl ?_
    refine ol_nil (to_k0 (fun _ _ h => h) (hK9 _ _ _ _ _ ?_))
    clear hK9
    apply wp_seq_cutM (σ := Bool) (fun s => s = decide ((97 ≤ byteAt q k ∧ byteAt q k ≤ 122) ∨ (65 ≤ byteAt q k ∧ byteAt q k ≤ 90))) (fun s => [(5, .bool s)]) [(0, _), (4, _), (7, _), (8, _)] (fun s => []) []
    ·exact (sub_cons rfl (sub_cons rfl (sub_cons rfl (sub_cons rfl sub_nil))))
    ·exact subH_nil
    ·intro K10 hK10
     refine wp_reg ?_
     refine ol_r (r_move rfl) rfl ?_
     refine ol_r (r_geq rfl rfl) rfl ?_
     refine ol_r (r_move rfl) rfl ?_
     refine ol_split (d := 16) rfl (fun hs16 => ?_) (fun hs16 => ?_)
     ·have phs16 := hs16; try simp only [decide_eq_true_eq, decide_eq_false_iff_not, Bool.not_eq_true', Bool.not_eq_false', Bool.not_true, Bool.not_false] at phs16
      refine ol_g rfl rfl hs16 ?_
      refine ol_r (r_move rfl) rfl ?_
      refine ol_g rfl rfl hs16 ?_
      refine ol_r (r_leq rfl rfl) rfl ?_
      refine ol_r (r_pickT rfl hs16 rfl) rfl ?_
      refine ol_r (r_move rfl) rfl ?_
      refine ol_split (d := 20) rfl (fun hs20 => ?_) (fun hs20 => ?_)
      ·have phs20 := hs20; try simp only [decide_eq_true_eq, decide_eq_false_iff_not, Bool.not_eq_true', Bool.not_eq_false', Bool.not_true, Bool.not_false] at phs20
       refine ol_s rfl rfl hs20 rfl ?_
       refine ol_s rfl rfl hs20 rfl ?_
       refine ol_s rfl rfl hs20 rfl ?_
       refine ol_u rfl rfl rfl ?_
       refine ol_u rfl rfl rfl ?_
       refine ol_s rfl rfl hs20 rfl ?_
       refine ol_r (r_pickT rfl hs20 rfl) rfl ?_
       refine ol_r (r_assign rfl) rfl ?_
       refine ol_nil (to_k0 (fun _ _ h => h) (hK10 (_) _ _ ?_ (sub_cons rfl sub_nil) (sub_cons rfl (sub_cons rfl (sub_cons rfl (sub_cons rfl sub_nil)))) subH_nil subH_nil))
       try dsimp only
       first
       | exact (decide_eq_true (by omega)).symm
      ·have phs20 := hs20; try simp only [decide_eq_true_eq, decide_eq_false_iff_not, Bool.not_eq_true', Bool.not_eq_false', Bool.not_true, Bool.not_false] at phs20
       refine ol_g rfl rfl hs20 ?_
       refine ol_r (r_move rfl) rfl ?_
       refine ol_g rfl rfl hs20 ?_
       refine ol_r (r_geq rfl rfl) rfl ?_
       refine ol_g rfl rfl hs20 ?_
       refine ol_r (r_move rfl) rfl ?_
       refine ol_split (d := 23) rfl (fun hs23 => ?_) (fun hs23 => ?_)
       ·have phs23 := hs23; try simp only [decide_eq_true_eq, decide_eq_false_iff_not, Bool.not_eq_true', Bool.not_eq_false', Bool.not_true, Bool.not_false] at phs23
        refine ol_g rfl rfl hs23 ?_
        refine ol_r (r_move rfl) rfl ?_
        refine ol_g rfl rfl hs23 ?_
        refine ol_r (r_leq rfl rfl) rfl ?_
        refine ol_g rfl rfl hs20 ?_
        refine ol_r (r_pickT rfl hs23 rfl) rfl ?_
        refine ol_r (r_pickF rfl hs20 rfl) rfl ?_
        refine ol_r (r_assign rfl) rfl ?_
        refine ol_nil (to_k0 (fun _ _ h => h) (hK10 (_) _ _ ?_ (sub_cons rfl sub_nil) (sub_cons rfl (sub_cons rfl (sub_cons rfl (sub_cons rfl sub_nil)))) subH_nil subH_nil))
        try dsimp only
        first
        | exact decide_eq_decide.2 (by omega)
       ·have phs23 := hs23; try simp only [decide_eq_true_eq, decide_eq_false_iff_not, Bool.not_eq_true', Bool.not_eq_false', Bool.not_true, Bool.not_false] at phs23
        refine ol_s rfl rfl hs23 rfl ?_
        refine ol_s rfl rfl hs23 rfl ?_
        refine ol_g rfl rfl hs20 ?_
        refine ol_r (r_pickF rfl hs23 rfl) rfl ?_
        refine ol_r (r_pickF rfl hs20 rfl) rfl ?_
        refine ol_r (r_assign rfl) rfl ?_
        refine ol_nil (to_k0 (fun _ _ h => h) (hK10 (_) _ _ ?_ (sub_cons rfl sub_nil) (sub_cons rfl (sub_cons rfl (sub_cons rfl (sub_cons rfl sub_nil)))) subH_nil subH_nil))
        try dsimp only
        first
        | exact (decide_eq_false (by omega)).symm
     ·have phs16 := hs16; try simp only [decide_eq_true_eq, decide_eq_false_iff_not, Bool.not_eq_true', Bool.not_eq_false', Bool.not_true, Bool.not_false] at phs16
      refine ol_s rfl rfl hs16 rfl ?_
      refine ol_s rfl rfl hs16 rfl ?_
      refine ol_r (r_pickF rfl hs16 rfl) rfl ?_
      refine ol_r (r_move rfl) rfl ?_
      refine ol_g rfl rfl rfl ?_
      refine ol_r (r_move rfl) rfl ?_
      refine ol_g rfl rfl rfl ?_
      refine ol_r (r_geq rfl rfl) rfl ?_
      refine ol_g rfl rfl rfl ?_
      refine ol_r (r_move rfl) rfl ?_
      refine ol_split (d := 23) rfl (fun hs23 => ?_) (fun hs23 => ?_)
      ·have phs23 := hs23; try simp only [decide_eq_true_eq, decide_eq_false_iff_not, Bool.not_eq_true', Bool.not_eq_false', Bool.not_true, Bool.not_false] at phs23
       refine ol_g rfl rfl hs23 ?_
       refine ol_r (r_move rfl) rfl ?_
       refine ol_g rfl rfl hs23 ?_
       refine ol_r (r_leq rfl rfl) rfl ?_
       refine ol_g rfl rfl rfl ?_
       refine ol_r (r_pickT rfl hs23 rfl) rfl ?_
       refine ol_r (r_pickF rfl rfl rfl) rfl ?_
       refine ol_r (r_assign rfl) rfl ?_
       refine ol_nil (to_k0 (fun _ _ h => h) (hK10 (_) _ _ ?_ (sub_cons rfl sub_nil) (sub_cons rfl (sub_cons rfl (sub_cons rfl (sub_cons rfl sub_nil)))) subH_nil subH_nil))
       try dsimp only
       first
       | exact decide_eq_decide.2 (by omega)
      ·have phs23 := hs23; try simp only [decide_eq_true_eq, decide_eq_false_iff_not, Bool.not_eq_true', Bool.not_eq_false', Bool.not_true, Bool.not_false] at phs23
       refine ol_s rfl rfl hs23 rfl ?_
       refine ol_s rfl rfl hs23 rfl ?_
       refine ol_g rfl rfl rfl ?_
       refine ol_r (r_pickF rfl hs23 rfl) rfl ?_
       refine ol_r (r_pickF rfl rfl rfl) rfl ?_
       refine ol_r (r_assign rfl) rfl ?_
       refine ol_nil (to_k0 (fun _ _ h => h) (hK10 (_) _ _ ?_ (sub_cons rfl sub_nil) (sub_cons rfl (sub_cons rfl (sub_cons rfl (sub_cons rfl sub_nil)))) subH_nil subH_nil))
       try dsimp only
       first
       | exact (decide_eq_false (by omega)).symm
    ·rintro b rfl
     apply wp_seq_cutM (σ := Bool) (fun s => s = !nameC (byteAt q k)) (fun s => [(46, .bool s)]) [(0, _), (7, _), (8, _)] (fun s => []) []
     ·exact (sub_cons rfl (sub_cons rfl (sub_cons rfl sub_nil)))
     ·exact subH_nil
     ·intro K11 hK11
      refine wp_reg ?_
      refine ol_r (r_move rfl) rfl ?_
      refine ol_r (r_not rfl) rfl ?_
      refine ol_r (r_move rfl) rfl ?_
      refine ol_split (d := 30) rfl (fun hs30 => ?_) (fun hs30 => ?_)
      ·have phs30 := hs30; try simp only [decide_eq_true_eq, decide_eq_false_iff_not, Bool.not_eq_true', Bool.not_eq_false', Bool.not_true, Bool.not_false] at phs30
       refine ol_g rfl rfl hs30 ?_
       refine ol_r (r_move rfl) rfl ?_
       refine ol_g rfl rfl hs30 ?_
       refine ol_call rfl rfl cb123 rfl (fun w1 hb1 hs1 hB1 => Calls.mono (quant_isDigit _ _) ?_)
       rintro e w2 ⟨rfl, hb2⟩
       refine After.below rfl hb1 hs1 hB1 hb2 ?_
       clear hb2 hB1 hs1 hb1 w2 w1
       refine ol_g rfl rfl hs30 ?_
       refine ol_r (r_not rfl) rfl ?_
       refine ol_r (r_pickT rfl hs30 rfl) rfl ?_
       refine ol_r (r_move rfl) rfl ?_
       refine ol_split (d := 35) rfl (fun hs35 => ?_) (fun hs35 => ?_)
       ·have phs35 := hs35; try simp only [decide_eq_true_eq, decide_eq_false_iff_not, Bool.not_eq_true', Bool.not_eq_false', Bool.not_true, Bool.not_false] at phs35
        refine ol_g rfl rfl hs35 ?_
        refine ol_r (r_move rfl) rfl ?_
        refine ol_g rfl rfl hs35 ?_
        refine ol_r (r_neq rfl rfl) rfl ?_
        refine ol_r (r_pickT rfl hs35 rfl) rfl ?_
        refine ol_r (r_move rfl) rfl ?_
        refine ol_split (d := 39) rfl (fun hs39 => ?_) (fun hs39 => ?_)
        ·have phs39 := hs39; try simp only [decide_eq_true_eq, decide_eq_false_iff_not, Bool.not_eq_true', Bool.not_eq_false', Bool.not_true, Bool.not_false] at phs39
         refine ol_g rfl rfl hs39 ?_
         refine ol_r (r_move rfl) rfl ?_
         refine ol_g rfl rfl hs39 ?_
         refine ol_r (r_neq rfl rfl) rfl ?_
         refine ol_r (r_pickT rfl hs39 rfl) rfl ?_
         refine ol_r (r_move rfl) rfl ?_
         refine ol_split (d := 43) rfl (fun hs43 => ?_) (fun hs43 => ?_)
         ·have phs43 := hs43; try simp only [decide_eq_true_eq, decide_eq_false_iff_not, Bool.not_eq_true', Bool.not_eq_false', Bool.not_true, Bool.not_false] at phs43
          refine ol_g rfl rfl hs43 ?_
          refine ol_r (r_move rfl) rfl ?_
          refine ol_g rfl rfl hs43 ?_
          refine ol_r (r_neq rfl rfl) rfl ?_
          refine ol_r (r_pickT rfl hs43 rfl) rfl ?_
          refine ol_nil (to_k0 (fun _ _ h => h) (hK11 (_) _ _ ?_ (sub_cons rfl sub_nil) (sub_cons rfl (sub_cons rfl (sub_cons rfl sub_nil))) subH_nil subH_nil))
          try dsimp only
          first
          | exact nn_d (by omega)
         ·have phs43 := hs43; try simp only [decide_eq_true_eq, decide_eq_false_iff_not, Bool.not_eq_true', Bool.not_eq_false', Bool.not_true, Bool.not_false] at phs43
          refine ol_s rfl rfl hs43 rfl ?_
          refine ol_s rfl rfl hs43 rfl ?_
          refine ol_r (r_pickF rfl hs43 rfl) rfl ?_
          refine ol_nil (to_k0 (fun _ _ h => h) (hK11 (_) _ _ ?_ (sub_cons rfl sub_nil) (sub_cons rfl (sub_cons rfl (sub_cons rfl sub_nil))) subH_nil subH_nil))
          try dsimp only
          first
          | exact nn_f (by omega)
        ·have phs39 := hs39; try simp only [decide_eq_true_eq, decide_eq_false_iff_not, Bool.not_eq_true', Bool.not_eq_false', Bool.not_true, Bool.not_false] at phs39
         refine ol_s rfl rfl hs39 rfl ?_
         refine ol_s rfl rfl hs39 rfl ?_
         refine ol_r (r_pickF rfl hs39 rfl) rfl ?_
         refine ol_r (r_move rfl) rfl ?_
         refine ol_s rfl rfl rfl rfl ?_
         refine ol_s rfl rfl rfl rfl ?_
         refine ol_r (r_pickF rfl rfl rfl) rfl ?_
         refine ol_nil (to_k0 (fun _ _ h => h) (hK11 (_) _ _ ?_ (sub_cons rfl sub_nil) (sub_cons rfl (sub_cons rfl (sub_cons rfl sub_nil))) subH_nil subH_nil))
         try dsimp only
         first
         | exact nn_f (by omega)
       ·have phs35 := hs35; try simp only [decide_eq_true_eq, decide_eq_false_iff_not, Bool.not_eq_true', Bool.not_eq_false', Bool.not_true, Bool.not_false] at phs35
        refine ol_s rfl rfl hs35 rfl ?_
        refine ol_s rfl rfl hs35 rfl ?_
        refine ol_r (r_pickF rfl hs35 rfl) rfl ?_
        refine ol_r (r_move rfl) rfl ?_
        refine ol_s rfl rfl rfl rfl ?_
        refine ol_s rfl rfl rfl rfl ?_
        refine ol_r (r_pickF rfl rfl rfl) rfl ?_
        refine ol_r (r_move rfl) rfl ?_
        refine ol_s rfl rfl rfl rfl ?_
        refine ol_s rfl rfl rfl rfl ?_
        refine ol_r (r_pickF rfl rfl rfl) rfl ?_
        refine ol_nil (to_k0 (fun _ _ h => h) (hK11 (_) _ _ ?_ (sub_cons rfl sub_nil) (sub_cons rfl (sub_cons rfl (sub_cons rfl sub_nil))) subH_nil subH_nil))
        try dsimp only
        first
        | exact nn_f (by omega)
      ·have phs30 := hs30; try simp only [decide_eq_true_eq, decide_eq_false_iff_not, Bool.not_eq_true', Bool.not_eq_false', Bool.not_true, Bool.not_false] at phs30
       refine ol_s rfl rfl hs30 rfl ?_
       refine ol_s rfl rfl hs30 rfl ?_
       refine ol_s rfl rfl hs30 rfl ?_
       refine ol_r (r_pickF rfl hs30 rfl) rfl ?_
       refine ol_r (r_move rfl) rfl ?_
       refine ol_s rfl rfl rfl rfl ?_
       refine ol_s rfl rfl rfl rfl ?_
       refine ol_r (r_pickF rfl rfl rfl) rfl ?_
       refine ol_r (r_move rfl) rfl ?_
       refine ol_s rfl rfl rfl rfl ?_
       refine ol_s rfl rfl rfl rfl ?_
       refine ol_r (r_pickF rfl rfl rfl) rfl ?_
       refine ol_r (r_move rfl) rfl ?_
       refine ol_s rfl rfl rfl rfl ?_
       refine ol_s rfl rfl rfl rfl ?_
       refine ol_r (r_pickF rfl rfl rfl) rfl ?_
       refine ol_nil (to_k0 (fun _ _ h => h) (hK11 (_) _ _ ?_ (sub_cons rfl sub_nil) (sub_cons rfl (sub_cons rfl (sub_cons rfl sub_nil))) subH_nil subH_nil))
       try dsimp only
       first
       | exact nn_f (by omega)
     ·rintro b rfl
      refine wp_condNB rfl (fun hc46 => ?_) (fun hc46 => ?_)
      ·refine wp_seq' fun K12 hK12 => ?_
       refine wp_reg ?_
       refine ol_r (r_assign rfl) rfl ?_
       refine ol_nil (to_k0 (fun _ _ h => h) (hK12 _ _ _ _ _ ?_))
       clear hK12
       refine hQ.ret (rvs1 (rv_t rfl)) (fun _ _ h => h) fun w hb hs hB hkd => ?_
       first
         | (refine ⟨?_, hb⟩
            have h1 : nameC (byteAt q k) = false := hc46
            have h2 : nameB q = false := by unfold nameB; rw [bytesAll_not (by omega) h1]; rfl
            rw [h2]
            done)
      ·refine wp_skip' (to_k0 (fun _ _ h => h) (hK7 _ _ _ _ _ ?_))
       clear hK7
       refine wp_reg ?_
       refine ol_r (r_add rfl rfl (by omega)) rfl ?_
       refine ol_r (r_move rfl) rfl ?_
       refine ol_nil (to_k0 (fun _ _ h => h) (hK4 (k + 1) _ _ ?_ ?_ (sub_cons rfl sub_nil) (sub_cons rfl (sub_cons rfl sub_nil)) (by exact subH_nil) subH_nil))
       ·try dsimp only
        exact ⟨by omega, up_to hP hc46⟩
       ·try dsimp only
        omega
   ·refine wp_exit' (to_k0 (fun _ _ h => h) (hK2 _ _ _ _ _ ?_))
    clear hK2
    refine wp_seq' fun K13 hK13 => ?_
    refine wp_reg ?_
    refine ol_r (r_move rfl) rfl ?_
    refine ol_r (r_lens rfl st9) rfl ?_
    refine ol_r (r_geq rfl rfl) rfl ?_
    refine ol_r (r_move rfl) rfl ?_
    refine ol_split (d := 51) rfl (fun hs51 => ?_) (fun hs51 => ?_)
    ·have phs51 := hs51; try simp only [decide_eq_true_eq, decide_eq_false_iff_not, Bool.not_eq_true', Bool.not_eq_false', Bool.not_true, Bool.not_false] at phs51
     refine ol_g rfl rfl hs51 ?_
     refine ol_r (r_move rfl) rfl ?_
     refine ol_g rfl rfl hs51 ?_
     refine ol_r (r_lens rfl st9) rfl ?_
     refine ol_g rfl rfl hs51 ?_
     refine ol_r (r_leq rfl rfl) rfl ?_
     refine ol_r (r_pickT rfl hs51 rfl) rfl ?_
     refine ol_r (r_assign rfl) rfl ?_
     refine ol_nil (to_k0 (fun _ _ h => h) (hK13 _ _ _ _ _ ?_))
     clear hK13
     refine hQ.ret (rvs1 (rv_t rfl)) (fun _ _ h => h) fun w hb hs hB hkd => ?_
     first
       | (refine ⟨?_, hb⟩
          have h1 : bytesAll nameC q = true := bytesAll_iff.2 fun i hi => hP i (by omega)
          unfold nameB
          rw [h1]
          congr 2
          simp only [Bool.true_and]
          first
            | (rw [decide_eq_true (show 1 ≤ q.size by omega), Bool.true_and, decide_eq_decide]; omega)
            | (rw [decide_eq_false (show ¬1 ≤ q.size by omega)]; rfl))
    ·have phs51 := hs51; try simp only [decide_eq_true_eq, decide_eq_false_iff_not, Bool.not_eq_true', Bool.not_eq_false', Bool.not_true, Bool.not_false] at phs51
     refine ol_s rfl rfl hs51 rfl ?_
     refine ol_s rfl rfl hs51 rfl ?_
     refine ol_s rfl rfl hs51 rfl ?_
     refine ol_r (r_pickF rfl hs51 rfl) rfl ?_
     refine ol_r (r_assign rfl) rfl ?_
     refine ol_nil (to_k0 (fun _ _ h => h) (hK13 _ _ _ _ _ ?_))
     clear hK13
     refine hQ.ret (rvs1 (rv_t rfl)) (fun _ _ h => h) fun w hb hs hB hkd => ?_
     first
       | (refine ⟨?_, hb⟩
          have h1 : bytesAll nameC q = true := bytesAll_iff.2 fun i hi => hP i (by omega)
          unfold nameB
          rw [h1]
          congr 2
          simp only [Bool.true_and]
          first
            | (rw [decide_eq_true (show 1 ≤ q.size by omega), Bool.true_and, decide_eq_decide]; omega)
            | (rw [decide_eq_false (show ¬1 ≤ q.size by omega)]; rfl))
theorem ref2_IsName (q : ByteArray) (w : World) (hq0 : q.size ≤ 9223372036854775807) : Calls Try.prog 97 #[.string q] w fun e w' => e = .returned (.bool (nameB q)) ∧ Below w.heap.size w w' := by
  refine enterQ (N := 57) (C := fun _ => True) (H := []) (B := w.heap.size) (args := [_]) Try.func97 rfl rfl rfl (Nat.le_refl _) (Sat.nil _ _) fun Q hQ => ?_
  refine wp_seq' fun K1 hK1 => ?_
  refine wp_reg ?_
  refine ol_r (r_assign rfl) rfl ?_
  refine ol_nil (to_k0 (fun _ _ h => h) (hK1 _ _ _ _ _ ?_))
  clear hK1
  refine wp_seq' fun K2 hK2 => ?_
  refine wp_seq' fun K3 hK3 => ?_
  refine wp_reg ?_
  refine ol_r (r_assign rfl) rfl ?_
  refine ol_nil (to_k0 (fun _ _ h => h) (hK3 _ _ _ _ _ ?_))
  clear hK3
  refine wp_block' ?_
  apply wp_loopM (σ := Nat) (fun s => s ≤ q.size ∧ ∀ i, i < s → nameC (byteAt q i) = true) (fun s => [(3, .int .i64 s)]) [(0, _)] (fun s => []) [] (fun s => q.size - s) (0)
  ·try dsimp only
   exact ⟨Nat.zero_le _, fun i h => by omega⟩
  ·exact (sub_cons rfl sub_nil)
  ·exact (sub_cons rfl sub_nil)
  ·exact subH_nil
  ·exact subH_nil
  ·rintro k ⟨hk, hP⟩
   intro K4 hK4
   refine wp_seq' fun K5 hK5 => ?_
   refine wp_seq' fun K6 hK6 => ?_
   refine wp_reg ?_
   refine ol_r (r_move rfl) rfl ?_
   refine ol_r (r_move rfl) rfl ?_
   refine ol_r (r_lens rfl st9) rfl ?_
   refine ol_r (r_lss rfl rfl) rfl ?_
   refine ol_nil (to_k0 (fun _ _ h => h) (hK6 _ _ _ _ _ ?_))
   clear hK6
   refine wp_condD rfl (fun hc8 => ?_) (fun hc8 => ?_)
   ·refine wp_skip' (to_k0 (fun _ _ h => h) (hK5 _ _ _ _ _ ?_))
    clear hK5
    refine wp_seq' fun K7 hK7 => ?_
    refine wp_block' ?_
    refine wp_seq' fun K8 hK8 => ?_
    refine wp_reg ?_
    refine ol_r (r_move rfl) rfl ?_
    refine ol_r (r_move rfl) rfl ?_
    refine ol_r (r_sidx rfl rfl st9 (by omega)) rfl ?_
    try simp only [Int.toNat_natCast]
    refine ol_r (r_assign rfl) rfl ?_
    refine ol_nil (to_k0 (fun _ _ h => h) (hK8 _ _ _ _ _ ?_))
    clear hK8
    apply wp_seq_cutM (σ := Bool) (fun s => s = !nameC (byteAt q k)) (fun s => [(48, .bool s)]) [(0, _), (3, _)] (fun s => []) []
    ·exact (sub_cons rfl (sub_cons rfl sub_nil))
    ·exact subH_nil
    ·intro K9 hK9
     refine wp_reg ?_
     refine ol_r (r_move rfl) rfl ?_
     refine ol_r (r_geq rfl rfl) rfl ?_
     refine ol_r (r_move rfl) rfl ?_
     refine ol_split (d := 16) rfl (fun hs16 => ?_) (fun hs16 => ?_)
     ·have phs16 := hs16; try simp only [decide_eq_true_eq, decide_eq_false_iff_not, Bool.not_eq_true', Bool.not_eq_false', Bool.not_true, Bool.not_false] at phs16
      refine ol_g rfl rfl hs16 ?_
      refine ol_r (r_move rfl) rfl ?_
      refine ol_g rfl rfl hs16 ?_
      refine ol_r (r_leq rfl rfl) rfl ?_
      refine ol_r (r_pickT rfl hs16 rfl) rfl ?_
      refine ol_r (r_move rfl) rfl ?_
      refine ol_split (d := 20) rfl (fun hs20 => ?_) (fun hs20 => ?_)
      ·have phs20 := hs20; try simp only [decide_eq_true_eq, decide_eq_false_iff_not, Bool.not_eq_true', Bool.not_eq_false', Bool.not_true, Bool.not_false] at phs20
       refine ol_s rfl rfl hs20 rfl ?_
       refine ol_s rfl rfl hs20 rfl ?_
       refine ol_s rfl rfl hs20 rfl ?_
       refine ol_u rfl rfl rfl ?_
       refine ol_u rfl rfl rfl ?_
       refine ol_s rfl rfl hs20 rfl ?_
       refine ol_r (r_pickT rfl hs20 rfl) rfl ?_
       refine ol_r (r_move rfl) rfl ?_
       refine ol_s rfl rfl rfl rfl ?_
       refine ol_s rfl rfl rfl rfl ?_
       refine ol_s rfl rfl rfl rfl ?_
       refine ol_u rfl rfl rfl ?_
       refine ol_u rfl rfl rfl ?_
       refine ol_s rfl rfl rfl rfl ?_
       refine ol_r (r_pickT rfl rfl rfl) rfl ?_
       refine ol_r (r_move rfl) rfl ?_
       refine ol_s rfl rfl rfl rfl ?_
       refine ol_s rfl rfl rfl rfl ?_
       refine ol_r (r_pickT rfl rfl rfl) rfl ?_
       refine ol_r (r_move rfl) rfl ?_
       refine ol_s rfl rfl rfl rfl ?_
       refine ol_s rfl rfl rfl rfl ?_
       refine ol_r (r_pickT rfl rfl rfl) rfl ?_
       refine ol_r (r_move rfl) rfl ?_
       refine ol_s rfl rfl rfl rfl ?_
       refine ol_s rfl rfl rfl rfl ?_
       refine ol_r (r_pickT rfl rfl rfl) rfl ?_
       refine ol_r (r_not rfl) rfl ?_
       refine ol_nil (to_k0 (fun _ _ h => h) (hK9 (_) _ _ ?_ (sub_cons rfl sub_nil) (sub_cons rfl (sub_cons rfl sub_nil)) subH_nil subH_nil))
       try dsimp only
       first
       | exact nn_f (by omega)
      ·have phs20 := hs20; try simp only [decide_eq_true_eq, decide_eq_false_iff_not, Bool.not_eq_true', Bool.not_eq_false', Bool.not_true, Bool.not_false] at phs20
       refine ol_g rfl rfl hs20 ?_
       refine ol_r (r_move rfl) rfl ?_
       refine ol_g rfl rfl hs20 ?_
       refine ol_r (r_geq rfl rfl) rfl ?_
       refine ol_g rfl rfl hs20 ?_
       refine ol_r (r_move rfl) rfl ?_
       refine ol_split (d := 23) rfl (fun hs23 => ?_) (fun hs23 => ?_)
       ·have phs23 := hs23; try simp only [decide_eq_true_eq, decide_eq_false_iff_not, Bool.not_eq_true', Bool.not_eq_false', Bool.not_true, Bool.not_false] at phs23
        refine ol_g rfl rfl hs23 ?_
        refine ol_r (r_move rfl) rfl ?_
        refine ol_g rfl rfl hs23 ?_
        refine ol_r (r_leq rfl rfl) rfl ?_
        refine ol_g rfl rfl hs20 ?_
        refine ol_r (r_pickT rfl hs23 rfl) rfl ?_
        refine ol_r (r_pickF rfl hs20 rfl) rfl ?_
        refine ol_r (r_move rfl) rfl ?_
        refine ol_split (d := 28) rfl (fun hs28 => ?_) (fun hs28 => ?_)
        ·have phs28 := hs28; try simp only [decide_eq_true_eq, decide_eq_false_iff_not, Bool.not_eq_true', Bool.not_eq_false', Bool.not_true, Bool.not_false] at phs28
         refine ol_s rfl rfl hs28 rfl ?_
         refine ol_s rfl rfl hs28 rfl ?_
         refine ol_s rfl rfl hs28 rfl ?_
         refine ol_u rfl rfl rfl ?_
         refine ol_u rfl rfl rfl ?_
         refine ol_s rfl rfl hs28 rfl ?_
         refine ol_r (r_pickT rfl hs28 rfl) rfl ?_
         refine ol_r (r_move rfl) rfl ?_
         refine ol_s rfl rfl rfl rfl ?_
         refine ol_s rfl rfl rfl rfl ?_
         refine ol_r (r_pickT rfl rfl rfl) rfl ?_
         refine ol_r (r_move rfl) rfl ?_
         refine ol_s rfl rfl rfl rfl ?_
         refine ol_s rfl rfl rfl rfl ?_
         refine ol_r (r_pickT rfl rfl rfl) rfl ?_
         refine ol_r (r_move rfl) rfl ?_
         refine ol_s rfl rfl rfl rfl ?_
         refine ol_s rfl rfl rfl rfl ?_
         refine ol_r (r_pickT rfl rfl rfl) rfl ?_
         refine ol_r (r_not rfl) rfl ?_
         refine ol_nil (to_k0 (fun _ _ h => h) (hK9 (_) _ _ ?_ (sub_cons rfl sub_nil) (sub_cons rfl (sub_cons rfl sub_nil)) subH_nil subH_nil))
         try dsimp only
         first
         | exact nn_f (by omega)
        ·have phs28 := hs28; try simp only [decide_eq_true_eq, decide_eq_false_iff_not, Bool.not_eq_true', Bool.not_eq_false', Bool.not_true, Bool.not_false] at phs28
         refine ol_g rfl rfl hs28 ?_
         refine ol_r (r_move rfl) rfl ?_
         refine ol_g rfl rfl hs28 ?_
         refine ol_r (r_geq rfl rfl) rfl ?_
         refine ol_g rfl rfl hs28 ?_
         refine ol_r (r_move rfl) rfl ?_
         refine ol_split (d := 31) rfl (fun hs31 => ?_) (fun hs31 => ?_)
         ·have phs31 := hs31; try simp only [decide_eq_true_eq, decide_eq_false_iff_not, Bool.not_eq_true', Bool.not_eq_false', Bool.not_true, Bool.not_false] at phs31
          refine ol_g rfl rfl hs31 ?_
          refine ol_r (r_move rfl) rfl ?_
          refine ol_g rfl rfl hs31 ?_
          refine ol_r (r_leq rfl rfl) rfl ?_
          refine ol_g rfl rfl hs28 ?_
          refine ol_r (r_pickT rfl hs31 rfl) rfl ?_
          refine ol_r (r_pickF rfl hs28 rfl) rfl ?_
          refine ol_r (r_move rfl) rfl ?_
          refine ol_split (d := 36) rfl (fun hs36 => ?_) (fun hs36 => ?_)
          ·have phs36 := hs36; try simp only [decide_eq_true_eq, decide_eq_false_iff_not, Bool.not_eq_true', Bool.not_eq_false', Bool.not_true, Bool.not_false] at phs36
           refine ol_s rfl rfl hs36 rfl ?_
           refine ol_s rfl rfl hs36 rfl ?_
           refine ol_r (r_pickT rfl hs36 rfl) rfl ?_
           refine ol_r (r_move rfl) rfl ?_
           refine ol_s rfl rfl rfl rfl ?_
           refine ol_s rfl rfl rfl rfl ?_
           refine ol_r (r_pickT rfl rfl rfl) rfl ?_
           refine ol_r (r_move rfl) rfl ?_
           refine ol_s rfl rfl rfl rfl ?_
           refine ol_s rfl rfl rfl rfl ?_
           refine ol_r (r_pickT rfl rfl rfl) rfl ?_
           refine ol_r (r_not rfl) rfl ?_
           refine ol_nil (to_k0 (fun _ _ h => h) (hK9 (_) _ _ ?_ (sub_cons rfl sub_nil) (sub_cons rfl (sub_cons rfl sub_nil)) subH_nil subH_nil))
           try dsimp only
           first
           | exact nn_f (by omega)
          ·have phs36 := hs36; try simp only [decide_eq_true_eq, decide_eq_false_iff_not, Bool.not_eq_true', Bool.not_eq_false', Bool.not_true, Bool.not_false] at phs36
           refine ol_g rfl rfl hs36 ?_
           refine ol_r (r_move rfl) rfl ?_
           refine ol_g rfl rfl hs36 ?_
           refine ol_r (r_eql rfl rfl) rfl ?_
           refine ol_r (r_pickF rfl hs36 rfl) rfl ?_
           refine ol_r (r_move rfl) rfl ?_
           refine ol_split (d := 40) rfl (fun hs40 => ?_) (fun hs40 => ?_)
           ·have phs40 := hs40; try simp only [decide_eq_true_eq, decide_eq_false_iff_not, Bool.not_eq_true', Bool.not_eq_false', Bool.not_true, Bool.not_false] at phs40
            refine ol_s rfl rfl hs40 rfl ?_
            refine ol_s rfl rfl hs40 rfl ?_
            refine ol_r (r_pickT rfl hs40 rfl) rfl ?_
            refine ol_r (r_move rfl) rfl ?_
            refine ol_s rfl rfl rfl rfl ?_
            refine ol_s rfl rfl rfl rfl ?_
            refine ol_r (r_pickT rfl rfl rfl) rfl ?_
            refine ol_r (r_not rfl) rfl ?_
            refine ol_nil (to_k0 (fun _ _ h => h) (hK9 (_) _ _ ?_ (sub_cons rfl sub_nil) (sub_cons rfl (sub_cons rfl sub_nil)) subH_nil subH_nil))
            try dsimp only
            first
            | exact nn_f (by omega)
           ·have phs40 := hs40; try simp only [decide_eq_true_eq, decide_eq_false_iff_not, Bool.not_eq_true', Bool.not_eq_false', Bool.not_true, Bool.not_false] at phs40
            refine ol_g rfl rfl hs40 ?_
            refine ol_r (r_move rfl) rfl ?_
            refine ol_g rfl rfl hs40 ?_
            refine ol_r (r_eql rfl rfl) rfl ?_
            refine ol_r (r_pickF rfl hs40 rfl) rfl ?_
            refine ol_r (r_move rfl) rfl ?_
            refine ol_split (d := 44) rfl (fun hs44 => ?_) (fun hs44 => ?_)
            ·have phs44 := hs44; try simp only [decide_eq_true_eq, decide_eq_false_iff_not, Bool.not_eq_true', Bool.not_eq_false', Bool.not_true, Bool.not_false] at phs44
             refine ol_s rfl rfl hs44 rfl ?_
             refine ol_s rfl rfl hs44 rfl ?_
             refine ol_r (r_pickT rfl hs44 rfl) rfl ?_
             refine ol_r (r_not rfl) rfl ?_
             refine ol_nil (to_k0 (fun _ _ h => h) (hK9 (_) _ _ ?_ (sub_cons rfl sub_nil) (sub_cons rfl (sub_cons rfl sub_nil)) subH_nil subH_nil))
             try dsimp only
             first
             | exact nn_f (by omega)
            ·have phs44 := hs44; try simp only [decide_eq_true_eq, decide_eq_false_iff_not, Bool.not_eq_true', Bool.not_eq_false', Bool.not_true, Bool.not_false] at phs44
             refine ol_g rfl rfl hs44 ?_
             refine ol_r (r_move rfl) rfl ?_
             refine ol_g rfl rfl hs44 ?_
             refine ol_r (r_eql rfl rfl) rfl ?_
             refine ol_r (r_pickF rfl hs44 rfl) rfl ?_
             refine ol_r (r_not rfl) rfl ?_
             refine ol_nil (to_k0 (fun _ _ h => h) (hK9 (_) _ _ ?_ (sub_cons rfl sub_nil) (sub_cons rfl (sub_cons rfl sub_nil)) subH_nil subH_nil))
             try dsimp only
             first
             | exact nn_e (by omega)
         ·have phs31 := hs31; try simp only [decide_eq_true_eq, decide_eq_false_iff_not, Bool.not_eq_true', Bool.not_eq_false', Bool.not_true, Bool.not_false] at phs31
          refine ol_s rfl rfl hs31 rfl ?_
          refine ol_s rfl rfl hs31 rfl ?_
          refine ol_g rfl rfl hs28 ?_
          refine ol_r (r_pickF rfl hs31 rfl) rfl ?_
          refine ol_r (r_pickF rfl hs28 rfl) rfl ?_
          refine ol_r (r_move rfl) rfl ?_
          refine ol_g rfl rfl rfl ?_
          refine ol_r (r_move rfl) rfl ?_
          refine ol_g rfl rfl rfl ?_
          refine ol_r (r_eql rfl rfl) rfl ?_
          refine ol_r (r_pickF rfl rfl rfl) rfl ?_
          refine ol_r (r_move rfl) rfl ?_
          refine ol_split (d := 40) rfl (fun hs40 => ?_) (fun hs40 => ?_)
          ·have phs40 := hs40; try simp only [decide_eq_true_eq, decide_eq_false_iff_not, Bool.not_eq_true', Bool.not_eq_false', Bool.not_true, Bool.not_false] at phs40
           refine ol_s rfl rfl hs40 rfl ?_
           refine ol_s rfl rfl hs40 rfl ?_
           refine ol_r (r_pickT rfl hs40 rfl) rfl ?_
           refine ol_r (r_move rfl) rfl ?_
           refine ol_s rfl rfl rfl rfl ?_
           refine ol_s rfl rfl rfl rfl ?_
           refine ol_r (r_pickT rfl rfl rfl) rfl ?_
           refine ol_r (r_not rfl) rfl ?_
           refine ol_nil (to_k0 (fun _ _ h => h) (hK9 (_) _ _ ?_ (sub_cons rfl sub_nil) (sub_cons rfl (sub_cons rfl sub_nil)) subH_nil subH_nil))
           try dsimp only
           first
           | exact nn_f (by omega)
          ·have phs40 := hs40; try simp only [decide_eq_true_eq, decide_eq_false_iff_not, Bool.not_eq_true', Bool.not_eq_false', Bool.not_true, Bool.not_false] at phs40
           refine ol_g rfl rfl hs40 ?_
           refine ol_r (r_move rfl) rfl ?_
           refine ol_g rfl rfl hs40 ?_
           refine ol_r (r_eql rfl rfl) rfl ?_
           refine ol_r (r_pickF rfl hs40 rfl) rfl ?_
           refine ol_r (r_move rfl) rfl ?_
           refine ol_split (d := 44) rfl (fun hs44 => ?_) (fun hs44 => ?_)
           ·have phs44 := hs44; try simp only [decide_eq_true_eq, decide_eq_false_iff_not, Bool.not_eq_true', Bool.not_eq_false', Bool.not_true, Bool.not_false] at phs44
            refine ol_s rfl rfl hs44 rfl ?_
            refine ol_s rfl rfl hs44 rfl ?_
            refine ol_r (r_pickT rfl hs44 rfl) rfl ?_
            refine ol_r (r_not rfl) rfl ?_
            refine ol_nil (to_k0 (fun _ _ h => h) (hK9 (_) _ _ ?_ (sub_cons rfl sub_nil) (sub_cons rfl (sub_cons rfl sub_nil)) subH_nil subH_nil))
            try dsimp only
            first
            | exact nn_f (by omega)
           ·have phs44 := hs44; try simp only [decide_eq_true_eq, decide_eq_false_iff_not, Bool.not_eq_true', Bool.not_eq_false', Bool.not_true, Bool.not_false] at phs44
            refine ol_g rfl rfl hs44 ?_
            refine ol_r (r_move rfl) rfl ?_
            refine ol_g rfl rfl hs44 ?_
            refine ol_r (r_eql rfl rfl) rfl ?_
            refine ol_r (r_pickF rfl hs44 rfl) rfl ?_
            refine ol_r (r_not rfl) rfl ?_
            refine ol_nil (to_k0 (fun _ _ h => h) (hK9 (_) _ _ ?_ (sub_cons rfl sub_nil) (sub_cons rfl (sub_cons rfl sub_nil)) subH_nil subH_nil))
            try dsimp only
            first
            | exact nn_e (by omega)
       ·have phs23 := hs23; try simp only [decide_eq_true_eq, decide_eq_false_iff_not, Bool.not_eq_true', Bool.not_eq_false', Bool.not_true, Bool.not_false] at phs23
        refine ol_s rfl rfl hs23 rfl ?_
        refine ol_s rfl rfl hs23 rfl ?_
        refine ol_g rfl rfl hs20 ?_
        refine ol_r (r_pickF rfl hs23 rfl) rfl ?_
        refine ol_r (r_pickF rfl hs20 rfl) rfl ?_
        refine ol_r (r_move rfl) rfl ?_
        refine ol_g rfl rfl rfl ?_
        refine ol_r (r_move rfl) rfl ?_
        refine ol_g rfl rfl rfl ?_
        refine ol_r (r_geq rfl rfl) rfl ?_
        refine ol_g rfl rfl rfl ?_
        refine ol_r (r_move rfl) rfl ?_
        refine ol_split (d := 31) rfl (fun hs31 => ?_) (fun hs31 => ?_)
        ·have phs31 := hs31; try simp only [decide_eq_true_eq, decide_eq_false_iff_not, Bool.not_eq_true', Bool.not_eq_false', Bool.not_true, Bool.not_false] at phs31
         refine ol_g rfl rfl hs31 ?_
         refine ol_r (r_move rfl) rfl ?_
         refine ol_g rfl rfl hs31 ?_
         refine ol_r (r_leq rfl rfl) rfl ?_
         refine ol_g rfl rfl rfl ?_
         refine ol_r (r_pickT rfl hs31 rfl) rfl ?_
         refine ol_r (r_pickF rfl rfl rfl) rfl ?_
         refine ol_r (r_move rfl) rfl ?_
         refine ol_split (d := 36) rfl (fun hs36 => ?_) (fun hs36 => ?_)
         ·have phs36 := hs36; try simp only [decide_eq_true_eq, decide_eq_false_iff_not, Bool.not_eq_true', Bool.not_eq_false', Bool.not_true, Bool.not_false] at phs36
          refine ol_s rfl rfl hs36 rfl ?_
          refine ol_s rfl rfl hs36 rfl ?_
          refine ol_r (r_pickT rfl hs36 rfl) rfl ?_
          refine ol_r (r_move rfl) rfl ?_
          refine ol_s rfl rfl rfl rfl ?_
          refine ol_s rfl rfl rfl rfl ?_
          refine ol_r (r_pickT rfl rfl rfl) rfl ?_
          refine ol_r (r_move rfl) rfl ?_
          refine ol_s rfl rfl rfl rfl ?_
          refine ol_s rfl rfl rfl rfl ?_
          refine ol_r (r_pickT rfl rfl rfl) rfl ?_
          refine ol_r (r_not rfl) rfl ?_
          refine ol_nil (to_k0 (fun _ _ h => h) (hK9 (_) _ _ ?_ (sub_cons rfl sub_nil) (sub_cons rfl (sub_cons rfl sub_nil)) subH_nil subH_nil))
          try dsimp only
          first
          | exact nn_f (by omega)
         ·have phs36 := hs36; try simp only [decide_eq_true_eq, decide_eq_false_iff_not, Bool.not_eq_true', Bool.not_eq_false', Bool.not_true, Bool.not_false] at phs36
          refine ol_g rfl rfl hs36 ?_
          refine ol_r (r_move rfl) rfl ?_
          refine ol_g rfl rfl hs36 ?_
          refine ol_r (r_eql rfl rfl) rfl ?_
          refine ol_r (r_pickF rfl hs36 rfl) rfl ?_
          refine ol_r (r_move rfl) rfl ?_
          refine ol_split (d := 40) rfl (fun hs40 => ?_) (fun hs40 => ?_)
          ·have phs40 := hs40; try simp only [decide_eq_true_eq, decide_eq_false_iff_not, Bool.not_eq_true', Bool.not_eq_false', Bool.not_true, Bool.not_false] at phs40
           refine ol_s rfl rfl hs40 rfl ?_
           refine ol_s rfl rfl hs40 rfl ?_
           refine ol_r (r_pickT rfl hs40 rfl) rfl ?_
           refine ol_r (r_move rfl) rfl ?_
           refine ol_s rfl rfl rfl rfl ?_
           refine ol_s rfl rfl rfl rfl ?_
           refine ol_r (r_pickT rfl rfl rfl) rfl ?_
           refine ol_r (r_not rfl) rfl ?_
           refine ol_nil (to_k0 (fun _ _ h => h) (hK9 (_) _ _ ?_ (sub_cons rfl sub_nil) (sub_cons rfl (sub_cons rfl sub_nil)) subH_nil subH_nil))
           try dsimp only
           first
           | exact nn_f (by omega)
          ·have phs40 := hs40; try simp only [decide_eq_true_eq, decide_eq_false_iff_not, Bool.not_eq_true', Bool.not_eq_false', Bool.not_true, Bool.not_false] at phs40
           refine ol_g rfl rfl hs40 ?_
           refine ol_r (r_move rfl) rfl ?_
           refine ol_g rfl rfl hs40 ?_
           refine ol_r (r_eql rfl rfl) rfl ?_
           refine ol_r (r_pickF rfl hs40 rfl) rfl ?_
           refine ol_r (r_move rfl) rfl ?_
           refine ol_split (d := 44) rfl (fun hs44 => ?_) (fun hs44 => ?_)
           ·have phs44 := hs44; try simp only [decide_eq_true_eq, decide_eq_false_iff_not, Bool.not_eq_true', Bool.not_eq_false', Bool.not_true, Bool.not_false] at phs44
            refine ol_s rfl rfl hs44 rfl ?_
            refine ol_s rfl rfl hs44 rfl ?_
            refine ol_r (r_pickT rfl hs44 rfl) rfl ?_
            refine ol_r (r_not rfl) rfl ?_
            refine ol_nil (to_k0 (fun _ _ h => h) (hK9 (_) _ _ ?_ (sub_cons rfl sub_nil) (sub_cons rfl (sub_cons rfl sub_nil)) subH_nil subH_nil))
            try dsimp only
            first
            | exact nn_f (by omega)
           ·have phs44 := hs44; try simp only [decide_eq_true_eq, decide_eq_false_iff_not, Bool.not_eq_true', Bool.not_eq_false', Bool.not_true, Bool.not_false] at phs44
            refine ol_g rfl rfl hs44 ?_
            refine ol_r (r_move rfl) rfl ?_
            refine ol_g rfl rfl hs44 ?_
            refine ol_r (r_eql rfl rfl) rfl ?_
            refine ol_r (r_pickF rfl hs44 rfl) rfl ?_
            refine ol_r (r_not rfl) rfl ?_
            refine ol_nil (to_k0 (fun _ _ h => h) (hK9 (_) _ _ ?_ (sub_cons rfl sub_nil) (sub_cons rfl (sub_cons rfl sub_nil)) subH_nil subH_nil))
            try dsimp only
            first
            | exact nn_e (by omega)
        ·have phs31 := hs31; try simp only [decide_eq_true_eq, decide_eq_false_iff_not, Bool.not_eq_true', Bool.not_eq_false', Bool.not_true, Bool.not_false] at phs31
         refine ol_s rfl rfl hs31 rfl ?_
         refine ol_s rfl rfl hs31 rfl ?_
         refine ol_g rfl rfl rfl ?_
         refine ol_r (r_pickF rfl hs31 rfl) rfl ?_
         refine ol_r (r_pickF rfl rfl rfl) rfl ?_
         refine ol_r (r_move rfl) rfl ?_
         refine ol_g rfl rfl rfl ?_
         refine ol_r (r_move rfl) rfl ?_
         refine ol_g rfl rfl rfl ?_
         refine ol_r (r_eql rfl rfl) rfl ?_
         refine ol_r (r_pickF rfl rfl rfl) rfl ?_
         refine ol_r (r_move rfl) rfl ?_
         refine ol_split (d := 40) rfl (fun hs40 => ?_) (fun hs40 => ?_)
         ·have phs40 := hs40; try simp only [decide_eq_true_eq, decide_eq_false_iff_not, Bool.not_eq_true', Bool.not_eq_false', Bool.not_true, Bool.not_false] at phs40
          refine ol_s rfl rfl hs40 rfl ?_
          refine ol_s rfl rfl hs40 rfl ?_
          refine ol_r (r_pickT rfl hs40 rfl) rfl ?_
          refine ol_r (r_move rfl) rfl ?_
          refine ol_s rfl rfl rfl rfl ?_
          refine ol_s rfl rfl rfl rfl ?_
          refine ol_r (r_pickT rfl rfl rfl) rfl ?_
          refine ol_r (r_not rfl) rfl ?_
          refine ol_nil (to_k0 (fun _ _ h => h) (hK9 (_) _ _ ?_ (sub_cons rfl sub_nil) (sub_cons rfl (sub_cons rfl sub_nil)) subH_nil subH_nil))
          try dsimp only
          first
          | exact nn_f (by omega)
         ·have phs40 := hs40; try simp only [decide_eq_true_eq, decide_eq_false_iff_not, Bool.not_eq_true', Bool.not_eq_false', Bool.not_true, Bool.not_false] at phs40
          refine ol_g rfl rfl hs40 ?_
          refine ol_r (r_move rfl) rfl ?_
          refine ol_g rfl rfl hs40 ?_
          refine ol_r (r_eql rfl rfl) rfl ?_
          refine ol_r (r_pickF rfl hs40 rfl) rfl ?_
          refine ol_r (r_move rfl) rfl ?_
          refine ol_split (d := 44) rfl (fun hs44 => ?_) (fun hs44 => ?_)
          ·have phs44 := hs44; try simp only [decide_eq_true_eq, decide_eq_false_iff_not, Bool.not_eq_true', Bool.not_eq_false', Bool.not_true, Bool.not_false] at phs44
           refine ol_s rfl rfl hs44 rfl ?_
           refine ol_s rfl rfl hs44 rfl ?_
           refine ol_r (r_pickT rfl hs44 rfl) rfl ?_
           refine ol_r (r_not rfl) rfl ?_
           refine ol_nil (to_k0 (fun _ _ h => h) (hK9 (_) _ _ ?_ (sub_cons rfl sub_nil) (sub_cons rfl (sub_cons rfl sub_nil)) subH_nil subH_nil))
           try dsimp only
           first
           | exact nn_f (by omega)
          ·have phs44 := hs44; try simp only [decide_eq_true_eq, decide_eq_false_iff_not, Bool.not_eq_true', Bool.not_eq_false', Bool.not_true, Bool.not_false] at phs44
           refine ol_g rfl rfl hs44 ?_
           refine ol_r (r_move rfl) rfl ?_
           refine ol_g rfl rfl hs44 ?_
           refine ol_r (r_eql rfl rfl) rfl ?_
           refine ol_r (r_pickF rfl hs44 rfl) rfl ?_
           refine ol_r (r_not rfl) rfl ?_
           refine ol_nil (to_k0 (fun _ _ h => h) (hK9 (_) _ _ ?_ (sub_cons rfl sub_nil) (sub_cons rfl (sub_cons rfl sub_nil)) subH_nil subH_nil))
           try dsimp only
           first
           | exact nn_e (by omega)
     ·have phs16 := hs16; try simp only [decide_eq_true_eq, decide_eq_false_iff_not, Bool.not_eq_true', Bool.not_eq_false', Bool.not_true, Bool.not_false] at phs16
      refine ol_s rfl rfl hs16 rfl ?_
      refine ol_s rfl rfl hs16 rfl ?_
      refine ol_r (r_pickF rfl hs16 rfl) rfl ?_
      refine ol_r (r_move rfl) rfl ?_
      refine ol_g rfl rfl rfl ?_
      refine ol_r (r_move rfl) rfl ?_
      refine ol_g rfl rfl rfl ?_
      refine ol_r (r_geq rfl rfl) rfl ?_
      refine ol_g rfl rfl rfl ?_
      refine ol_r (r_move rfl) rfl ?_
      refine ol_split (d := 23) rfl (fun hs23 => ?_) (fun hs23 => ?_)
      ·have phs23 := hs23; try simp only [decide_eq_true_eq, decide_eq_false_iff_not, Bool.not_eq_true', Bool.not_eq_false', Bool.not_true, Bool.not_false] at phs23
       refine ol_g rfl rfl hs23 ?_
       refine ol_r (r_move rfl) rfl ?_
       refine ol_g rfl rfl hs23 ?_
       refine ol_r (r_leq rfl rfl) rfl ?_
       refine ol_g rfl rfl rfl ?_
       refine ol_r (r_pickT rfl hs23 rfl) rfl ?_
       refine ol_r (r_pickF rfl rfl rfl) rfl ?_
       refine ol_r (r_move rfl) rfl ?_
       refine ol_split (d := 28) rfl (fun hs28 => ?_) (fun hs28 => ?_)
       ·have phs28 := hs28; try simp only [decide_eq_true_eq, decide_eq_false_iff_not, Bool.not_eq_true', Bool.not_eq_false', Bool.not_true, Bool.not_false] at phs28
        refine ol_s rfl rfl hs28 rfl ?_
        refine ol_s rfl rfl hs28 rfl ?_
        refine ol_s rfl rfl hs28 rfl ?_
        refine ol_u rfl rfl rfl ?_
        refine ol_u rfl rfl rfl ?_
        refine ol_s rfl rfl hs28 rfl ?_
        refine ol_r (r_pickT rfl hs28 rfl) rfl ?_
        refine ol_r (r_move rfl) rfl ?_
        refine ol_s rfl rfl rfl rfl ?_
        refine ol_s rfl rfl rfl rfl ?_
        refine ol_r (r_pickT rfl rfl rfl) rfl ?_
        refine ol_r (r_move rfl) rfl ?_
        refine ol_s rfl rfl rfl rfl ?_
        refine ol_s rfl rfl rfl rfl ?_
        refine ol_r (r_pickT rfl rfl rfl) rfl ?_
        refine ol_r (r_move rfl) rfl ?_
        refine ol_s rfl rfl rfl rfl ?_
        refine ol_s rfl rfl rfl rfl ?_
        refine ol_r (r_pickT rfl rfl rfl) rfl ?_
        refine ol_r (r_not rfl) rfl ?_
        refine ol_nil (to_k0 (fun _ _ h => h) (hK9 (_) _ _ ?_ (sub_cons rfl sub_nil) (sub_cons rfl (sub_cons rfl sub_nil)) subH_nil subH_nil))
        try dsimp only
        first
        | exact nn_f (by omega)
       ·have phs28 := hs28; try simp only [decide_eq_true_eq, decide_eq_false_iff_not, Bool.not_eq_true', Bool.not_eq_false', Bool.not_true, Bool.not_false] at phs28
        refine ol_g rfl rfl hs28 ?_
        refine ol_r (r_move rfl) rfl ?_
        refine ol_g rfl rfl hs28 ?_
        refine ol_r (r_geq rfl rfl) rfl ?_
        refine ol_g rfl rfl hs28 ?_
        refine ol_r (r_move rfl) rfl ?_
        refine ol_split (d := 31) rfl (fun hs31 => ?_) (fun hs31 => ?_)
        ·have phs31 := hs31; try simp only [decide_eq_true_eq, decide_eq_false_iff_not, Bool.not_eq_true', Bool.not_eq_false', Bool.not_true, Bool.not_false] at phs31
         refine ol_g rfl rfl hs31 ?_
         refine ol_r (r_move rfl) rfl ?_
         refine ol_g rfl rfl hs31 ?_
         refine ol_r (r_leq rfl rfl) rfl ?_
         refine ol_g rfl rfl hs28 ?_
         refine ol_r (r_pickT rfl hs31 rfl) rfl ?_
         refine ol_r (r_pickF rfl hs28 rfl) rfl ?_
         refine ol_r (r_move rfl) rfl ?_
         refine ol_split (d := 36) rfl (fun hs36 => ?_) (fun hs36 => ?_)
         ·have phs36 := hs36; try simp only [decide_eq_true_eq, decide_eq_false_iff_not, Bool.not_eq_true', Bool.not_eq_false', Bool.not_true, Bool.not_false] at phs36
          refine ol_s rfl rfl hs36 rfl ?_
          refine ol_s rfl rfl hs36 rfl ?_
          refine ol_r (r_pickT rfl hs36 rfl) rfl ?_
          refine ol_r (r_move rfl) rfl ?_
          refine ol_s rfl rfl rfl rfl ?_
          refine ol_s rfl rfl rfl rfl ?_
          refine ol_r (r_pickT rfl rfl rfl) rfl ?_
          refine ol_r (r_move rfl) rfl ?_
          refine ol_s rfl rfl rfl rfl ?_
          refine ol_s rfl rfl rfl rfl ?_
          refine ol_r (r_pickT rfl rfl rfl) rfl ?_
          refine ol_r (r_not rfl) rfl ?_
          refine ol_nil (to_k0 (fun _ _ h => h) (hK9 (_) _ _ ?_ (sub_cons rfl sub_nil) (sub_cons rfl (sub_cons rfl sub_nil)) subH_nil subH_nil))
          try dsimp only
          first
          | exact nn_f (by omega)
         ·have phs36 := hs36; try simp only [decide_eq_true_eq, decide_eq_false_iff_not, Bool.not_eq_true', Bool.not_eq_false', Bool.not_true, Bool.not_false] at phs36
          refine ol_g rfl rfl hs36 ?_
          refine ol_r (r_move rfl) rfl ?_
          refine ol_g rfl rfl hs36 ?_
          refine ol_r (r_eql rfl rfl) rfl ?_
          refine ol_r (r_pickF rfl hs36 rfl) rfl ?_
          refine ol_r (r_move rfl) rfl ?_
          refine ol_split (d := 40) rfl (fun hs40 => ?_) (fun hs40 => ?_)
          ·have phs40 := hs40; try simp only [decide_eq_true_eq, decide_eq_false_iff_not, Bool.not_eq_true', Bool.not_eq_false', Bool.not_true, Bool.not_false] at phs40
           refine ol_s rfl rfl hs40 rfl ?_
           refine ol_s rfl rfl hs40 rfl ?_
           refine ol_r (r_pickT rfl hs40 rfl) rfl ?_
           refine ol_r (r_move rfl) rfl ?_
           refine ol_s rfl rfl rfl rfl ?_
           refine ol_s rfl rfl rfl rfl ?_
           refine ol_r (r_pickT rfl rfl rfl) rfl ?_
           refine ol_r (r_not rfl) rfl ?_
           refine ol_nil (to_k0 (fun _ _ h => h) (hK9 (_) _ _ ?_ (sub_cons rfl sub_nil) (sub_cons rfl (sub_cons rfl sub_nil)) subH_nil subH_nil))
           try dsimp only
           first
           | exact nn_f (by omega)
          ·have phs40 := hs40; try simp only [decide_eq_true_eq, decide_eq_false_iff_not, Bool.not_eq_true', Bool.not_eq_false', Bool.not_true, Bool.not_false] at phs40
           refine ol_g rfl rfl hs40 ?_
           refine ol_r (r_move rfl) rfl ?_
           refine ol_g rfl rfl hs40 ?_
           refine ol_r (r_eql rfl rfl) rfl ?_
           refine ol_r (r_pickF rfl hs40 rfl) rfl ?_
           refine ol_r (r_move rfl) rfl ?_
           refine ol_split (d := 44) rfl (fun hs44 => ?_) (fun hs44 => ?_)
           ·have phs44 := hs44; try simp only [decide_eq_true_eq, decide_eq_false_iff_not, Bool.not_eq_true', Bool.not_eq_false', Bool.not_true, Bool.not_false] at phs44
            refine ol_s rfl rfl hs44 rfl ?_
            refine ol_s rfl rfl hs44 rfl ?_
            refine ol_r (r_pickT rfl hs44 rfl) rfl ?_
            refine ol_r (r_not rfl) rfl ?_
            refine ol_nil (to_k0 (fun _ _ h => h) (hK9 (_) _ _ ?_ (sub_cons rfl sub_nil) (sub_cons rfl (sub_cons rfl sub_nil)) subH_nil subH_nil))
            try dsimp only
            first
            | exact nn_f (by omega)
           ·have phs44 := hs44; try simp only [decide_eq_true_eq, decide_eq_false_iff_not, Bool.not_eq_true', Bool.not_eq_false', Bool.not_true, Bool.not_false] at phs44
            refine ol_g rfl rfl hs44 ?_
            refine ol_r (r_move rfl) rfl ?_
            refine ol_g rfl rfl hs44 ?_
            refine ol_r (r_eql rfl rfl) rfl ?_
            refine ol_r (r_pickF rfl hs44 rfl) rfl ?_
            refine ol_r (r_not rfl) rfl ?_
            refine ol_nil (to_k0 (fun _ _ h => h) (hK9 (_) _ _ ?_ (sub_cons rfl sub_nil) (sub_cons rfl (sub_cons rfl sub_nil)) subH_nil subH_nil))
            try dsimp only
            first
            | exact nn_e (by omega)
        ·have phs31 := hs31; try simp only [decide_eq_true_eq, decide_eq_false_iff_not, Bool.not_eq_true', Bool.not_eq_false', Bool.not_true, Bool.not_false] at phs31
         refine ol_s rfl rfl hs31 rfl ?_
         refine ol_s rfl rfl hs31 rfl ?_
         refine ol_g rfl rfl hs28 ?_
         refine ol_r (r_pickF rfl hs31 rfl) rfl ?_
         refine ol_r (r_pickF rfl hs28 rfl) rfl ?_
         refine ol_r (r_move rfl) rfl ?_
         refine ol_g rfl rfl rfl ?_
         refine ol_r (r_move rfl) rfl ?_
         refine ol_g rfl rfl rfl ?_
         refine ol_r (r_eql rfl rfl) rfl ?_
         refine ol_r (r_pickF rfl rfl rfl) rfl ?_
         refine ol_r (r_move rfl) rfl ?_
         refine ol_split (d := 40) rfl (fun hs40 => ?_) (fun hs40 => ?_)
         ·have phs40 := hs40; try simp only [decide_eq_true_eq, decide_eq_false_iff_not, Bool.not_eq_true', Bool.not_eq_false', Bool.not_true, Bool.not_false] at phs40
          refine ol_s rfl rfl hs40 rfl ?_
          refine ol_s rfl rfl hs40 rfl ?_
          refine ol_r (r_pickT rfl hs40 rfl) rfl ?_
          refine ol_r (r_move rfl) rfl ?_
          refine ol_s rfl rfl rfl rfl ?_
          refine ol_s rfl rfl rfl rfl ?_
          refine ol_r (r_pickT rfl rfl rfl) rfl ?_
          refine ol_r (r_not rfl) rfl ?_
          refine ol_nil (to_k0 (fun _ _ h => h) (hK9 (_) _ _ ?_ (sub_cons rfl sub_nil) (sub_cons rfl (sub_cons rfl sub_nil)) subH_nil subH_nil))
          try dsimp only
          first
          | exact nn_f (by omega)
         ·have phs40 := hs40; try simp only [decide_eq_true_eq, decide_eq_false_iff_not, Bool.not_eq_true', Bool.not_eq_false', Bool.not_true, Bool.not_false] at phs40
          refine ol_g rfl rfl hs40 ?_
          refine ol_r (r_move rfl) rfl ?_
          refine ol_g rfl rfl hs40 ?_
          refine ol_r (r_eql rfl rfl) rfl ?_
          refine ol_r (r_pickF rfl hs40 rfl) rfl ?_
          refine ol_r (r_move rfl) rfl ?_
          refine ol_split (d := 44) rfl (fun hs44 => ?_) (fun hs44 => ?_)
          ·have phs44 := hs44; try simp only [decide_eq_true_eq, decide_eq_false_iff_not, Bool.not_eq_true', Bool.not_eq_false', Bool.not_true, Bool.not_false] at phs44
           refine ol_s rfl rfl hs44 rfl ?_
           refine ol_s rfl rfl hs44 rfl ?_
           refine ol_r (r_pickT rfl hs44 rfl) rfl ?_
           refine ol_r (r_not rfl) rfl ?_
           refine ol_nil (to_k0 (fun _ _ h => h) (hK9 (_) _ _ ?_ (sub_cons rfl sub_nil) (sub_cons rfl (sub_cons rfl sub_nil)) subH_nil subH_nil))
           try dsimp only
           first
           | exact nn_f (by omega)
          ·have phs44 := hs44; try simp only [decide_eq_true_eq, decide_eq_false_iff_not, Bool.not_eq_true', Bool.not_eq_false', Bool.not_true, Bool.not_false] at phs44
           refine ol_g rfl rfl hs44 ?_
           refine ol_r (r_move rfl) rfl ?_
           refine ol_g rfl rfl hs44 ?_
           refine ol_r (r_eql rfl rfl) rfl ?_
           refine ol_r (r_pickF rfl hs44 rfl) rfl ?_
           refine ol_r (r_not rfl) rfl ?_
           refine ol_nil (to_k0 (fun _ _ h => h) (hK9 (_) _ _ ?_ (sub_cons rfl sub_nil) (sub_cons rfl (sub_cons rfl sub_nil)) subH_nil subH_nil))
           try dsimp only
           first
           | exact nn_e (by omega)
      ·have phs23 := hs23; try simp only [decide_eq_true_eq, decide_eq_false_iff_not, Bool.not_eq_true', Bool.not_eq_false', Bool.not_true, Bool.not_false] at phs23
       refine ol_s rfl rfl hs23 rfl ?_
       refine ol_s rfl rfl hs23 rfl ?_
       refine ol_g rfl rfl rfl ?_
       refine ol_r (r_pickF rfl hs23 rfl) rfl ?_
       refine ol_r (r_pickF rfl rfl rfl) rfl ?_
       refine ol_r (r_move rfl) rfl ?_
       refine ol_g rfl rfl rfl ?_
       refine ol_r (r_move rfl) rfl ?_
       refine ol_g rfl rfl rfl ?_
       refine ol_r (r_geq rfl rfl) rfl ?_
       refine ol_g rfl rfl rfl ?_
       refine ol_r (r_move rfl) rfl ?_
       refine ol_split (d := 31) rfl (fun hs31 => ?_) (fun hs31 => ?_)
       ·have phs31 := hs31; try simp only [decide_eq_true_eq, decide_eq_false_iff_not, Bool.not_eq_true', Bool.not_eq_false', Bool.not_true, Bool.not_false] at phs31
        refine ol_g rfl rfl hs31 ?_
        refine ol_r (r_move rfl) rfl ?_
        refine ol_g rfl rfl hs31 ?_
        refine ol_r (r_leq rfl rfl) rfl ?_
        refine ol_g rfl rfl rfl ?_
        refine ol_r (r_pickT rfl hs31 rfl) rfl ?_
        refine ol_r (r_pickF rfl rfl rfl) rfl ?_
        refine ol_r (r_move rfl) rfl ?_
        refine ol_split (d := 36) rfl (fun hs36 => ?_) (fun hs36 => ?_)
        ·have phs36 := hs36; try simp only [decide_eq_true_eq, decide_eq_false_iff_not, Bool.not_eq_true', Bool.not_eq_false', Bool.not_true, Bool.not_false] at phs36
         refine ol_s rfl rfl hs36 rfl ?_
         refine ol_s rfl rfl hs36 rfl ?_
         refine ol_r (r_pickT rfl hs36 rfl) rfl ?_
         refine ol_r (r_move rfl) rfl ?_
         refine ol_s rfl rfl rfl rfl ?_
         refine ol_s rfl rfl rfl rfl ?_
         refine ol_r (r_pickT rfl rfl rfl) rfl ?_
         refine ol_r (r_move rfl) rfl ?_
         refine ol_s rfl rfl rfl rfl ?_
         refine ol_s rfl rfl rfl rfl ?_
         refine ol_r (r_pickT rfl rfl rfl) rfl ?_
         refine ol_r (r_not rfl) rfl ?_
         refine ol_nil (to_k0 (fun _ _ h => h) (hK9 (_) _ _ ?_ (sub_cons rfl sub_nil) (sub_cons rfl (sub_cons rfl sub_nil)) subH_nil subH_nil))
         try dsimp only
         first
         | exact nn_f (by omega)
        ·have phs36 := hs36; try simp only [decide_eq_true_eq, decide_eq_false_iff_not, Bool.not_eq_true', Bool.not_eq_false', Bool.not_true, Bool.not_false] at phs36
         refine ol_g rfl rfl hs36 ?_
         refine ol_r (r_move rfl) rfl ?_
         refine ol_g rfl rfl hs36 ?_
         refine ol_r (r_eql rfl rfl) rfl ?_
         refine ol_r (r_pickF rfl hs36 rfl) rfl ?_
         refine ol_r (r_move rfl) rfl ?_
         refine ol_split (d := 40) rfl (fun hs40 => ?_) (fun hs40 => ?_)
         ·have phs40 := hs40; try simp only [decide_eq_true_eq, decide_eq_false_iff_not, Bool.not_eq_true', Bool.not_eq_false', Bool.not_true, Bool.not_false] at phs40
          refine ol_s rfl rfl hs40 rfl ?_
          refine ol_s rfl rfl hs40 rfl ?_
          refine ol_r (r_pickT rfl hs40 rfl) rfl ?_
          refine ol_r (r_move rfl) rfl ?_
          refine ol_s rfl rfl rfl rfl ?_
          refine ol_s rfl rfl rfl rfl ?_
          refine ol_r (r_pickT rfl rfl rfl) rfl ?_
          refine ol_r (r_not rfl) rfl ?_
          refine ol_nil (to_k0 (fun _ _ h => h) (hK9 (_) _ _ ?_ (sub_cons rfl sub_nil) (sub_cons rfl (sub_cons rfl sub_nil)) subH_nil subH_nil))
          try dsimp only
          first
          | exact nn_f (by omega)
         ·have phs40 := hs40; try simp only [decide_eq_true_eq, decide_eq_false_iff_not, Bool.not_eq_true', Bool.not_eq_false', Bool.not_true, Bool.not_false] at phs40
          refine ol_g rfl rfl hs40 ?_
          refine ol_r (r_move rfl) rfl ?_
          refine ol_g rfl rfl hs40 ?_
          refine ol_r (r_eql rfl rfl) rfl ?_
          refine ol_r (r_pickF rfl hs40 rfl) rfl ?_
          refine ol_r (r_move rfl) rfl ?_
          refine ol_split (d := 44) rfl (fun hs44 => ?_) (fun hs44 => ?_)
          ·have phs44 := hs44; try simp only [decide_eq_true_eq, decide_eq_false_iff_not, Bool.not_eq_true', Bool.not_eq_false', Bool.not_true, Bool.not_false] at phs44
           refine ol_s rfl rfl hs44 rfl ?_
           refine ol_s rfl rfl hs44 rfl ?_
           refine ol_r (r_pickT rfl hs44 rfl) rfl ?_
           refine ol_r (r_not rfl) rfl ?_
           refine ol_nil (to_k0 (fun _ _ h => h) (hK9 (_) _ _ ?_ (sub_cons rfl sub_nil) (sub_cons rfl (sub_cons rfl sub_nil)) subH_nil subH_nil))
           try dsimp only
           first
           | exact nn_f (by omega)
          ·have phs44 := hs44; try simp only [decide_eq_true_eq, decide_eq_false_iff_not, Bool.not_eq_true', Bool.not_eq_false', Bool.not_true, Bool.not_false] at phs44
           refine ol_g rfl rfl hs44 ?_
           refine ol_r (r_move rfl) rfl ?_
           refine ol_g rfl rfl hs44 ?_
           refine ol_r (r_eql rfl rfl) rfl ?_
           refine ol_r (r_pickF rfl hs44 rfl) rfl ?_
           refine ol_r (r_not rfl) rfl ?_
           refine ol_nil (to_k0 (fun _ _ h => h) (hK9 (_) _ _ ?_ (sub_cons rfl sub_nil) (sub_cons rfl (sub_cons rfl sub_nil)) subH_nil subH_nil))
           try dsimp only
           first
           | exact nn_e (by omega)
       ·have phs31 := hs31; try simp only [decide_eq_true_eq, decide_eq_false_iff_not, Bool.not_eq_true', Bool.not_eq_false', Bool.not_true, Bool.not_false] at phs31
        refine ol_s rfl rfl hs31 rfl ?_
        refine ol_s rfl rfl hs31 rfl ?_
        refine ol_g rfl rfl rfl ?_
        refine ol_r (r_pickF rfl hs31 rfl) rfl ?_
        refine ol_r (r_pickF rfl rfl rfl) rfl ?_
        refine ol_r (r_move rfl) rfl ?_
        refine ol_g rfl rfl rfl ?_
        refine ol_r (r_move rfl) rfl ?_
        refine ol_g rfl rfl rfl ?_
        refine ol_r (r_eql rfl rfl) rfl ?_
        refine ol_r (r_pickF rfl rfl rfl) rfl ?_
        refine ol_r (r_move rfl) rfl ?_
        refine ol_split (d := 40) rfl (fun hs40 => ?_) (fun hs40 => ?_)
        ·have phs40 := hs40; try simp only [decide_eq_true_eq, decide_eq_false_iff_not, Bool.not_eq_true', Bool.not_eq_false', Bool.not_true, Bool.not_false] at phs40
         refine ol_s rfl rfl hs40 rfl ?_
         refine ol_s rfl rfl hs40 rfl ?_
         refine ol_r (r_pickT rfl hs40 rfl) rfl ?_
         refine ol_r (r_move rfl) rfl ?_
         refine ol_s rfl rfl rfl rfl ?_
         refine ol_s rfl rfl rfl rfl ?_
         refine ol_r (r_pickT rfl rfl rfl) rfl ?_
         refine ol_r (r_not rfl) rfl ?_
         refine ol_nil (to_k0 (fun _ _ h => h) (hK9 (_) _ _ ?_ (sub_cons rfl sub_nil) (sub_cons rfl (sub_cons rfl sub_nil)) subH_nil subH_nil))
         try dsimp only
         first
         | exact nn_f (by omega)
        ·have phs40 := hs40; try simp only [decide_eq_true_eq, decide_eq_false_iff_not, Bool.not_eq_true', Bool.not_eq_false', Bool.not_true, Bool.not_false] at phs40
         refine ol_g rfl rfl hs40 ?_
         refine ol_r (r_move rfl) rfl ?_
         refine ol_g rfl rfl hs40 ?_
         refine ol_r (r_eql rfl rfl) rfl ?_
         refine ol_r (r_pickF rfl hs40 rfl) rfl ?_
         refine ol_r (r_move rfl) rfl ?_
         refine ol_split (d := 44) rfl (fun hs44 => ?_) (fun hs44 => ?_)
         ·have phs44 := hs44; try simp only [decide_eq_true_eq, decide_eq_false_iff_not, Bool.not_eq_true', Bool.not_eq_false', Bool.not_true, Bool.not_false] at phs44
          refine ol_s rfl rfl hs44 rfl ?_
          refine ol_s rfl rfl hs44 rfl ?_
          refine ol_r (r_pickT rfl hs44 rfl) rfl ?_
          refine ol_r (r_not rfl) rfl ?_
          refine ol_nil (to_k0 (fun _ _ h => h) (hK9 (_) _ _ ?_ (sub_cons rfl sub_nil) (sub_cons rfl (sub_cons rfl sub_nil)) subH_nil subH_nil))
          try dsimp only
          first
          | exact nn_f (by omega)
         ·have phs44 := hs44; try simp only [decide_eq_true_eq, decide_eq_false_iff_not, Bool.not_eq_true', Bool.not_eq_false', Bool.not_true, Bool.not_false] at phs44
          refine ol_g rfl rfl hs44 ?_
          refine ol_r (r_move rfl) rfl ?_
          refine ol_g rfl rfl hs44 ?_
          refine ol_r (r_eql rfl rfl) rfl ?_
          refine ol_r (r_pickF rfl hs44 rfl) rfl ?_
          refine ol_r (r_not rfl) rfl ?_
          refine ol_nil (to_k0 (fun _ _ h => h) (hK9 (_) _ _ ?_ (sub_cons rfl sub_nil) (sub_cons rfl (sub_cons rfl sub_nil)) subH_nil subH_nil))
          try dsimp only
          first
          | exact nn_e (by omega)
    ·rintro b rfl
     refine wp_condNB rfl (fun hc48 => ?_) (fun hc48 => ?_)
     ·refine wp_seq' fun K10 hK10 => ?_
      refine wp_reg ?_
      refine ol_r (r_assign rfl) rfl ?_
      refine ol_nil (to_k0 (fun _ _ h => h) (hK10 _ _ _ _ _ ?_))
      clear hK10
      refine hQ.ret (rvs1 (rv_t rfl)) (fun _ _ h => h) fun w hb hs hB hkd => ?_
      first
        | (refine ⟨?_, hb⟩
           have h1 : nameC (byteAt q k) = false := hc48
           have h2 : nameB q = false := by unfold nameB; rw [bytesAll_not (by omega) h1]; rfl
           rw [h2]
           done)
     ·refine wp_skip' (to_k0 (fun _ _ h => h) (hK7 _ _ _ _ _ ?_))
      clear hK7
      refine wp_reg ?_
      refine ol_r (r_move rfl) rfl ?_
      refine ol_r (r_add rfl rfl (by omega)) rfl ?_
      refine ol_r (r_assign rfl) rfl ?_
      refine ol_nil (to_k0 (fun _ _ h => h) (hK4 (k + 1) _ _ ?_ ?_ (sub_cons rfl sub_nil) (sub_cons rfl sub_nil) (by exact subH_nil) subH_nil))
      ·try dsimp only
       exact ⟨by omega, up_to hP hc48⟩
      ·try dsimp only
       omega
   ·refine wp_exit' (to_k0 (fun _ _ h => h) (hK2 _ _ _ _ _ ?_))
    clear hK2
    refine wp_seq' fun K11 hK11 => ?_
    refine wp_reg ?_
    refine ol_r (r_move rfl) rfl ?_
    refine ol_r (r_lens rfl st9) rfl ?_
    refine ol_r (r_geq rfl rfl) rfl ?_
    refine ol_r (r_move rfl) rfl ?_
    refine ol_split (d := 52) rfl (fun hs52 => ?_) (fun hs52 => ?_)
    ·have phs52 := hs52; try simp only [decide_eq_true_eq, decide_eq_false_iff_not, Bool.not_eq_true', Bool.not_eq_false', Bool.not_true, Bool.not_false] at phs52
     refine ol_g rfl rfl hs52 ?_
     refine ol_r (r_move rfl) rfl ?_
     refine ol_g rfl rfl hs52 ?_
     refine ol_r (r_lens rfl st9) rfl ?_
     refine ol_g rfl rfl hs52 ?_
     refine ol_r (r_leq rfl rfl) rfl ?_
     refine ol_r (r_pickT rfl hs52 rfl) rfl ?_
     refine ol_r (r_assign rfl) rfl ?_
     refine ol_nil (to_k0 (fun _ _ h => h) (hK11 _ _ _ _ _ ?_))
     clear hK11
     refine hQ.ret (rvs1 (rv_t rfl)) (fun _ _ h => h) fun w hb hs hB hkd => ?_
     first
       | (refine ⟨?_, hb⟩
          have h1 : bytesAll nameC q = true := bytesAll_iff.2 fun i hi => hP i (by omega)
          unfold nameB
          rw [h1]
          congr 2
          simp only [Bool.true_and]
          first
            | (rw [decide_eq_true (show 1 ≤ q.size by omega), Bool.true_and, decide_eq_decide]; omega)
            | (rw [decide_eq_false (show ¬1 ≤ q.size by omega)]; rfl))
    ·have phs52 := hs52; try simp only [decide_eq_true_eq, decide_eq_false_iff_not, Bool.not_eq_true', Bool.not_eq_false', Bool.not_true, Bool.not_false] at phs52
     refine ol_s rfl rfl hs52 rfl ?_
     refine ol_s rfl rfl hs52 rfl ?_
     refine ol_s rfl rfl hs52 rfl ?_
     refine ol_r (r_pickF rfl hs52 rfl) rfl ?_
     refine ol_r (r_assign rfl) rfl ?_
     refine ol_nil (to_k0 (fun _ _ h => h) (hK11 _ _ _ _ _ ?_))
     clear hK11
     refine hQ.ret (rvs1 (rv_t rfl)) (fun _ _ h => h) fun w hb hs hB hkd => ?_
     first
       | (refine ⟨?_, hb⟩
          have h1 : bytesAll nameC q = true := bytesAll_iff.2 fun i hi => hP i (by omega)
          unfold nameB
          rw [h1]
          congr 2
          simp only [Bool.true_and]
          first
            | (rw [decide_eq_true (show 1 ≤ q.size by omega), Bool.true_and, decide_eq_decide]; omega)
            | (rw [decide_eq_false (show ¬1 ≤ q.size by omega)]; rfl))
theorem record_IsTitle (q : ByteArray) (w : World) (hq0 : q.size ≤ 9223372036854775807) : Calls Try.prog 93 #[.string q] w fun e w' => e = .returned (.bool (titleB q)) ∧ Below w.heap.size w w' := by
  refine enterQ (N := 19) (C := fun _ => True) (H := []) (B := w.heap.size) (args := [_]) Try.func93 rfl rfl rfl (Nat.le_refl _) (Sat.nil _ _) fun Q hQ => ?_
  refine wp_seq' fun K1 hK1 => ?_
  refine wp_reg ?_
  refine ol_r (r_assign rfl) rfl ?_
  refine ol_nil (to_k0 (fun _ _ h => h) (hK1 _ _ _ _ _ ?_))
  clear hK1
  refine wp_seq' fun K2 hK2 => ?_
  refine wp_seq' fun K3 hK3 => ?_
  refine wp_reg ?_
  refine ol_r (r_move rfl) rfl ?_
  refine ol_r (r_lens rfl st9) rfl ?_
  refine ol_r (r_move rfl) rfl ?_
  refine ol_nil (to_k0 (fun _ _ h => h) (hK3 _ _ _ _ _ ?_))
  clear hK3
  refine wp_block' ?_
  apply wp_loopM (σ := Nat) (fun s => s ≤ q.size ∧ ∀ i, i < s → inB (byteAt q i) 32 126 = true) (fun s => [(6, .int .i64 s)]) [(0, _), (5, _)] (fun s => []) [] (fun s => q.size - s) (0)
  ·try dsimp only
   exact ⟨Nat.zero_le _, fun i h => by omega⟩
  ·exact (sub_cons rfl sub_nil)
  ·exact (sub_cons rfl (sub_cons rfl sub_nil))
  ·exact subH_nil
  ·exact subH_nil
  ·rintro k ⟨hk, hP⟩
   intro K4 hK4
   refine wp_seq' fun K5 hK5 => ?_
   refine wp_reg ?_
   refine ol_r (r_lss rfl rfl) rfl ?_
   refine ol_nil (to_k0 (fun _ _ h => h) (hK5 _ _ _ _ _ ?_))
   clear hK5
   refine wp_seq' fun K6 hK6 => ?_
   refine wp_condD rfl (fun hc7 => ?_) (fun hc7 => ?_)
   ·refine wp_skip' (to_k0 (fun _ _ h => h) (hK6 _ _ _ _ _ ?_))
    clear hK6
    refine wp_seq' fun K7 hK7 => ?_
    refine wp_block' ?_
    refine wp_seq' fun K8 hK8 => ?_
    refine wp_reg ?_
    refine ol_r (r_move rfl) rfl ?_
    refine ol_r (r_assign rfl) rfl ?_
    refine ol_nil (to_k0 (fun _ _ h => h) (hK8 _ _ _ _ _ ?_))
    clear hK8
    refine wp_seq' fun K9 hK9 => ?_
    refine wp_reg ?_
    refine ol_r (r_move rfl) rfl ?_
    refine ol_r (r_move rfl) rfl ?_
    refine ol_r (r_sidx rfl rfl st9 (by omega)) rfl ?_
    try simp only [Int.toNat_natCast]
    have hbb := byteAt_bd q k
    refine ol_r (r_conv (k2 := .i64) rfl (by kernel_rfl) (by kernel_rfl) (IntWalk.i64_in _ (by omega))) rfl ?_
    refine ol_call rfl rfl cb91 rfl (fun w1 hb1 hs1 hB1 => Calls.mono (record_in _ _ _ _) ?_)
    rintro e w2 ⟨rfl, hb2⟩
    refine After.below rfl hb1 hs1 hB1 hb2 ?_
    clear hb2 hB1 hs1 hb1 w2 w1
    refine ol_r (r_not rfl) rfl ?_
    refine ol_nil (to_k0 (fun _ _ h => h) (hK9 _ _ _ _ _ ?_))
    clear hK9
    refine wp_condNB rfl (fun hc14 => ?_) (fun hc14 => ?_)
    ·refine wp_seq' fun K10 hK10 => ?_
     refine wp_reg ?_
     refine ol_r (r_assign rfl) rfl ?_
     refine ol_nil (to_k0 (fun _ _ h => h) (hK10 _ _ _ _ _ ?_))
     clear hK10
     refine hQ.ret (rvs1 (rv_t rfl)) (fun _ _ h => h) fun w hb hs hB hkd => ?_
     first
       | (refine ⟨?_, hb⟩
          have h1 : inB (byteAt q k) 32 126 = false := by simpa using hc14
          have h2 : titleB q = false := by unfold titleB; rw [bytesAll_not (p := fun c => inB c 32 126) (by omega) h1]; rfl
          rw [h2]
          done)
    ·refine wp_skip' (to_k0 (fun _ _ h => h) (hK7 _ _ _ _ _ ?_))
     clear hK7
     refine wp_reg ?_
     refine ol_r (r_add rfl rfl (by omega)) rfl ?_
     refine ol_r (r_move rfl) rfl ?_
     refine ol_nil (to_k0 (fun _ _ h => h) (hK4 (k + 1) _ _ ?_ ?_ (sub_cons rfl sub_nil) (sub_cons rfl (sub_cons rfl sub_nil)) (by exact subH_nil) subH_nil))
     ·try dsimp only
      refine ⟨by omega, fun i hi => ?_⟩
      by_cases h : i < k
      · exact hP i h
      · have : i = k := by omega
        subst this
        simpa using hc14
     ·try dsimp only
      omega
   ·refine wp_exit' (to_k0 (fun _ _ h => h) (hK2 _ _ _ _ _ ?_))
    clear hK2
    refine wp_seq' fun K11 hK11 => ?_
    refine wp_reg ?_
    refine ol_r (r_move rfl) rfl ?_
    refine ol_r (r_lens rfl st9) rfl ?_
    refine ol_r (r_leq rfl rfl) rfl ?_
    refine ol_r (r_assign rfl) rfl ?_
    refine ol_nil (to_k0 (fun _ _ h => h) (hK11 _ _ _ _ _ ?_))
    clear hK11
    refine hQ.ret (rvs1 (rv_t rfl)) (fun _ _ h => h) fun w hb hs hB hkd => ?_
    first
      | (refine ⟨?_, hb⟩
         have h1 : bytesAll (fun c => inB c 32 126) q = true := bytesAll_iff.2 fun i hi => hP i (by omega)
         unfold titleB
         rw [h1, Bool.true_and]
         congr 2
         rw [decide_eq_decide]; omega)
end Go.Proofs.Ytogcclagmobkiaa
