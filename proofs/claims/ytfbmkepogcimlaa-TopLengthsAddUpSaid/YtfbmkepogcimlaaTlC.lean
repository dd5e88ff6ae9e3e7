/-
  Names, titles, Check, Span: program and reference.
-/
import Derived.Test.YtfbmkepogcimlaaTlA
import Derived.Test.YtfbmkepogcimlaaTlB


namespace Go.Proofs.Ytfbmkepogcimlaa
open Go Go.RowKit Hx
set_option linter.unusedVariables false
set_option linter.unusedSimpArgs false
set_option maxRecDepth 8000
theorem record_in (n a b : Int) (w : World) : Calls Try.prog 45 #[.int .i64 n, .int .i64 a, .int .i64 b] w fun e w' => e = .returned (.bool (inB n a b)) ∧ Below w.heap.size w w' := by
  refine enterQ (N := 15) (C := fun _ => True) (H := []) (B := w.heap.size) (args := [_, _, _]) Try.func45 rfl rfl rfl (Nat.le_refl _) (Sat.nil _ _) fun Q hQ => ?_
  refine wp_seq' fun K1 hK1 => ?_
  refine wp_reg ?_
  refine ol_r (r_assign rfl) rfl ?_
  refine ol_nil (to_k0 (fun _ _ h => h) (hK1 _ _ _ _ _ ?_))
  clear hK1
  refine wp_seq' fun K2 hK2 => ?_
  refine wp_reg ?_
  refine ol_r (r_move rfl) rfl ?_
  refine ol_r (r_move rfl) rfl ?_
  refine ol_r (r_geq rfl rfl) rfl ?_
  refine ol_r (r_move rfl) rfl ?_
  refine ol_split (d := 10) rfl (fun hs10 => ?_) (fun hs10 => ?_)
  ·have phs10 := hs10; try simp only [decide_eq_true_eq, decide_eq_false_iff_not, Bool.not_eq_true', Bool.not_eq_false', Bool.not_true, Bool.not_false] at phs10
   refine ol_g rfl rfl hs10 ?_
   refine ol_r (r_move rfl) rfl ?_
   refine ol_g rfl rfl hs10 ?_
   refine ol_r (r_move rfl) rfl ?_
   refine ol_g rfl rfl hs10 ?_
   refine ol_r (r_leq rfl rfl) rfl ?_
   refine ol_r (r_pickT rfl hs10 rfl) rfl ?_
   refine ol_r (r_assign rfl) rfl ?_
   refine ol_nil (to_k0 (fun _ _ h => h) (hK2 _ _ _ _ _ ?_))
   clear hK2
   refine hQ.ret (rvs1 (rv_t rfl)) (fun _ _ h => h) fun w hb hs hB hkd => ?_
   exact ⟨by simp [inB, hs10], hb⟩
  ·have phs10 := hs10; try simp only [decide_eq_true_eq, decide_eq_false_iff_not, Bool.not_eq_true', Bool.not_eq_false', Bool.not_true, Bool.not_false] at phs10
   refine ol_s rfl rfl hs10 rfl ?_
   refine ol_s rfl rfl hs10 rfl ?_
   refine ol_s rfl rfl hs10 rfl ?_
   refine ol_r (r_pickF rfl hs10 rfl) rfl ?_
   refine ol_r (r_assign rfl) rfl ?_
   refine ol_nil (to_k0 (fun _ _ h => h) (hK2 _ _ _ _ _ ?_))
   clear hK2
   refine hQ.ret (rvs1 (rv_t rfl)) (fun _ _ h => h) fun w hb hs hB hkd => ?_
   exact ⟨by simp [inB, hs10], hb⟩
theorem quant_isDigit (c : Int) (w : World) : Calls Try.prog 65 #[.int .u8 c] w fun e w' => e = .returned (.bool (decide (48 ≤ c ∧ c ≤ 57))) ∧ Below w.heap.size w w' := by
  refine enterQ (N := 9) (C := fun _ => True) (H := []) (B := w.heap.size) (args := [_]) Try.func65 rfl rfl rfl (Nat.le_refl _) (Sat.nil _ _) fun Q hQ => ?_
  refine wp_seq' fun K1 hK1 => ?_
  refine wp_reg ?_
  refine ol_r (r_assign rfl) rfl ?_
  refine ol_nil (to_k0 (fun _ _ h => h) (hK1 _ _ _ _ _ ?_))
  clear hK1
  refine wp_seq' fun K2 hK2 => ?_
  refine wp_reg ?_
  refine ol_r (r_move rfl) rfl ?_
  refine ol_r (r_geq rfl rfl) rfl ?_
  refine ol_r (r_move rfl) rfl ?_
  refine ol_split (d := 5) rfl (fun hs5 => ?_) (fun hs5 => ?_)
  ·have phs5 := hs5; try simp only [decide_eq_true_eq, decide_eq_false_iff_not, Bool.not_eq_true', Bool.not_eq_false', Bool.not_true, Bool.not_false] at phs5
   refine ol_g rfl rfl hs5 ?_
   refine ol_r (r_move rfl) rfl ?_
   refine ol_g rfl rfl hs5 ?_
   refine ol_r (r_leq rfl rfl) rfl ?_
   refine ol_r (r_pickT rfl hs5 rfl) rfl ?_
   refine ol_r (r_assign rfl) rfl ?_
   refine ol_nil (to_k0 (fun _ _ h => h) (hK2 _ _ _ _ _ ?_))
   clear hK2
   refine hQ.ret (rvs1 (rv_t rfl)) (fun _ _ h => h) fun w hb hs hB hkd => ?_
   first
     | exact ⟨congrArg (fun b => Ending.returned (Value.bool b)) (decide_eq_decide.2 (by omega)), hb⟩
  ·have phs5 := hs5; try simp only [decide_eq_true_eq, decide_eq_false_iff_not, Bool.not_eq_true', Bool.not_eq_false', Bool.not_true, Bool.not_false] at phs5
   refine ol_s rfl rfl hs5 rfl ?_
   refine ol_s rfl rfl hs5 rfl ?_
   refine ol_r (r_pickF rfl hs5 rfl) rfl ?_
   refine ol_r (r_assign rfl) rfl ?_
   refine ol_nil (to_k0 (fun _ _ h => h) (hK2 _ _ _ _ _ ?_))
   clear hK2
   refine hQ.ret (rvs1 (rv_t rfl)) (fun _ _ h => h) fun w hb hs hB hkd => ?_
   first
     | exact ⟨congrArg (fun b => Ending.returned (Value.bool b)) (decide_eq_false (by omega)).symm, hb⟩
theorem quant_IsName (q : ByteArray) (w : World) (hq0 : q.size ≤ 9223372036854775807) : Calls Try.prog 32 #[.string q] w fun e w' => e = .returned (.bool (nameB q)) ∧ Below w.heap.size w w' := by
  refine enterQ (N := 56) (C := fun _ => True) (H := []) (B := w.heap.size) (args := [_]) Try.func32 rfl rfl rfl (Nat.le_refl _) (Sat.nil _ _) fun Q hQ => ?_
  refine wp_seq' fun K1 hK1 => ?_
  refine wp_reg ?_
  refine ol_r (r_assign rfl) rfl ?_
  refine ol_nil (to_k0 (fun _ _ h => h) (hK1 _ _ _ _ _ ?_))
  clear hK1
  refine wp_seq' fun K2 hK2 => ?_
  refine wp_seq' fun K3 hK3 => ?_
  refine wp_reg ?_
  refine ol_r (r_move rfl) rfl ?_
  refine ol_r (r_lens rfl st9) rfl ?_
  refine ol_r (r_move rfl) rfl ?_
  refine ol_nil (to_k0 (fun _ _ h => h) (hK3 _ _ _ _ _ ?_))
  clear hK3
  refine wp_block' ?_
  apply wp_loopM (σ := Nat) (fun s => s ≤ q.size ∧ ∀ i, i < s → nameC (byteAt q i) = true) (fun s => [(8, .int .i64 s)]) [(0, _), (7, _)] (fun s => []) [] (fun s => q.size - s) (0)
  ·try dsimp only
   exact ⟨Nat.zero_le _, fun i h => by omega⟩
  ·exact (sub_cons rfl sub_nil)
  ·exact (sub_cons rfl (sub_cons rfl sub_nil))
  ·exact subH_nil
  ·exact subH_nil
  ·rintro k ⟨hk, hP⟩
   intro K4 hK4
   refine wp_seq' fun K5 hK5 => ?_
   refine wp_reg ?_
   refine ol_r (r_lss rfl rfl) rfl ?_
   refine ol_nil (to_k0 (fun _ _ h => h) (hK5 _ _ _ _ _ ?_))
   clear hK5
   refine wp_seq' fun K6 hK6 => ?_
   refine wp_condD rfl (fun hc9 => ?_) (fun hc9 => ?_)
   ·refine wp_skip' (to_k0 (fun _ _ h => h) (hK6 _ _ _ _ _ ?_))
    clear hK6
    refine wp_seq' fun K7 hK7 => ?_
    refine wp_block' ?_
    refine wp_seq' fun K8 hK8 => ?_
    refine wp_reg ?_
    refine ol_r (r_move rfl) rfl ?_
    refine ol_r (r_assign rfl) rfl ?_
    refine ol_nil (to_k0 (fun _ _ h => h) (hK8 _ _ _ _ _ ?_))
    clear hK8
    refine wp_seq' fun K9 hK9 => ?_
    refine wp_reg ?_
    refine ol_r (r_move rfl) rfl ?_
    refine ol_r (r_move rfl) rfl ?_
    refine ol_r (r_sidx rfl rfl st9 (by omega)) rfl ?_
    try simp only [Int.toNat_natCast]
    refine ol_r (r_assign rfl) rfl ?_
    refine ol_nil (to_k0 (fun _ _ h => h) (hK9 _ _ _ _ _ ?_))
    clear hK9
    apply wp_seq_cutM (σ := Bool) (fun s => s = decide ((97 ≤ byteAt q k ∧ byteAt q k ≤ 122) ∨ (65 ≤ byteAt q k ∧ byteAt q k ≤ 90))) (fun s => [(5, .bool s)]) [(0, _), (4, _), (7, _), (8, _)] (fun s => []) []
    ·exact (sub_cons rfl (sub_cons rfl (sub_cons rfl (sub_cons rfl sub_nil))))
    ·exact subH_nil
    ·intro K10 hK10
     refine wp_reg ?_
     refine ol_r (r_move rfl) rfl ?_
     refine ol_r (r_geq rfl rfl) rfl ?_
     refine ol_r (r_move rfl) rfl ?_
     refine ol_split (d := 16) rfl (fun hs16 => ?_) (fun hs16 => ?_)
     ·have phs16 := hs16; try simp only [decide_eq_true_eq, decide_eq_false_iff_not, Bool.not_eq_true', Bool.not_eq_false', Bool.not_true, Bool.not_false] at phs16
      refine ol_g rfl rfl hs16 ?_
      refine ol_r (r_move rfl) rfl ?_
      refine ol_g rfl rfl hs16 ?_
      refine ol_r (r_leq rfl rfl) rfl ?_
      refine ol_r (r_pickT rfl hs16 rfl) rfl ?_
      refine ol_r (r_move rfl) rfl ?_
      refine ol_split (d := 20) rfl (fun hs20 => ?_) (fun hs20 => ?_)
      ·have phs20 := hs20; try simp only [decide_eq_true_eq, decide_eq_false_iff_not, Bool.not_eq_true', Bool.not_eq_false', Bool.not_true, Bool.not_false] at phs20
       refine ol_s rfl rfl hs20 rfl ?_
       refine ol_s rfl rfl hs20 rfl ?_
       refine ol_s rfl rfl hs20 rfl ?_
       refine ol_u rfl rfl rfl ?_
       refine ol_u rfl rfl rfl ?_
       refine ol_s rfl rfl hs20 rfl ?_
       refine ol_r (r_pickT rfl hs20 rfl) rfl ?_
       refine ol_r (r_assign rfl) rfl ?_
       refine ol_nil (to_k0 (fun _ _ h => h) (hK10 (_) _ _ ?_ (sub_cons rfl sub_nil) (sub_cons rfl (sub_cons rfl (sub_cons rfl (sub_cons rfl sub_nil)))) subH_nil subH_nil))
       try dsimp only
       first
       | exact (decide_eq_true (by omega)).symm
      ·have phs20 := hs20; try simp only [decide_eq_true_eq, decide_eq_false_iff_not, Bool.not_eq_true', Bool.not_eq_false', Bool.not_true, Bool.not_false] at phs20
       refine ol_g rfl rfl hs20 ?_
       refine ol_r (r_move rfl) rfl ?_
       refine ol_g rfl rfl hs20 ?_
       refine ol_r (r_geq rfl rfl) rfl ?_
       refine ol_g rfl rfl hs20 ?_
       refine ol_r (r_move rfl) rfl ?_
       refine ol_split (d := 23) rfl (fun hs23 => ?_) (fun hs23 => ?_)
       ·have phs23 := hs23; try simp only [decide_eq_true_eq, decide_eq_false_iff_not, Bool.not_eq_true', Bool.not_eq_false', Bool.not_true, Bool.not_false] at phs23
        refine ol_g rfl rfl hs23 ?_
        refine ol_r (r_move rfl) rfl ?_
        refine ol_g rfl rfl hs23 ?_
        refine ol_r (r_leq rfl rfl) rfl ?_
        refine ol_g rfl rfl hs20 ?_
        refine ol_r (r_pickT rfl hs23 rfl) rfl ?_
        refine ol_r (r_pickF rfl hs20 rfl) rfl ?_
        refine ol_r (r_assign rfl) rfl ?_
        refine ol_nil (to_k0 (fun _ _ h => h) (hK10 (_) _ _ ?_ (sub_cons rfl sub_nil) (sub_cons rfl (sub_cons rfl (sub_cons rfl (sub_cons rfl sub_nil)))) subH_nil subH_nil))
        try dsimp only
        first
        | exact decide_eq_decide.2 (by omega)
       ·have phs23 := hs23; try simp only [decide_eq_true_eq, decide_eq_false_iff_not, Bool.not_eq_true', Bool.not_eq_false', Bool.not_true, Bool.not_false] at phs23
        refine ol_s rfl rfl hs23 rfl ?_
        refine ol_s rfl rfl hs23 rfl ?_
        refine ol_g rfl rfl hs20 ?_
        refine ol_r (r_pickF rfl hs23 rfl) rfl ?_
        refine ol_r (r_pickF rfl hs20 rfl) rfl ?_
        refine ol_r (r_assign rfl) rfl ?_
        refine ol_nil (to_k0 (fun _ _ h => h) (hK10 (_) _ _ ?_ (sub_cons rfl sub_nil) (sub_cons rfl (sub_cons rfl (sub_cons rfl (sub_cons rfl sub_nil)))) subH_nil subH_nil))
        try dsimp only
        first
        | exact (decide_eq_false (by omega)).symm
     ·have phs16 := hs16; try simp only [decide_eq_true_eq, decide_eq_false_iff_not, Bool.not_eq_true', Bool.not_eq_false', Bool.not_true, Bool.not_false] at phs16
      refine ol_s rfl rfl hs16 rfl ?_
      refine ol_s rfl rfl hs16 rfl ?_
      refine ol_r (r_pickF rfl hs16 rfl) rfl ?_
      refine ol_r (r_move rfl) rfl ?_
      refine ol_g rfl rfl rfl ?_
      refine ol_r (r_move rfl) rfl ?_
      refine ol_g rfl rfl rfl ?_
      refine ol_r (r_geq rfl rfl) rfl ?_
      refine ol_g rfl rfl rfl ?_
      refine ol_r (r_move rfl) rfl ?_
      refine ol_split (d := 23) rfl (fun hs23 => ?_) (fun hs23 => ?_)
      ·have phs23 := hs23; try simp only [decide_eq_true_eq, decide_eq_false_iff_not, Bool.not_eq_true', Bool.not_eq_false', Bool.not_true, Bool.not_false] at phs23
       refine ol_g rfl rfl hs23 ?_
       refine ol_r (r_move rfl) rfl ?_
       refine ol_g rfl rfl hs23 ?_
       refine ol_r (r_leq rfl rfl) rfl ?_
       refine ol_g rfl rfl rfl ?_
       refine ol_r (r_pickT rfl hs23 rfl) rfl ?_
       refine ol_r (r_pickF rfl rfl rfl) rfl ?_
       refine ol_r (r_assign rfl) rfl ?_
       refine ol_nil (to_k0 (fun _ _ h => h) (hK10 (_) _ _ ?_ (sub_cons rfl sub_nil) (sub_cons rfl (sub_cons rfl (sub_cons rfl (sub_cons rfl sub_nil)))) subH_nil subH_nil))
       try dsimp only
       first
       | exact decide_eq_decide.2 (by omega)
      ·have phs23 := hs23; try simp only [decide_eq_true_eq, decide_eq_false_iff_not, Bool.not_eq_true', Bool.not_eq_false', Bool.not_true, Bool.not_false] at phs23
       refine ol_s rfl rfl hs23 rfl ?_
       refine ol_s rfl rfl hs23 rfl ?_
       refine ol_g rfl rfl rfl ?_
       refine ol_r (r_pickF rfl hs23 rfl) rfl ?_
       refine ol_r (r_pickF rfl rfl rfl) rfl ?_
       refine ol_r (r_assign rfl) rfl ?_
       refine ol_nil (to_k0 (fun _ _ h => h) (hK10 (_) _ _ ?_ (sub_cons rfl sub_nil) (sub_cons rfl (sub_cons rfl (sub_cons rfl (sub_cons rfl sub_nil)))) subH_nil subH_nil))
       try dsimp only
       first
       | exact (decide_eq_false (by omega)).symm
    ·rintro b rfl
     apply wp_seq_cutM (σ := Bool) (fun s => s = !nameC (byteAt q k)) (fun s => [(46, .bool s)]) [(0, _), (7, _), (8, _)] (fun s => []) []
     ·exact (sub_cons rfl (sub_cons rfl (sub_cons rfl sub_nil)))
     ·exact subH_nil
     ·intro K11 hK11
      refine wp_reg ?_
      refine ol_r (r_move rfl) rfl ?_
      refine ol_r (r_not rfl) rfl ?_
      refine ol_r (r_move rfl) rfl ?_
      refine ol_split (d := 30) rfl (fun hs30 => ?_) (fun hs30 => ?_)
      ·have phs30 := hs30; try simp only [decide_eq_true_eq, decide_eq_false_iff_not, Bool.not_eq_true', Bool.not_eq_false', Bool.not_true, Bool.not_false] at phs30
       refine ol_g rfl rfl hs30 ?_
       refine ol_r (r_move rfl) rfl ?_
       refine ol_g rfl rfl hs30 ?_
       refine ol_call rfl rfl cb65 rfl (fun w1 hb1 hs1 hB1 => Calls.mono (quant_isDigit _ _) ?_)
       rintro e w2 ⟨rfl, hb2⟩
       refine After.below rfl hb1 hs1 hB1 hb2 ?_
       clear hb2 hB1 hs1 hb1 w2 w1
       refine ol_g rfl rfl hs30 ?_
       refine ol_r (r_not rfl) rfl ?_
       refine ol_r (r_pickT rfl hs30 rfl) rfl ?_
       refine ol_r (r_move rfl) rfl ?_
       refine ol_split (d := 35) rfl (fun hs35 => ?_) (fun hs35 => ?_)
       ·have phs35 := hs35; try simp only [decide_eq_true_eq, decide_eq_false_iff_not, Bool.not_eq_true', Bool.not_eq_false', Bool.not_true, Bool.not_false] at phs35
        refine ol_g rfl rfl hs35 ?_
        refine ol_r (r_move rfl) rfl ?_
        refine ol_g rfl rfl hs35 ?_
        refine ol_r (r_neq rfl rfl) rfl ?_
        refine ol_r (r_pickT rfl hs35 rfl) rfl ?_
        refine ol_r (r_move rfl) rfl ?_
        refine ol_split (d := 39) rfl (fun hs39 => ?_) (fun hs39 => ?_)
        ·have phs39 := hs39; try simp only [decide_eq_true_eq, decide_eq_false_iff_not, Bool.not_eq_true', Bool.not_eq_false', Bool.not_true, Bool.not_false] at phs39
         refine ol_g rfl rfl hs39 ?_
         refine ol_r (r_move rfl) rfl ?_
         refine ol_g rfl rfl hs39 ?_
         refine ol_r (r_neq rfl rfl) rfl ?_
         refine ol_r (r_pickT rfl hs39 rfl) rfl ?_
         refine ol_r (r_move rfl) rfl ?_
         refine ol_split (d := 43) rfl (fun hs43 => ?_) (fun hs43 => ?_)
         ·have phs43 := hs43; try simp only [decide_eq_true_eq, decide_eq_false_iff_not, Bool.not_eq_true', Bool.not_eq_false', Bool.not_true, Bool.not_false] at phs43
          refine ol_g rfl rfl hs43 ?_
          refine ol_r (r_move rfl) rfl ?_
          refine ol_g rfl rfl hs43 ?_
          refine ol_r (r_neq rfl rfl) rfl ?_
          refine ol_r (r_pickT rfl hs43 rfl) rfl ?_
          refine ol_nil (to_k0 (fun _ _ h => h) (hK11 (_) _ _ ?_ (sub_cons rfl sub_nil) (sub_cons rfl (sub_cons rfl (sub_cons rfl sub_nil))) subH_nil subH_nil))
          try dsimp only
          first
          | exact nn_d (by omega)
         ·have phs43 := hs43; try simp only [decide_eq_true_eq, decide_eq_false_iff_not, Bool.not_eq_true', Bool.not_eq_false', Bool.not_true, Bool.not_false] at phs43
          refine ol_s rfl rfl hs43 rfl ?_
          refine ol_s rfl rfl hs43 rfl ?_
          refine ol_r (r_pickF rfl hs43 rfl) rfl ?_
          refine ol_nil (to_k0 (fun _ _ h => h) (hK11 (_) _ _ ?_ (sub_cons rfl sub_nil) (sub_cons rfl (sub_cons rfl (sub_cons rfl sub_nil))) subH_nil subH_nil))
          try dsimp only
          first
          | exact nn_f (by omega)
        ·have phs39 := hs39; try simp only [decide_eq_true_eq, decide_eq_false_iff_not, Bool.not_eq_true', Bool.not_eq_false', Bool.not_true, Bool.not_false] at phs39
         refine ol_s rfl rfl hs39 rfl ?_
         refine ol_s rfl rfl hs39 rfl ?_
         refine ol_r (r_pickF rfl hs39 rfl) rfl ?_
         refine ol_r (r_move rfl) rfl ?_
         refine ol_s rfl rfl rfl rfl ?_
         refine ol_s rfl rfl rfl rfl ?_
         refine ol_r (r_pickF rfl rfl rfl) rfl ?_
         refine ol_nil (to_k0 (fun _ _ h => h) (hK11 (_) _ _ ?_ (sub_cons rfl sub_nil) (sub_cons rfl (sub_cons rfl (sub_cons rfl sub_nil))) subH_nil subH_nil))
         try dsimp only
         first
         | exact nn_f (by omega)
       ·have phs35 := hs35; try simp only [decide_eq_true_eq, decide_eq_false_iff_not, Bool.not_eq_true', Bool.not_eq_false', Bool.not_true, Bool.not_false] at phs35
        refine ol_s rfl rfl hs35 rfl ?_
        refine ol_s rfl rfl hs35 rfl ?_
        refine ol_r (r_pickF rfl hs35 rfl) rfl ?_
        refine ol_r (r_move rfl) rfl ?_
        refine ol_s rfl rfl rfl rfl ?_
        refine ol_s rfl rfl rfl rfl ?_
        refine ol_r (r_pickF rfl rfl rfl) rfl ?_
        refine ol_r (r_move rfl) rfl ?_
        refine ol_s rfl rfl rfl rfl ?_
        refine ol_s rfl rfl rfl rfl ?_
        refine ol_r (r_pickF rfl rfl rfl) rfl ?_
        refine ol_nil (to_k0 (fun _ _ h => h) (hK11 (_) _ _ ?_ (sub_cons rfl sub_nil) (sub_cons rfl (sub_cons rfl (sub_cons rfl sub_nil))) subH_nil subH_nil))
        try dsimp only
        first
        | exact nn_f (by omega)
      ·have phs30 := hs30; try simp only [decide_eq_true_eq, decide_eq_false_iff_not, Bool.not_eq_true', Bool.not_eq_false', Bool.not_true, Bool.not_false] at phs30
       refine ol_s rfl rfl hs30 rfl ?_
       refine ol_s rfl rfl hs30 rfl ?_
       refine ol_s rfl rfl hs30 rfl ?_
       refine ol_r (r_pickF rfl hs30 rfl) rfl ?_
       refine ol_r (r_move rfl) rfl ?_
       refine ol_s rfl rfl rfl rfl ?_
       refine ol_s rfl rfl rfl rfl ?_
       refine ol_r (r_pickF rfl rfl rfl) rfl ?_
       refine ol_r (r_move rfl) rfl ?_
       refine ol_s rfl rfl rfl rfl ?_
       refine ol_s rfl rfl rfl rfl ?_
       refine ol_r (r_pickF rfl rfl rfl) rfl ?_
       refine ol_r (r_move rfl) rfl ?_
       refine ol_s rfl rfl rfl rfl ?_
       refine ol_s rfl rfl rfl rfl ?_
       refine ol_r (r_pickF rfl rfl rfl) rfl ?_
       refine ol_nil (to_k0 (fun _ _ h => h) (hK11 (_) _ _ ?_ (sub_cons rfl sub_nil) (sub_cons rfl (sub_cons rfl (sub_cons rfl sub_nil))) subH_nil subH_nil))
       try dsimp only
       first
       | exact nn_f (by omega)
     ·rintro b rfl
      refine wp_condNB rfl (fun hc46 => ?_) (fun hc46 => ?_)
      ·refine wp_seq' fun K12 hK12 => ?_
       refine wp_reg ?_
       refine ol_r (r_assign rfl) rfl ?_
       refine ol_nil (to_k0 (fun _ _ h => h) (hK12 _ _ _ _ _ ?_))
       clear hK12
       refine hQ.ret (rvs1 (rv_t rfl)) (fun _ _ h => h) fun w hb hs hB hkd => ?_
       first
         | (refine ⟨?_, hb⟩
            have h1 : nameC (byteAt q k) = false := hc46
            have h2 : nameB q = false := by unfold nameB; rw [bytesAll_not (by omega) h1]; rfl
            rw [h2]
            done)
      ·refine wp_skip' (to_k0 (fun _ _ h => h) (hK7 _ _ _ _ _ ?_))
       clear hK7
       refine wp_reg ?_
       refine ol_r (r_add rfl rfl (by omega)) rfl ?_
       refine ol_r (r_move rfl) rfl ?_
       refine ol_nil (to_k0 (fun _ _ h => h) (hK4 (k + 1) _ _ ?_ ?_ (sub_cons rfl sub_nil) (sub_cons rfl (sub_cons rfl sub_nil)) (by exact subH_nil) subH_nil))
       ·try dsimp only
        exact ⟨by omega, up_to hP hc46⟩
       ·try dsimp only
        omega
   ·refine wp_exit' (to_k0 (fun _ _ h => h) (hK2 _ _ _ _ _ ?_))
    clear hK2
    refine wp_seq' fun K13 hK13 => ?_
    refine wp_reg ?_
    refine ol_r (r_move rfl) rfl ?_
    refine ol_r (r_lens rfl st9) rfl ?_
    refine ol_r (r_geq rfl rfl) rfl ?_
    refine ol_r (r_move rfl) rfl ?_
    refine ol_split (d := 51) rfl (fun hs51 => ?_) (fun hs51 => ?_)
    ·have phs51 := hs51; try simp only [decide_eq_true_eq, decide_eq_false_iff_not, Bool.not_eq_true', Bool.not_eq_false', Bool.not_true, Bool.not_false] at phs51
     refine ol_g rfl rfl hs51 ?_
     refine ol_r (r_move rfl) rfl ?_
     refine ol_g rfl rfl hs51 ?_
     refine ol_r (r_lens rfl st9) rfl ?_
     refine ol_g rfl rfl hs51 ?_
     refine ol_r (r_leq rfl rfl) rfl ?_
     refine ol_r (r_pickT rfl hs51 rfl) rfl ?_
     refine ol_r (r_assign rfl) rfl ?_
     refine ol_nil (to_k0 (fun _ _ h => h) (hK13 _ _ _ _ _ ?_))
     clear hK13
     refine hQ.ret (rvs1 (rv_t rfl)) (fun _ _ h => h) fun w hb hs hB hkd => ?_
     first
       | (refine ⟨?_, hb⟩
          have h1 : bytesAll nameC q = true := bytesAll_iff.2 fun i hi => hP i (by omega)
          unfold nameB
          rw [h1]
          congr 2
          simp only [Bool.true_and]
          first
            | (rw [decide_eq_true (show 1 ≤ q.size by omega), Bool.true_and, decide_eq_decide]; omega)
            | (rw [decide_eq_false (show ¬1 ≤ q.size by omega)]; rfl))
    ·have phs51 := hs51; try simp only [decide_eq_true_eq, decide_eq_false_iff_not, Bool.not_eq_true', Bool.not_eq_false', Bool.not_true, Bool.not_false] at phs51
     refine ol_s rfl rfl hs51 rfl ?_
     refine ol_s rfl rfl hs51 rfl ?_
     refine ol_s rfl rfl hs51 rfl ?_
     refine ol_r (r_pickF rfl hs51 rfl) rfl ?_
     refine ol_r (r_assign rfl) rfl ?_
     refine ol_nil (to_k0 (fun _ _ h => h) (hK13 _ _ _ _ _ ?_))
     clear hK13
     refine hQ.ret (rvs1 (rv_t rfl)) (fun _ _ h => h) fun w hb hs hB hkd => ?_
     first
       | (refine ⟨?_, hb⟩
          have h1 : bytesAll nameC q = true := bytesAll_iff.2 fun i hi => hP i (by omega)
          unfold nameB
          rw [h1]
          congr 2
          simp only [Bool.true_and]
          first
            | (rw [decide_eq_true (show 1 ≤ q.size by omega), Bool.true_and, decide_eq_decide]; omega)
            | (rw [decide_eq_false (show ¬1 ≤ q.size by omega)]; rfl))
theorem record_IsTitle (q : ByteArray) (w : World) (hq0 : q.size ≤ 9223372036854775807) : Calls Try.prog 47 #[.string q] w fun e w' => e = .returned (.bool (titleB q)) ∧ Below w.heap.size w w' := by
  refine enterQ (N := 19) (C := fun _ => True) (H := []) (B := w.heap.size) (args := [_]) Try.func47 rfl rfl rfl (Nat.le_refl _) (Sat.nil _ _) fun Q hQ => ?_
  refine wp_seq' fun K1 hK1 => ?_
  refine wp_reg ?_
  refine ol_r (r_assign rfl) rfl ?_
  refine ol_nil (to_k0 (fun _ _ h => h) (hK1 _ _ _ _ _ ?_))
  clear hK1
  refine wp_seq' fun K2 hK2 => ?_
  refine wp_seq' fun K3 hK3 => ?_
  refine wp_reg ?_
  refine ol_r (r_move rfl) rfl ?_
  refine ol_r (r_lens rfl st9) rfl ?_
  refine ol_r (r_move rfl) rfl ?_
  refine ol_nil (to_k0 (fun _ _ h => h) (hK3 _ _ _ _ _ ?_))
  clear hK3
  refine wp_block' ?_
  apply wp_loopM (σ := Nat) (fun s => s ≤ q.size ∧ ∀ i, i < s → inB (byteAt q i) 32 126 = true) (fun s => [(6, .int .i64 s)]) [(0, _), (5, _)] (fun s => []) [] (fun s => q.size - s) (0)
  ·try dsimp only
   exact ⟨Nat.zero_le _, fun i h => by omega⟩
  ·exact (sub_cons rfl sub_nil)
  ·exact (sub_cons rfl (sub_cons rfl sub_nil))
  ·exact subH_nil
  ·exact subH_nil
  ·rintro k ⟨hk, hP⟩
   intro K4 hK4
   refine wp_seq' fun K5 hK5 => ?_
   refine wp_reg ?_
   refine ol_r (r_lss rfl rfl) rfl ?_
   refine ol_nil (to_k0 (fun _ _ h => h) (hK5 _ _ _ _ _ ?_))
   clear hK5
   refine wp_seq' fun K6 hK6 => ?_
   refine wp_condD rfl (fun hc7 => ?_) (fun hc7 => ?_)
   ·refine wp_skip' (to_k0 (fun _ _ h => h) (hK6 _ _ _ _ _ ?_))
    clear hK6
    refine wp_seq' fun K7 hK7 => ?_
    refine wp_block' ?_
    refine wp_seq' fun K8 hK8 => ?_
    refine wp_reg ?_
    refine ol_r (r_move rfl) rfl ?_
    refine ol_r (r_assign rfl) rfl ?_
    refine ol_nil (to_k0 (fun _ _ h => h) (hK8 _ _ _ _ _ ?_))
    clear hK8
    refine wp_seq' fun K9 hK9 => ?_
    refine wp_reg ?_
    refine ol_r (r_move rfl) rfl ?_
    refine ol_r (r_move rfl) rfl ?_
    refine ol_r (r_sidx rfl rfl st9 (by omega)) rfl ?_
    try simp only [Int.toNat_natCast]
    have hbb := byteAt_bd q k
    refine ol_r (r_conv (k2 := .i64) rfl (by kernel_rfl) (by kernel_rfl) (IntWalk.i64_in _ (by omega))) rfl ?_
    refine ol_call rfl rfl cb45 rfl (fun w1 hb1 hs1 hB1 => Calls.mono (record_in _ _ _ _) ?_)
    rintro e w2 ⟨rfl, hb2⟩
    refine After.below rfl hb1 hs1 hB1 hb2 ?_
    clear hb2 hB1 hs1 hb1 w2 w1
    refine ol_r (r_not rfl) rfl ?_
    refine ol_nil (to_k0 (fun _ _ h => h) (hK9 _ _ _ _ _ ?_))
    clear hK9
    refine wp_condNB rfl (fun hc14 => ?_) (fun hc14 => ?_)
    ·refine wp_seq' fun K10 hK10 => ?_
     refine wp_reg ?_
     refine ol_r (r_assign rfl) rfl ?_
     refine ol_nil (to_k0 (fun _ _ h => h) (hK10 _ _ _ _ _ ?_))
     clear hK10
     refine hQ.ret (rvs1 (rv_t rfl)) (fun _ _ h => h) fun w hb hs hB hkd => ?_
     first
       | (refine ⟨?_, hb⟩
          have h1 : inB (byteAt q k) 32 126 = false := by simpa using hc14
          have h2 : titleB q = false := by unfold titleB; rw [bytesAll_not (p := fun c => inB c 32 126) (by omega) h1]; rfl
          rw [h2]
          done)
    ·refine wp_skip' (to_k0 (fun _ _ h => h) (hK7 _ _ _ _ _ ?_))
     clear hK7
     refine wp_reg ?_
     refine ol_r (r_add rfl rfl (by omega)) rfl ?_
     refine ol_r (r_move rfl) rfl ?_
     refine ol_nil (to_k0 (fun _ _ h => h) (hK4 (k + 1) _ _ ?_ ?_ (sub_cons rfl sub_nil) (sub_cons rfl (sub_cons rfl sub_nil)) (by exact subH_nil) subH_nil))
     ·try dsimp only
      refine ⟨by omega, fun i hi => ?_⟩
      by_cases h : i < k
      · exact hP i h
      · have : i = k := by omega
        subst this
        simpa using hc14
     ·try dsimp only
      omega
   ·refine wp_exit' (to_k0 (fun _ _ h => h) (hK2 _ _ _ _ _ ?_))
    clear hK2
    refine wp_seq' fun K11 hK11 => ?_
    refine wp_reg ?_
    refine ol_r (r_move rfl) rfl ?_
    refine ol_r (r_lens rfl st9) rfl ?_
    refine ol_r (r_leq rfl rfl) rfl ?_
    refine ol_r (r_assign rfl) rfl ?_
    refine ol_nil (to_k0 (fun _ _ h => h) (hK11 _ _ _ _ _ ?_))
    clear hK11
    refine hQ.ret (rvs1 (rv_t rfl)) (fun _ _ h => h) fun w hb hs hB hkd => ?_
    first
      | (refine ⟨?_, hb⟩
         have h1 : bytesAll (fun c => inB c 32 126) q = true := bytesAll_iff.2 fun i hi => hP i (by omega)
         unfold titleB
         rw [h1, Bool.true_and]
         congr 2
         rw [decide_eq_decide]; omega)
end Go.Proofs.Ytfbmkepogcimlaa

/-
  Check and Span of activities: program and reference.
-/

namespace Go.Proofs.Ytfbmkepogcimlaa
open Go Go.RowKit Hx
set_option linter.unusedVariables false
set_option linter.unusedSimpArgs false
set_option maxRecDepth 8000
theorem record_inRange (x : SmpR) (w : World) : Calls Try.prog 46 #[.agg #[.int .i64 x.at_, .int .i64 x.x, .int .i64 x.y, .int .i64 x.z, .int .i64 x.pulse, .int .i64 x.power, .int .i64 x.steps]] w fun e w' => e = .returned (.bool (smpIn x)) ∧ Below w.heap.size w w' := by
  refine enterQ (N := 33) (C := fun _ => True) (H := []) (B := w.heap.size) (args := [_]) Try.func46 rfl rfl rfl (Nat.le_refl _) (Sat.nil _ _) fun Q hQ => ?_
  refine wp_seq' fun K1 hK1 => ?_
  refine wp_reg ?_
  refine ol_box 1 rfl rfl rfl fun b1 => ?_
  refine ol_r (r_assign rfl) rfl ?_
  refine ol_nil (to_k0 (fun _ _ h => h) (hK1 _ _ _ _ _ ?_))
  clear hK1
  refine wp_seq' fun K2 hK2 => ?_
  refine wp_reg ?_
  refine ol_r (r_fa (o' := 1) rfl fl70_1 rfl) rfl ?_
  refine ol_r (r_ld (id := 1) rfl rfl rfl sc3) rfl ?_
  refine ol_call rfl rfl cb45 rfl (fun w1 hb1 hs1 hB1 => Calls.mono (record_in _ _ _ _) ?_)
  rintro e w2 ⟨rfl, hb2⟩
  refine After.below rfl hb1 hs1 hB1 hb2 ?_
  clear hb2 hB1 hs1 hb1 w2 w1
  refine ol_r (r_move rfl) rfl ?_
  refine ol_split (d := 7) rfl (fun hs7 => ?_) (fun hs7 => ?_)
  ·have phs7 := hs7; try simp only [decide_eq_true_eq, decide_eq_false_iff_not, Bool.not_eq_true', Bool.not_eq_false', Bool.not_true, Bool.not_false] at phs7
   refine ol_g rfl rfl hs7 ?_
   refine ol_r (r_fa (o' := 2) rfl fl70_2 rfl) rfl ?_
   refine ol_g rfl rfl hs7 ?_
   refine ol_r (r_ld (id := 1) rfl rfl rfl sc3) rfl ?_
   refine ol_g rfl rfl hs7 ?_
   refine ol_call rfl rfl cb45 rfl (fun w1 hb1 hs1 hB1 => Calls.mono (record_in _ _ _ _) ?_)
   rintro e w2 ⟨rfl, hb2⟩
   refine After.below rfl hb1 hs1 hB1 hb2 ?_
   clear hb2 hB1 hs1 hb1 w2 w1
   refine ol_r (r_pickT rfl hs7 rfl) rfl ?_
   refine ol_r (r_move rfl) rfl ?_
   refine ol_split (d := 12) rfl (fun hs12 => ?_) (fun hs12 => ?_)
   ·have phs12 := hs12; try simp only [decide_eq_true_eq, decide_eq_false_iff_not, Bool.not_eq_true', Bool.not_eq_false', Bool.not_true, Bool.not_false] at phs12
    refine ol_g rfl rfl hs12 ?_
    refine ol_r (r_fa (o' := 3) rfl fl70_3 rfl) rfl ?_
    refine ol_g rfl rfl hs12 ?_
    refine ol_r (r_ld (id := 1) rfl rfl rfl sc3) rfl ?_
    refine ol_g rfl rfl hs12 ?_
    refine ol_call rfl rfl cb45 rfl (fun w1 hb1 hs1 hB1 => Calls.mono (record_in _ _ _ _) ?_)
    rintro e w2 ⟨rfl, hb2⟩
    refine After.below rfl hb1 hs1 hB1 hb2 ?_
    clear hb2 hB1 hs1 hb1 w2 w1
    refine ol_r (r_pickT rfl hs12 rfl) rfl ?_
    refine ol_r (r_assign rfl) rfl ?_
    refine ol_nil (to_k0 (fun _ _ h => h) (hK2 _ _ _ _ _ ?_))
    clear hK2
    refine wp_seq' fun K3 hK3 => ?_
    refine wp_reg ?_
    refine ol_r (r_move rfl) rfl ?_
    refine ol_r (r_move rfl) rfl ?_
    refine ol_split (d := 18) rfl (fun hs18 => ?_) (fun hs18 => ?_)
    ·have phs18 := hs18; try simp only [decide_eq_true_eq, decide_eq_false_iff_not, Bool.not_eq_true', Bool.not_eq_false', Bool.not_true, Bool.not_false] at phs18
     refine ol_g rfl rfl hs18 ?_
     refine ol_r (r_fa (o' := 4) rfl fl70_4 rfl) rfl ?_
     refine ol_g rfl rfl hs18 ?_
     refine ol_r (r_ld (id := 1) rfl rfl rfl sc3) rfl ?_
     refine ol_g rfl rfl hs18 ?_
     refine ol_call rfl rfl cb45 rfl (fun w1 hb1 hs1 hB1 => Calls.mono (record_in _ _ _ _) ?_)
     rintro e w2 ⟨rfl, hb2⟩
     refine After.below rfl hb1 hs1 hB1 hb2 ?_
     clear hb2 hB1 hs1 hb1 w2 w1
     refine ol_r (r_pickT rfl hs18 rfl) rfl ?_
     refine ol_r (r_move rfl) rfl ?_
     refine ol_split (d := 23) rfl (fun hs23 => ?_) (fun hs23 => ?_)
     ·have phs23 := hs23; try simp only [decide_eq_true_eq, decide_eq_false_iff_not, Bool.not_eq_true', Bool.not_eq_false', Bool.not_true, Bool.not_false] at phs23
      refine ol_g rfl rfl hs23 ?_
      refine ol_r (r_fa (o' := 5) rfl fl70_5 rfl) rfl ?_
      refine ol_g rfl rfl hs23 ?_
      refine ol_r (r_ld (id := 1) rfl rfl rfl sc3) rfl ?_
      refine ol_g rfl rfl hs23 ?_
      refine ol_call rfl rfl cb45 rfl (fun w1 hb1 hs1 hB1 => Calls.mono (record_in _ _ _ _) ?_)
      rintro e w2 ⟨rfl, hb2⟩
      refine After.below rfl hb1 hs1 hB1 hb2 ?_
      clear hb2 hB1 hs1 hb1 w2 w1
      refine ol_r (r_pickT rfl hs23 rfl) rfl ?_
      refine ol_r (r_move rfl) rfl ?_
      refine ol_split (d := 28) rfl (fun hs28 => ?_) (fun hs28 => ?_)
      ·have phs28 := hs28; try simp only [decide_eq_true_eq, decide_eq_false_iff_not, Bool.not_eq_true', Bool.not_eq_false', Bool.not_true, Bool.not_false] at phs28
       refine ol_g rfl rfl hs28 ?_
       refine ol_r (r_fa (o' := 6) rfl fl70_6 rfl) rfl ?_
       refine ol_g rfl rfl hs28 ?_
       refine ol_r (r_ld (id := 1) rfl rfl rfl sc3) rfl ?_
       refine ol_g rfl rfl hs28 ?_
       refine ol_call rfl rfl cb45 rfl (fun w1 hb1 hs1 hB1 => Calls.mono (record_in _ _ _ _) ?_)
       rintro e w2 ⟨rfl, hb2⟩
       refine After.below rfl hb1 hs1 hB1 hb2 ?_
       clear hb2 hB1 hs1 hb1 w2 w1
       refine ol_r (r_pickT rfl hs28 rfl) rfl ?_
       refine ol_r (r_assign rfl) rfl ?_
       refine ol_nil (to_k0 (fun _ _ h => h) (hK3 _ _ _ _ _ ?_))
       clear hK3
       refine hQ.ret (rvs1 (rv_t rfl)) (fun _ _ h => h) fun w hb hs hB hkd => ?_
       refine ⟨?_, hb⟩
       unfold smpIn
       first
         | (simp_all; done)
         | (congr 2; simp_all; done)
      ·have phs28 := hs28; try simp only [decide_eq_true_eq, decide_eq_false_iff_not, Bool.not_eq_true', Bool.not_eq_false', Bool.not_true, Bool.not_false] at phs28
       refine ol_s rfl rfl hs28 rfl ?_
       refine ol_s rfl rfl hs28 rfl ?_
       refine ol_s rfl rfl hs28 rfl ?_
       refine ol_r (r_pickF rfl hs28 rfl) rfl ?_
       refine ol_r (r_assign rfl) rfl ?_
       refine ol_nil (to_k0 (fun _ _ h => h) (hK3 _ _ _ _ _ ?_))
       clear hK3
       refine hQ.ret (rvs1 (rv_t rfl)) (fun _ _ h => h) fun w hb hs hB hkd => ?_
       refine ⟨?_, hb⟩
       unfold smpIn
       first
         | (simp_all; done)
         | (congr 2; simp_all; done)
     ·have phs23 := hs23; try simp only [decide_eq_true_eq, decide_eq_false_iff_not, Bool.not_eq_true', Bool.not_eq_false', Bool.not_true, Bool.not_false] at phs23
      refine ol_s rfl rfl hs23 rfl ?_
      refine ol_s rfl rfl hs23 rfl ?_
      refine ol_s rfl rfl hs23 rfl ?_
      refine ol_r (r_pickF rfl hs23 rfl) rfl ?_
      refine ol_r (r_move rfl) rfl ?_
      refine ol_s rfl rfl rfl rfl ?_
      refine ol_s rfl rfl rfl rfl ?_
      refine ol_s rfl rfl rfl rfl ?_
      refine ol_r (r_pickF rfl rfl rfl) rfl ?_
      refine ol_r (r_assign rfl) rfl ?_
      refine ol_nil (to_k0 (fun _ _ h => h) (hK3 _ _ _ _ _ ?_))
      clear hK3
      refine hQ.ret (rvs1 (rv_t rfl)) (fun _ _ h => h) fun w hb hs hB hkd => ?_
      refine ⟨?_, hb⟩
      unfold smpIn
      first
        | (simp_all; done)
        | (congr 2; simp_all; done)
    ·have phs18 := hs18; try simp only [decide_eq_true_eq, decide_eq_false_iff_not, Bool.not_eq_true', Bool.not_eq_false', Bool.not_true, Bool.not_false] at phs18
     refine ol_s rfl rfl hs18 rfl ?_
     refine ol_s rfl rfl hs18 rfl ?_
     refine ol_s rfl rfl hs18 rfl ?_
     refine ol_r (r_pickF rfl hs18 rfl) rfl ?_
     refine ol_r (r_move rfl) rfl ?_
     refine ol_s rfl rfl rfl rfl ?_
     refine ol_s rfl rfl rfl rfl ?_
     refine ol_s rfl rfl rfl rfl ?_
     refine ol_r (r_pickF rfl rfl rfl) rfl ?_
     refine ol_r (r_move rfl) rfl ?_
     refine ol_s rfl rfl rfl rfl ?_
     refine ol_s rfl rfl rfl rfl ?_
     refine ol_s rfl rfl rfl rfl ?_
     refine ol_r (r_pickF rfl rfl rfl) rfl ?_
     refine ol_r (r_assign rfl) rfl ?_
     refine ol_nil (to_k0 (fun _ _ h => h) (hK3 _ _ _ _ _ ?_))
     clear hK3
     refine hQ.ret (rvs1 (rv_t rfl)) (fun _ _ h => h) fun w hb hs hB hkd => ?_
     refine ⟨?_, hb⟩
     unfold smpIn
     first
       | (simp_all; done)
       | (congr 2; simp_all; done)
   ·have phs12 := hs12; try simp only [decide_eq_true_eq, decide_eq_false_iff_not, Bool.not_eq_true', Bool.not_eq_false', Bool.not_true, Bool.not_false] at phs12
    refine ol_s rfl rfl hs12 rfl ?_
    refine ol_s rfl rfl hs12 rfl ?_
    refine ol_s rfl rfl hs12 rfl ?_
    refine ol_r (r_pickF rfl hs12 rfl) rfl ?_
    refine ol_r (r_assign rfl) rfl ?_
    refine ol_nil (to_k0 (fun _ _ h => h) (hK2 _ _ _ _ _ ?_))
    clear hK2
    refine wp_seq' fun K4 hK4 => ?_
    refine wp_reg ?_
    refine ol_r (r_move rfl) rfl ?_
    refine ol_r (r_move rfl) rfl ?_
    refine ol_s rfl rfl rfl rfl ?_
    refine ol_s rfl rfl rfl rfl ?_
    refine ol_s rfl rfl rfl rfl ?_
    refine ol_r (r_pickF rfl rfl rfl) rfl ?_
    refine ol_r (r_move rfl) rfl ?_
    refine ol_s rfl rfl rfl rfl ?_
    refine ol_s rfl rfl rfl rfl ?_
    refine ol_s rfl rfl rfl rfl ?_
    refine ol_r (r_pickF rfl rfl rfl) rfl ?_
    refine ol_r (r_move rfl) rfl ?_
    refine ol_s rfl rfl rfl rfl ?_
    refine ol_s rfl rfl rfl rfl ?_
    refine ol_s rfl rfl rfl rfl ?_
    refine ol_r (r_pickF rfl rfl rfl) rfl ?_
    refine ol_r (r_assign rfl) rfl ?_
    refine ol_nil (to_k0 (fun _ _ h => h) (hK4 _ _ _ _ _ ?_))
    clear hK4
    refine hQ.ret (rvs1 (rv_t rfl)) (fun _ _ h => h) fun w hb hs hB hkd => ?_
    refine ⟨?_, hb⟩
    unfold smpIn
    first
      | (simp_all; done)
      | (congr 2; simp_all; done)
  ·have phs7 := hs7; try simp only [decide_eq_true_eq, decide_eq_false_iff_not, Bool.not_eq_true', Bool.not_eq_false', Bool.not_true, Bool.not_false] at phs7
   refine ol_s rfl rfl hs7 rfl ?_
   refine ol_s rfl rfl hs7 rfl ?_
   refine ol_s rfl rfl hs7 rfl ?_
   refine ol_r (r_pickF rfl hs7 rfl) rfl ?_
   refine ol_r (r_move rfl) rfl ?_
   refine ol_s rfl rfl rfl rfl ?_
   refine ol_s rfl rfl rfl rfl ?_
   refine ol_s rfl rfl rfl rfl ?_
   refine ol_r (r_pickF rfl rfl rfl) rfl ?_
   refine ol_r (r_assign rfl) rfl ?_
   refine ol_nil (to_k0 (fun _ _ h => h) (hK2 _ _ _ _ _ ?_))
   clear hK2
   refine wp_seq' fun K5 hK5 => ?_
   refine wp_reg ?_
   refine ol_r (r_move rfl) rfl ?_
   refine ol_r (r_move rfl) rfl ?_
   refine ol_s rfl rfl rfl rfl ?_
   refine ol_s rfl rfl rfl rfl ?_
   refine ol_s rfl rfl rfl rfl ?_
   refine ol_r (r_pickF rfl rfl rfl) rfl ?_
   refine ol_r (r_move rfl) rfl ?_
   refine ol_s rfl rfl rfl rfl ?_
   refine ol_s rfl rfl rfl rfl ?_
   refine ol_s rfl rfl rfl rfl ?_
   refine ol_r (r_pickF rfl rfl rfl) rfl ?_
   refine ol_r (r_move rfl) rfl ?_
   refine ol_s rfl rfl rfl rfl ?_
   refine ol_s rfl rfl rfl rfl ?_
   refine ol_s rfl rfl rfl rfl ?_
   refine ol_r (r_pickF rfl rfl rfl) rfl ?_
   refine ol_r (r_assign rfl) rfl ?_
   refine ol_nil (to_k0 (fun _ _ h => h) (hK5 _ _ _ _ _ ?_))
   clear hK5
   refine hQ.ret (rvs1 (rv_t rfl)) (fun _ _ h => h) fun w hb hs hB hkd => ?_
   refine ⟨?_, hb⟩
   unfold smpIn
   first
     | (simp_all; done)
     | (congr 2; simp_all; done)
theorem record_Span (A : ActV) (w : World) (hA : A.Ok w.heap.size w) : Calls Try.prog 41 #[.agg #[.string A.name, .int .i64 A.sport, .int .i64 A.start, .slice A.sa A.sn A.sc, .slice A.la A.ln A.lc, .slice A.ta A.tn A.tc]] w fun e w' => e = .returned (.int .i64 (spanL A.ss)) ∧ Below w.heap.size w w' := by
  have hn := hA.s.len
  have hfit := hA.s.fit
  refine enterQ (N := 16) (C := fun _ => True) (H := []) (B := w.heap.size) (args := [_]) Try.func41 rfl rfl rfl (Nat.le_refl _) (Sat.nil _ _) fun Q hQ => ?_
  refine wp_seq' fun K1 hK1 => ?_
  refine wp_reg ?_
  refine ol_box 1 rfl rfl rfl fun b1 => ?_
  refine ol_r (r_assign rfl) rfl ?_
  refine ol_nil (to_k0 (fun _ _ h => h) (hK1 _ _ _ _ _ ?_))
  clear hK1
  refine wp_seq' fun K2 hK2 => ?_
  refine wp_seq' fun K3 hK3 => ?_
  refine wp_reg ?_
  refine ol_r (r_fa (o' := 3) rfl fl57_3 rfl) rfl ?_
  refine ol_r (r_ld (id := 1) rfl rfl rfl sc53) rfl ?_
  refine ol_r (r_len rfl sl53) rfl ?_
  refine ol_r (r_assign rfl) rfl ?_
  refine ol_nil (to_k0 (fun _ _ h => h) (hK3 _ _ _ _ _ ?_))
  clear hK3
  refine wp_seq' fun K4 hK4 => ?_
  refine wp_reg ?_
  refine ol_r (r_move rfl) rfl ?_
  refine ol_r (r_gtr rfl rfl) rfl ?_
  refine ol_nil (to_k0 (fun _ _ h => h) (hK4 _ _ _ _ _ ?_))
  clear hK4
  refine wp_condD rfl (fun hc8 => ?_) (fun hc8 => ?_)
  ·refine wp_seq' fun K5 hK5 => ?_
   refine wp_reg ?_
   refine ol_r (r_fa (o' := 3) rfl fl57_3 rfl) rfl ?_
   refine ol_r (r_ld (id := 1) rfl rfl rfl sc53) rfl ?_
   refine ol_r (r_move rfl) rfl ?_
   refine ol_r (r_sub rfl rfl (by omega)) rfl ?_
   refine ol_ixr hA.s rfl rfl sl53 (by omega) rfl fun x13 hx13 => ?_
   try simp only [Int.toNat_natCast] at hx13
   refine ol_r (r_faw rfl (ix_some hA.s (by omega)) fl70_0) rfl ?_
   refine ol_r (r_ldw rfl (fun w1 hb1 hs1 hB1 => Rd.loadsF (o := 0) hA.s sc3 hx13 hb1 rfl)) rfl ?_
   refine ol_r (r_assign rfl) rfl ?_
   refine ol_nil (to_k0 (fun _ _ h => h) (hK5 _ _ _ _ _ ?_))
   clear hK5
   refine hQ.ret (rvs1 (rv_t rfl)) (fun _ _ h => h) fun w hb hs hB hkd => ?_
   exact ⟨by rw [spanL_get hx13 (by omega)], hb⟩
  ·refine wp_skip' (to_k0 (fun _ _ h => h) (hK2 _ _ _ _ _ ?_))
   clear hK2
   refine wp_seq' fun K6 hK6 => ?_
   refine wp_reg ?_
   refine ol_r (r_assign rfl) rfl ?_
   refine ol_nil (to_k0 (fun _ _ h => h) (hK6 _ _ _ _ _ ?_))
   clear hK6
   refine hQ.ret (rvs1 (rv_t rfl)) (fun _ _ h => h) fun w hb hs hB hkd => ?_
   exact ⟨by rw [spanL_nil (by omega)], hb⟩
theorem pos_ahead {ss : List SmpR} {k : Nat} (h : ∀ j y, j < k → ss[j]? = some y → 0 ≤ y.at_) {x y : SmpR} (hk : (0 : Int) < k) (hy : ss[((k : Int) - 1).toNat]? = some y) : 0 ≤ y.at_ := h _ y (by omega) hy
theorem pos_next {ss : List SmpR} {k : Nat} (h : ∀ j y, j < k → ss[j]? = some y → 0 ≤ y.at_) {x : SmpR} (hx : ss[k]? = some x) (h0 : 0 ≤ x.at_) : ∀ j y, j < k + 1 → ss[j]? = some y → 0 ≤ y.at_ := fun j y hj hy => by
  by_cases hjk : j < k
  · exact h j y hjk hy
  · have : j = k := by omega
    subst this
    rw [hx] at hy; cases hy; exact h0
theorem fS_is {st : Int} {p : Option SmpR} {x : SmpR} (h : ordS p x = false) (h1 : x.at_ ≤ 1000000) (h2 : st + x.at_ ≤ 86399999999) (h3 : smpIn x = true) : fS st p x = 0 := by
  unfold fS
  rw [if_neg (by rw [h]; simp), if_neg]
  rintro (h | h | h)
  · omega
  · omega
  · rw [h3] at h; cases h
theorem fS_10 {st : Int} {p : Option SmpR} {x : SmpR} (h : ordS p x = true) : fS st p x = 10 := by unfold fS; rw [if_pos h]
theorem fS_9 {st : Int} {p : Option SmpR} {x : SmpR} (h : ordS p x = false) (h1 : 1000000 < x.at_ ∨ 86399999999 < st + x.at_ ∨ smpIn x = false) : fS st p x = 9 := by
  unfold fS; rw [if_neg (by rw [h]; simp), if_pos h1]
theorem ordS_0 {ss : List SmpR} {k : Nat} {x : SmpR} (hk : (k : Int) = 0) : ordS (ahead ss k) x = decide (x.at_ ≠ 0) := by rw [ahead_none hk]; rfl
theorem ordS_1 {ss : List SmpR} {k : Nat} {x y : SmpR} (hk : (0 : Int) < k) (hy : ss[((k : Int) - 1).toNat]? = some y) : ordS (ahead ss k) x = decide (x.at_ ≤ y.at_) := by rw [ahead_pred hk hy]; rfl
theorem ordL_0 {ls : List LapR} {k : Nat} {x : LapR} (hk : (k : Int) = 0) : ordL (ahead ls k) x = false := by rw [ahead_none hk]; rfl
theorem ordL_1 {ls : List LapR} {k : Nat} {x y : LapR} (hk : (0 : Int) < k) (hy : ls[((k : Int) - 1).toNat]? = some y) : ordL (ahead ls k) x = decide (x.from_ < y.to) := by rw [ahead_pred hk hy]; rfl
theorem ordT_0 {ts : List ByteArray} {k : Nat} {x : ByteArray} (hk : (k : Int) = 0) : ordT (ahead ts k) x = false := by rw [ahead_none hk]; rfl
theorem ordT_1 {ts : List ByteArray} {k : Nat} {x y : ByteArray} (hk : (0 : Int) < k) (hy : ts[((k : Int) - 1).toNat]? = some y) : ordT (ahead ts k) x = sLe x y := by rw [ahead_pred hk hy]; rfl
theorem fL_9 {sp : Int} {p : Option LapR} {x : LapR} (h : x.from_ < 0 ∨ x.to ≤ x.from_ ∨ sp < x.to) : fL sp p x = 9 := by unfold fL; rw [if_pos h]
theorem fL_10 {sp : Int} {p : Option LapR} {x : LapR} (h : ¬(x.from_ < 0 ∨ x.to ≤ x.from_ ∨ sp < x.to)) (h2 : ordL p x = true) : fL sp p x = 10 := by unfold fL; rw [if_neg h, if_pos h2]
theorem fL_8 {sp : Int} {p : Option LapR} {x : LapR} (h : ¬(x.from_ < 0 ∨ x.to ≤ x.from_ ∨ sp < x.to)) (h2 : ordL p x = false) (h3 : titleB x.name = false) : fL sp p x = 8 := by unfold fL; rw [if_neg h, if_neg (by rw [h2]; simp), if_pos h3]
theorem fL_0 {sp : Int} {p : Option LapR} {x : LapR} (h : ¬(x.from_ < 0 ∨ x.to ≤ x.from_ ∨ sp < x.to)) (h2 : ordL p x = false) (h3 : titleB x.name = true) : fL sp p x = 0 := by unfold fL; rw [if_neg h, if_neg (by rw [h2]; simp), if_neg (by rw [h3]; simp)]
theorem fT_8 {p : Option ByteArray} {x : ByteArray} (h : nameB x = false) : fT p x = 8 := by unfold fT; rw [if_pos h]
theorem fT_10 {p : Option ByteArray} {x : ByteArray} (h : nameB x = true) (h2 : ordT p x = true) : fT p x = 10 := by unfold fT; rw [if_neg (by rw [h]; simp), if_pos h2]
theorem fT_0 {p : Option ByteArray} {x : ByteArray} (h : nameB x = true) (h2 : ordT p x = false) : fT p x = 0 := by unfold fT; rw [if_neg (by rw [h]; simp), if_neg (by rw [h2]; simp)]
theorem record_Check (A : ActV) (w : World) (hA : A.Ok w.heap.size w) : Calls Try.prog 20 #[.agg #[.string A.name, .int .i64 A.sport, .int .i64 A.start, .slice A.sa A.sn A.sc, .slice A.la A.ln A.lc, .slice A.ta A.tn A.tc]] w fun e w' => e = .returned (.int .i64 (chkA A.d)) ∧ Below w.heap.size w w' := by
  have hsn := hA.s.len
  have hln := hA.l.len
  have htn := hA.t.len
  have hsf := hA.s.fit
  have hlf := hA.l.fit
  have htf := hA.t.fit
  refine enterQ (N := 164) (C := fun _ => True) (H := []) (B := w.heap.size) (args := [_]) Try.func20 rfl rfl rfl (Nat.le_refl _) (Sat.nil _ _) fun Q hQ => ?_
  refine wp_seq' fun K1 hK1 => ?_
  refine wp_reg ?_
  refine ol_box 1 rfl rfl rfl fun b1 => ?_
  refine ol_r (r_assign rfl) rfl ?_
  refine ol_nil (to_k0 (fun _ _ h => h) (hK1 _ _ _ _ _ ?_))
  clear hK1
  refine wp_seq' fun K2 hK2 => ?_
  refine wp_block' ?_
  refine wp_seq' fun K3 hK3 => ?_
  refine wp_reg ?_
  refine ol_r (r_fa (o' := 0) rfl fl57_0 rfl) rfl ?_
  refine ol_r (r_ld (id := 1) rfl rfl rfl sc9) rfl ?_
  refine ol_call rfl rfl cb32 rfl (fun w1 hb1 hs1 hB1 => Calls.mono (quant_IsName A.name _ hA.nm) ?_)
  rintro e w2 ⟨rfl, hb2⟩
  refine After.below rfl hb1 hs1 hB1 hb2 ?_
  clear hb2 hB1 hs1 hb1 w2 w1
  refine ol_r (r_not rfl) rfl ?_
  refine ol_r (r_assign rfl) rfl ?_
  refine ol_nil (to_k0 (fun _ _ h => h) (hK3 _ _ _ _ _ ?_))
  clear hK3
  refine wp_condNB rfl (fun hc10 => ?_) (fun hc10 => ?_)
  ·refine wp_seq' fun K4 hK4 => ?_
   refine wp_reg ?_
   refine ol_r (r_assign rfl) rfl ?_
   refine ol_nil (to_k0 (fun _ _ h => h) (hK4 _ _ _ _ _ ?_))
   clear hK4
   refine hQ.ret (rvs1 (rv_t rfl)) (fun _ _ h => h) fun w hb hs hB hkd => ?_
   first
     | (exact ⟨by rw [chkA_8 (a := A.d) (show nameB A.name = false by simpa using hc10)], hb⟩; done)
  ·refine wp_seq' fun K5 hK5 => ?_
   refine wp_reg ?_
   refine ol_r (r_fa (o' := 1) rfl fl57_1 rfl) rfl ?_
   refine ol_r (r_ld (id := 1) rfl rfl rfl sc3) rfl ?_
   refine ol_call rfl rfl cb45 rfl (fun w1 hb1 hs1 hB1 => Calls.mono (record_in _ _ _ _) ?_)
   rintro e w2 ⟨rfl, hb2⟩
   refine After.below rfl hb1 hs1 hB1 hb2 ?_
   clear hb2 hB1 hs1 hb1 w2 w1
   refine ol_r (r_not rfl) rfl ?_
   refine ol_r (r_assign rfl) rfl ?_
   refine ol_nil (to_k0 (fun _ _ h => h) (hK5 _ _ _ _ _ ?_))
   clear hK5
   refine wp_condNB rfl (fun hc15 => ?_) (fun hc15 => ?_)
   ·refine wp_seq' fun K6 hK6 => ?_
    refine wp_reg ?_
    refine ol_r (r_assign rfl) rfl ?_
    refine ol_nil (to_k0 (fun _ _ h => h) (hK6 _ _ _ _ _ ?_))
    clear hK6
    refine hQ.ret (rvs1 (rv_t rfl)) (fun _ _ h => h) fun w hb hs hB hkd => ?_
    first
      | (exact ⟨by rw [chkA_7 (a := A.d) (show nameB A.name = true by simpa using hc10) (show inB A.sport 1 5 = false by simpa using hc15)], hb⟩; done)
   ·refine wp_seq' fun K7 hK7 => ?_
    refine wp_reg ?_
    refine ol_r (r_fa (o' := 2) rfl fl57_2 rfl) rfl ?_
    refine ol_r (r_ld (id := 1) rfl rfl rfl sc3) rfl ?_
    refine ol_call rfl rfl cb45 rfl (fun w1 hb1 hs1 hB1 => Calls.mono (record_in _ _ _ _) ?_)
    rintro e w2 ⟨rfl, hb2⟩
    refine After.below rfl hb1 hs1 hB1 hb2 ?_
    clear hb2 hB1 hs1 hb1 w2 w1
    refine ol_r (r_not rfl) rfl ?_
    refine ol_r (r_assign rfl) rfl ?_
    refine ol_nil (to_k0 (fun _ _ h => h) (hK7 _ _ _ _ _ ?_))
    clear hK7
    refine wp_condNB rfl (fun hc20 => ?_) (fun hc20 => ?_)
    ·refine wp_seq' fun K8 hK8 => ?_
     refine wp_reg ?_
     refine ol_r (r_assign rfl) rfl ?_
     refine ol_nil (to_k0 (fun _ _ h => h) (hK8 _ _ _ _ _ ?_))
     clear hK8
     refine hQ.ret (rvs1 (rv_t rfl)) (fun _ _ h => h) fun w hb hs hB hkd => ?_
     first
       | (exact ⟨by rw [chkA_9 (a := A.d) (show nameB A.name = true by simpa using hc10) (show inB A.sport 1 5 = true by simpa using hc15) (show inB A.start 0 86399999999 = false by simpa using hc20)], hb⟩; done)
    ·refine wp_seq' fun K9 hK9 => ?_
     refine wp_reg ?_
     refine ol_r (r_fa (o' := 3) rfl fl57_3 rfl) rfl ?_
     refine ol_r (r_ld (id := 1) rfl rfl rfl sc53) rfl ?_
     refine ol_r (r_len rfl sl53) rfl ?_
     refine ol_r (r_gtr rfl rfl) rfl ?_
     refine ol_r (r_move rfl) rfl ?_
     refine ol_split (d := 30) rfl (fun hs30 => ?_) (fun hs30 => ?_)
     ·have phs30 := hs30; try simp only [decide_eq_true_eq, decide_eq_false_iff_not, Bool.not_eq_true', Bool.not_eq_false', Bool.not_true, Bool.not_false] at phs30
      refine ol_s rfl rfl hs30 rfl ?_
      refine ol_s rfl rfl hs30 rfl ?_
      refine ol_s rfl rfl hs30 rfl ?_
      refine ol_s rfl rfl hs30 rfl ?_
      refine ol_r (r_pickT rfl hs30 rfl) rfl ?_
      refine ol_r (r_move rfl) rfl ?_
      refine ol_s rfl rfl rfl rfl ?_
      refine ol_s rfl rfl rfl rfl ?_
      refine ol_s rfl rfl rfl rfl ?_
      refine ol_s rfl rfl rfl rfl ?_
      refine ol_r (r_pickT rfl rfl rfl) rfl ?_
      refine ol_r (r_assign rfl) rfl ?_
      refine ol_nil (to_k0 (fun _ _ h => h) (hK9 _ _ _ _ _ ?_))
      clear hK9
      refine wp_condT rfl ?_
      refine wp_seq' fun K10 hK10 => ?_
      refine wp_reg ?_
      refine ol_r (r_assign rfl) rfl ?_
      refine ol_nil (to_k0 (fun _ _ h => h) (hK10 _ _ _ _ _ ?_))
      clear hK10
      refine hQ.ret (rvs1 (rv_t rfl)) (fun _ _ h => h) fun w hb hs hB hkd => ?_
      first
        | (exact ⟨by rw [chkA_3 (a := A.d) (show nameB A.name = true by simpa using hc10) (show inB A.sport 1 5 = true by simpa using hc15) (show inB A.start 0 86399999999 = true by simpa using hc20) (show 20000 < A.ss.length ∨ 200 < A.ls.length ∨ 20 < A.ts.length by omega)], hb⟩; done)
     ·have phs30 := hs30; try simp only [decide_eq_true_eq, decide_eq_false_iff_not, Bool.not_eq_true', Bool.not_eq_false', Bool.not_true, Bool.not_false] at phs30
      refine ol_g rfl rfl hs30 ?_
      refine ol_r (r_fa (o' := 4) rfl fl57_4 rfl) rfl ?_
      refine ol_g rfl rfl hs30 ?_
      refine ol_r (r_ld (id := 1) rfl rfl rfl sc54) rfl ?_
      refine ol_g rfl rfl hs30 ?_
      refine ol_r (r_len rfl sl54) rfl ?_
      refine ol_g rfl rfl hs30 ?_
      refine ol_r (r_gtr rfl rfl) rfl ?_
      refine ol_r (r_pickF rfl hs30 rfl) rfl ?_
      refine ol_r (r_move rfl) rfl ?_
      refine ol_split (d := 36) rfl (fun hs36 => ?_) (fun hs36 => ?_)
      ·have phs36 := hs36; try simp only [decide_eq_true_eq, decide_eq_false_iff_not, Bool.not_eq_true', Bool.not_eq_false', Bool.not_true, Bool.not_false] at phs36
       refine ol_s rfl rfl hs36 rfl ?_
       refine ol_s rfl rfl hs36 rfl ?_
       refine ol_s rfl rfl hs36 rfl ?_
       refine ol_s rfl rfl hs36 rfl ?_
       refine ol_r (r_pickT rfl hs36 rfl) rfl ?_
       refine ol_r (r_assign rfl) rfl ?_
       refine ol_nil (to_k0 (fun _ _ h => h) (hK9 _ _ _ _ _ ?_))
       clear hK9
       refine wp_condT rfl ?_
       refine wp_seq' fun K11 hK11 => ?_
       refine wp_reg ?_
       refine ol_r (r_assign rfl) rfl ?_
       refine ol_nil (to_k0 (fun _ _ h => h) (hK11 _ _ _ _ _ ?_))
       clear hK11
       refine hQ.ret (rvs1 (rv_t rfl)) (fun _ _ h => h) fun w hb hs hB hkd => ?_
       first
         | (exact ⟨by rw [chkA_3 (a := A.d) (show nameB A.name = true by simpa using hc10) (show inB A.sport 1 5 = true by simpa using hc15) (show inB A.start 0 86399999999 = true by simpa using hc20) (show 20000 < A.ss.length ∨ 200 < A.ls.length ∨ 20 < A.ts.length by omega)], hb⟩; done)
      ·have phs36 := hs36; try simp only [decide_eq_true_eq, decide_eq_false_iff_not, Bool.not_eq_true', Bool.not_eq_false', Bool.not_true, Bool.not_false] at phs36
       refine ol_g rfl rfl hs36 ?_
       refine ol_r (r_fa (o' := 5) rfl fl57_5 rfl) rfl ?_
       refine ol_g rfl rfl hs36 ?_
       refine ol_r (r_ld (id := 1) rfl rfl rfl sc55) rfl ?_
       refine ol_g rfl rfl hs36 ?_
       refine ol_r (r_len rfl sl55) rfl ?_
       refine ol_g rfl rfl hs36 ?_
       refine ol_r (r_gtr rfl rfl) rfl ?_
       refine ol_r (r_pickF rfl hs36 rfl) rfl ?_
       refine ol_r (r_assign rfl) rfl ?_
       refine ol_nil (to_k0 (fun _ _ h => h) (hK9 _ _ _ _ _ ?_))
       clear hK9
       refine wp_condD rfl (fun hc25 => ?_) (fun hc25 => ?_)
       ·refine wp_seq' fun K12 hK12 => ?_
        refine wp_reg ?_
        refine ol_r (r_assign rfl) rfl ?_
        refine ol_nil (to_k0 (fun _ _ h => h) (hK12 _ _ _ _ _ ?_))
        clear hK12
        refine hQ.ret (rvs1 (rv_t rfl)) (fun _ _ h => h) fun w hb hs hB hkd => ?_
        first
          | (exact ⟨by rw [chkA_3 (a := A.d) (show nameB A.name = true by simpa using hc10) (show inB A.sport 1 5 = true by simpa using hc15) (show inB A.start 0 86399999999 = true by simpa using hc20) (show 20000 < A.ss.length ∨ 200 < A.ls.length ∨ 20 < A.ts.length by omega)], hb⟩; done)
       ·refine wp_skip' (to_k0 (fun _ _ h => h) (hK2 _ _ _ _ _ ?_))
        clear hK2
        refine wp_seq' fun K13 hK13 => ?_
        refine wp_seq' fun K14 hK14 => ?_
        refine wp_reg ?_
        have hH : headA A.d := ⟨show nameB A.name = true by simpa using hc10, show inB A.sport 1 5 = true by simpa using hc15, show inB A.start 0 86399999999 = true by simpa using hc20, by show A.ss.length ≤ 20000; simp_all; omega, by show A.ls.length ≤ 200; simp_all; omega, by show A.ts.length ≤ 20; simp_all; omega⟩
        have hst := inB_iff.1 hH.2.2.1
        simp only [ActV.d] at hst
        refine ol_r (r_fa (o' := 3) rfl fl57_3 rfl) rfl ?_
        refine ol_r (r_ld (id := 1) rfl rfl rfl sc53) rfl ?_
        refine ol_r (r_len rfl sl53) rfl ?_
        refine ol_r (r_move rfl) rfl ?_
        refine ol_nil (to_k0 (fun _ _ h => h) (hK14 _ _ _ _ _ ?_))
        clear hK14
        refine wp_block' ?_
        apply wp_loopM (σ := Nat) (fun s => s ≤ A.sn ∧ chkE (fS A.start) none A.ss = chkE (fS A.start) (ahead A.ss s) (A.ss.drop s) ∧ (∀ j y, j < s → A.ss[j]? = some y → 0 ≤ y.at_)) (fun s => [(45, .int .i64 s)]) [(1, _), (43, _), (44, _)] (fun s => []) [(1, _)] (fun s => A.sn - s) (0)
        ·try dsimp only
         exact ⟨Nat.zero_le _, chkE_start _ _, fun j y h => by omega⟩
        ·exact (sub_cons rfl sub_nil)
        ·exact (sub_cons rfl (sub_cons rfl (sub_cons rfl sub_nil)))
        ·exact subH_nil
        ·exact (subH_same rfl subH_nil)
        ·rintro k ⟨hk, hP, hpos⟩
         intro K15 hK15
         refine wp_seq' fun K16 hK16 => ?_
         refine wp_reg ?_
         refine ol_r (r_lss rfl rfl) rfl ?_
         refine ol_nil (to_k0 (fun _ _ h => h) (hK16 _ _ _ _ _ ?_))
         clear hK16
         refine wp_seq' fun K17 hK17 => ?_
         refine wp_condD rfl (fun hc46 => ?_) (fun hc46 => ?_)
         ·refine wp_skip' (to_k0 (fun _ _ h => h) (hK17 _ _ _ _ _ ?_))
          clear hK17
          refine wp_seq' fun K18 hK18 => ?_
          refine wp_block' ?_
          refine wp_seq' fun K19 hK19 => ?_
          refine wp_reg ?_
          refine ol_r (r_move rfl) rfl ?_
          refine ol_ixr hA.s rfl rfl sl53 (by omega) rfl fun x48 hx48 => ?_
          try simp only [Int.toNat_natCast] at hx48
          refine ol_r (r_ldw rfl (fun w1 hb1 hs1 hB1 => Rd.loads hA.s ty70 hx48 hb1)) rfl ?_
          refine ol_alloc 4 z70 rfl fun b4 => ?_
          refine ol_r (r_assign rfl) rfl ?_
          refine ol_store (id := 4) rfl rfl rfl rfl sz70 rfl rfl (by first | decide | exact Nat.zero_lt_succ _ | simp) ?_
          refine ol_nil (to_k0 (fun _ _ h => h) (hK19 _ _ _ _ _ ?_))
          clear hK19
          refine wp_block' ?_
          refine wp_seq' fun K20 hK20 => ?_
          refine wp_seq' fun K21 hK21 => ?_
          refine wp_reg ?_
          refine ol_r (r_move rfl) rfl ?_
          refine ol_r (r_eql rfl rfl) rfl ?_
          refine ol_r (r_move rfl) rfl ?_
          refine ol_split (d := 53) rfl (fun hs53 => ?_) (fun hs53 => ?_)
          ·have phs53 := hs53; try simp only [decide_eq_true_eq, decide_eq_false_iff_not, Bool.not_eq_true', Bool.not_eq_false', Bool.not_true, Bool.not_false] at phs53
           refine ol_g rfl rfl hs53 ?_
           refine ol_r (r_fa (o' := 0) rfl fl70_0 rfl) rfl ?_
           refine ol_g rfl rfl hs53 ?_
           refine ol_r (r_ld (id := 4) rfl rfl rfl sc3) rfl ?_
           refine ol_g rfl rfl hs53 ?_
           refine ol_r (r_neq rfl rfl) rfl ?_
           refine ol_r (r_pickT rfl hs53 rfl) rfl ?_
           refine ol_r (r_assign rfl) rfl ?_
           refine ol_nil (to_k0 (fun _ _ h => h) (hK21 _ _ _ _ _ ?_))
           clear hK21
           refine wp_condD rfl (fun hc50 => ?_) (fun hc50 => ?_)
           ·refine wp_skip' (to_k0 (fun _ _ h => h) (hK20 _ _ _ _ _ ?_))
            clear hK20
            refine wp_condD rfl (fun hc50 => ?_) (fun hc50 => ?_)
            ·refine wp_seq' fun K22 hK22 => ?_
             refine wp_reg ?_
             refine ol_r (r_assign rfl) rfl ?_
             refine ol_nil (to_k0 (fun _ _ h => h) (hK22 _ _ _ _ _ ?_))
             clear hK22
             refine hQ.ret (rvs1 (rv_t rfl)) (fun _ _ h => h) fun w hb hs hB hkd => ?_
             first
               | (have ho : ordS (ahead A.ss k) x48 = true := by
                    first
                      | (rw [ordS_0 (by omega), decide_eq_true (by omega)]; done)
                      | (rw [ordS_1 (by omega) hx67, decide_eq_true (by omega)]; done)
                  have h := chkE_bad hP hx48 (fS_10 ho) (by simp)
                  exact ⟨by rw [(chkA_s hH (by show chkE (fS A.start) none A.ss ≠ 0; rw [h]; simp)).trans h], hb⟩)
            ·refine wp_seq' fun K23 hK23 => ?_
             refine wp_reg ?_
             refine ol_r (r_fa (o' := 0) rfl fl70_0 rfl) rfl ?_
             refine ol_r (r_ld (id := 4) rfl rfl rfl sc3) rfl ?_
             refine ol_r (r_gtr rfl rfl) rfl ?_
             refine ol_r (r_move rfl) rfl ?_
             refine ol_split (d := 76) rfl (fun hs76 => ?_) (fun hs76 => ?_)
             ·have phs76 := hs76; try simp only [decide_eq_true_eq, decide_eq_false_iff_not, Bool.not_eq_true', Bool.not_eq_false', Bool.not_true, Bool.not_false] at phs76
              refine ol_s rfl rfl hs76 rfl ?_
              refine ol_s rfl rfl hs76 rfl ?_
              refine ol_s rfl rfl hs76 rfl ?_
              refine ol_s rfl rfl hs76 rfl ?_
              refine ol_s rfl rfl hs76 rfl ?_
              refine ol_s rfl rfl hs76 rfl ?_
              refine ol_r (r_pickT rfl hs76 rfl) rfl ?_
              refine ol_r (r_move rfl) rfl ?_
              refine ol_s rfl rfl rfl rfl ?_
              refine ol_s rfl rfl rfl rfl ?_
              refine ol_s rfl rfl rfl rfl ?_
              refine ol_r (r_pickT rfl rfl rfl) rfl ?_
              refine ol_r (r_assign rfl) rfl ?_
              refine ol_nil (to_k0 (fun _ _ h => h) (hK23 _ _ _ _ _ ?_))
              clear hK23
              refine wp_condT rfl ?_
              refine wp_seq' fun K24 hK24 => ?_
              refine wp_reg ?_
              refine ol_r (r_assign rfl) rfl ?_
              refine ol_nil (to_k0 (fun _ _ h => h) (hK24 _ _ _ _ _ ?_))
              clear hK24
              refine hQ.ret (rvs1 (rv_t rfl)) (fun _ _ h => h) fun w hb hs hB hkd => ?_
              first
                | (exfalso; omega)
             ·have phs76 := hs76; try simp only [decide_eq_true_eq, decide_eq_false_iff_not, Bool.not_eq_true', Bool.not_eq_false', Bool.not_true, Bool.not_false] at phs76
              refine ol_g rfl rfl hs76 ?_
              refine ol_r (r_fa (o' := 2) rfl fl57_2 rfl) rfl ?_
              refine ol_g rfl rfl hs76 ?_
              refine ol_r (r_ld (id := 1) rfl rfl rfl sc3) rfl ?_
              refine ol_g rfl rfl hs76 ?_
              refine ol_r (r_fa (o' := 0) rfl fl70_0 rfl) rfl ?_
              refine ol_g rfl rfl hs76 ?_
              refine ol_r (r_ld (id := 4) rfl rfl rfl sc3) rfl ?_
              refine ol_g rfl rfl hs76 ?_
              have hlo := hA.lo _ (List.mem_of_getElem? hx48)
              have hat : 0 ≤ x48.at_ := by
                first
                  | (have h1 := hpos _ _ (by omega) hx67
                     omega)
                  | omega
              refine ol_r (r_add rfl rfl (by omega)) rfl ?_
              refine ol_g rfl rfl hs76 ?_
              refine ol_r (r_gtr rfl rfl) rfl ?_
              refine ol_r (r_pickF rfl hs76 rfl) rfl ?_
              refine ol_r (r_move rfl) rfl ?_
              refine ol_split (d := 84) rfl (fun hs84 => ?_) (fun hs84 => ?_)
              ·have phs84 := hs84; try simp only [decide_eq_true_eq, decide_eq_false_iff_not, Bool.not_eq_true', Bool.not_eq_false', Bool.not_true, Bool.not_false] at phs84
               refine ol_s rfl rfl hs84 rfl ?_
               refine ol_s rfl rfl hs84 rfl ?_
               refine ol_s rfl rfl hs84 rfl ?_
               refine ol_r (r_pickT rfl hs84 rfl) rfl ?_
               refine ol_r (r_assign rfl) rfl ?_
               refine ol_nil (to_k0 (fun _ _ h => h) (hK23 _ _ _ _ _ ?_))
               clear hK23
               refine wp_condT rfl ?_
               refine wp_seq' fun K25 hK25 => ?_
               refine wp_reg ?_
               refine ol_r (r_assign rfl) rfl ?_
               refine ol_nil (to_k0 (fun _ _ h => h) (hK25 _ _ _ _ _ ?_))
               clear hK25
               refine hQ.ret (rvs1 (rv_t rfl)) (fun _ _ h => h) fun w hb hs hB hkd => ?_
               first
                 | (exfalso; omega)
              ·have phs84 := hs84; try simp only [decide_eq_true_eq, decide_eq_false_iff_not, Bool.not_eq_true', Bool.not_eq_false', Bool.not_true, Bool.not_false] at phs84
               refine ol_g rfl rfl hs84 ?_
               refine ol_r (r_lda (id := 4) (n := 7) rfl rfl rfl ag70) rfl ?_
               refine ol_g rfl rfl hs84 ?_
               refine ol_call rfl rfl cb46 rfl (fun w1 hb1 hs1 hB1 => Calls.mono (record_inRange x48 _) ?_)
               rintro e w2 ⟨rfl, hb2⟩
               refine After.below rfl hb1 hs1 hB1 hb2 ?_
               clear hb2 hB1 hs1 hb1 w2 w1
               refine ol_g rfl rfl hs84 ?_
               refine ol_r (r_not rfl) rfl ?_
               refine ol_r (r_pickF rfl hs84 rfl) rfl ?_
               refine ol_r (r_assign rfl) rfl ?_
               refine ol_nil (to_k0 (fun _ _ h => h) (hK23 _ _ _ _ _ ?_))
               clear hK23
               refine wp_condNB rfl (fun hc72 => ?_) (fun hc72 => ?_)
               ·refine wp_seq' fun K26 hK26 => ?_
                refine wp_reg ?_
                refine ol_r (r_assign rfl) rfl ?_
                refine ol_nil (to_k0 (fun _ _ h => h) (hK26 _ _ _ _ _ ?_))
                clear hK26
                refine hQ.ret (rvs1 (rv_t rfl)) (fun _ _ h => h) fun w hb hs hB hkd => ?_
                first
                  | (exfalso; omega)
               ·refine wp_skip' (to_k0 (fun _ _ h => h) (hK18 _ _ _ _ _ ?_))
                clear hK18
                refine wp_reg ?_
                refine ol_r (r_add rfl rfl (by omega)) rfl ?_
                refine ol_r (r_move rfl) rfl ?_
                refine ol_nil (to_k0 (fun _ _ h => h) (hK15 (k + 1) _ _ ?_ ?_ (sub_cons rfl sub_nil) (sub_cons rfl (sub_cons rfl (sub_cons rfl sub_nil))) (by exact subH_nil) (subH_same rfl subH_nil)))
                ·try dsimp only
                 first
                   | (exfalso; omega)
                ·try dsimp only
                 omega
           ·refine wp_regq (by kernel_rfl) (by kernel_rfl) ?_
            refine ql_r (r_move rfl) rfl ?_
            refine ql_r (r_gtr rfl rfl) rfl ?_
            refine ql_r (r_move rfl) rfl ?_
            refine ql_split (d := 60) rfl (fun hs60 => ?_) (fun hs60 => ?_)
            ·have phs60 := hs60; try simp only [decide_eq_true_eq, decide_eq_false_iff_not, Bool.not_eq_true', Bool.not_eq_false', Bool.not_true, Bool.not_false] at phs60
             refine ql_g rfl rfl hs60 ?_
             refine ql_r (r_fa (o' := 0) rfl fl70_0 rfl) rfl ?_
             refine ql_g rfl rfl hs60 ?_
             refine ql_r (r_ld (id := 4) rfl rfl rfl sc3) rfl ?_
             refine ql_g rfl rfl hs60 ?_
             refine ql_r (r_fa (o' := 3) rfl fl57_3 rfl) rfl ?_
             refine ql_g rfl rfl hs60 ?_
             refine ql_r (r_ld (id := 1) rfl rfl rfl sc53) rfl ?_
             refine ql_g rfl rfl hs60 ?_
             refine ql_r (r_move rfl) rfl ?_
             refine ql_g rfl rfl hs60 ?_
             refine ql_r (r_sub rfl rfl (by omega)) rfl ?_
             refine ql_g rfl rfl hs60 ?_
             refine ql_ixr hA.s rfl rfl sl53 (by omega) rfl fun x67 hx67 => ?_
             try simp only [Int.toNat_natCast] at hx67
             refine ql_g rfl rfl hs60 ?_
             refine ql_r (r_faw rfl (ix_some hA.s (by omega)) fl70_0) rfl ?_
             refine ql_g rfl rfl hs60 ?_
             refine ql_r (r_ldw rfl (fun w1 hb1 hs1 hB1 => Rd.loadsF (o := 0) hA.s sc3 hx67 hb1 rfl)) rfl ?_
             refine ql_g rfl rfl hs60 ?_
             refine ql_r (r_leq rfl rfl) rfl ?_
             refine ql_r (r_pickT rfl hs60 rfl) rfl ?_
             refine ql_r (r_assign rfl) rfl ?_
             refine ql_nil (to_k0 (fun _ _ h => h) (hK20 _ _ _ _ _ ?_))
             clear hK20
             refine wp_condD rfl (fun hc50 => ?_) (fun hc50 => ?_)
             ·refine wp_seq' fun K27 hK27 => ?_
              refine wp_reg ?_
              refine ol_r (r_assign rfl) rfl ?_
              refine ol_nil (to_k0 (fun _ _ h => h) (hK27 _ _ _ _ _ ?_))
              clear hK27
              refine hQ.ret (rvs1 (rv_t rfl)) (fun _ _ h => h) fun w hb hs hB hkd => ?_
              first
                | (exfalso; omega)
             ·refine wp_seq' fun K28 hK28 => ?_
              refine wp_reg ?_
              refine ol_r (r_fa (o' := 0) rfl fl70_0 rfl) rfl ?_
              refine ol_r (r_ld (id := 4) rfl rfl rfl sc3) rfl ?_
              refine ol_r (r_gtr rfl rfl) rfl ?_
              refine ol_r (r_move rfl) rfl ?_
              refine ol_split (d := 76) rfl (fun hs76 => ?_) (fun hs76 => ?_)
              ·have phs76 := hs76; try simp only [decide_eq_true_eq, decide_eq_false_iff_not, Bool.not_eq_true', Bool.not_eq_false', Bool.not_true, Bool.not_false] at phs76
               refine ol_s rfl rfl hs76 rfl ?_
               refine ol_s rfl rfl hs76 rfl ?_
               refine ol_s rfl rfl hs76 rfl ?_
               refine ol_s rfl rfl hs76 rfl ?_
               refine ol_s rfl rfl hs76 rfl ?_
               refine ol_s rfl rfl hs76 rfl ?_
               refine ol_r (r_pickT rfl hs76 rfl) rfl ?_
               refine ol_r (r_move rfl) rfl ?_
               refine ol_s rfl rfl rfl rfl ?_
               refine ol_s rfl rfl rfl rfl ?_
               refine ol_s rfl rfl rfl rfl ?_
               refine ol_r (r_pickT rfl rfl rfl) rfl ?_
               refine ol_r (r_assign rfl) rfl ?_
               refine ol_nil (to_k0 (fun _ _ h => h) (hK28 _ _ _ _ _ ?_))
               clear hK28
               refine wp_condT rfl ?_
               refine wp_seq' fun K29 hK29 => ?_
               refine wp_reg ?_
               refine ol_r (r_assign rfl) rfl ?_
               refine ol_nil (to_k0 (fun _ _ h => h) (hK29 _ _ _ _ _ ?_))
               clear hK29
               refine hQ.ret (rvs1 (rv_t rfl)) (fun _ _ h => h) fun w hb hs hB hkd => ?_
               first
                 | (exfalso; omega)
              ·have phs76 := hs76; try simp only [decide_eq_true_eq, decide_eq_false_iff_not, Bool.not_eq_true', Bool.not_eq_false', Bool.not_true, Bool.not_false] at phs76
               refine ol_g rfl rfl hs76 ?_
               refine ol_r (r_fa (o' := 2) rfl fl57_2 rfl) rfl ?_
               refine ol_g rfl rfl hs76 ?_
               refine ol_r (r_ld (id := 1) rfl rfl rfl sc3) rfl ?_
               refine ol_g rfl rfl hs76 ?_
               refine ol_r (r_fa (o' := 0) rfl fl70_0 rfl) rfl ?_
               refine ol_g rfl rfl hs76 ?_
               refine ol_r (r_ld (id := 4) rfl rfl rfl sc3) rfl ?_
               refine ol_g rfl rfl hs76 ?_
               have hlo := hA.lo _ (List.mem_of_getElem? hx48)
               have hat : 0 ≤ x48.at_ := by
                 first
                   | (have h1 := hpos _ _ (by omega) hx67
                      omega)
                   | omega
               refine ol_r (r_add rfl rfl (by omega)) rfl ?_
               refine ol_g rfl rfl hs76 ?_
               refine ol_r (r_gtr rfl rfl) rfl ?_
               refine ol_r (r_pickF rfl hs76 rfl) rfl ?_
               refine ol_r (r_move rfl) rfl ?_
               refine ol_split (d := 84) rfl (fun hs84 => ?_) (fun hs84 => ?_)
               ·have phs84 := hs84; try simp only [decide_eq_true_eq, decide_eq_false_iff_not, Bool.not_eq_true', Bool.not_eq_false', Bool.not_true, Bool.not_false] at phs84
                refine ol_s rfl rfl hs84 rfl ?_
                refine ol_s rfl rfl hs84 rfl ?_
                refine ol_s rfl rfl hs84 rfl ?_
                refine ol_r (r_pickT rfl hs84 rfl) rfl ?_
                refine ol_r (r_assign rfl) rfl ?_
                refine ol_nil (to_k0 (fun _ _ h => h) (hK28 _ _ _ _ _ ?_))
                clear hK28
                refine wp_condT rfl ?_
                refine wp_seq' fun K30 hK30 => ?_
                refine wp_reg ?_
                refine ol_r (r_assign rfl) rfl ?_
                refine ol_nil (to_k0 (fun _ _ h => h) (hK30 _ _ _ _ _ ?_))
                clear hK30
                refine hQ.ret (rvs1 (rv_t rfl)) (fun _ _ h => h) fun w hb hs hB hkd => ?_
                first
                  | (exfalso; omega)
               ·have phs84 := hs84; try simp only [decide_eq_true_eq, decide_eq_false_iff_not, Bool.not_eq_true', Bool.not_eq_false', Bool.not_true, Bool.not_false] at phs84
                refine ol_g rfl rfl hs84 ?_
                refine ol_r (r_lda (id := 4) (n := 7) rfl rfl rfl ag70) rfl ?_
                refine ol_g rfl rfl hs84 ?_
                refine ol_call rfl rfl cb46 rfl (fun w1 hb1 hs1 hB1 => Calls.mono (record_inRange x48 _) ?_)
                rintro e w2 ⟨rfl, hb2⟩
                refine After.below rfl hb1 hs1 hB1 hb2 ?_
                clear hb2 hB1 hs1 hb1 w2 w1
                refine ol_g rfl rfl hs84 ?_
                refine ol_r (r_not rfl) rfl ?_
                refine ol_r (r_pickF rfl hs84 rfl) rfl ?_
                refine ol_r (r_assign rfl) rfl ?_
                refine ol_nil (to_k0 (fun _ _ h => h) (hK28 _ _ _ _ _ ?_))
                clear hK28
                refine wp_condNB rfl (fun hc72 => ?_) (fun hc72 => ?_)
                ·refine wp_seq' fun K31 hK31 => ?_
                 refine wp_reg ?_
                 refine ol_r (r_assign rfl) rfl ?_
                 refine ol_nil (to_k0 (fun _ _ h => h) (hK31 _ _ _ _ _ ?_))
                 clear hK31
                 refine hQ.ret (rvs1 (rv_t rfl)) (fun _ _ h => h) fun w hb hs hB hkd => ?_
                 first
                   | (exfalso; omega)
                ·refine wp_skip' (to_k0 (fun _ _ h => h) (hK18 _ _ _ _ _ ?_))
                 clear hK18
                 refine wp_reg ?_
                 refine ol_r (r_add rfl rfl (by omega)) rfl ?_
                 refine ol_r (r_move rfl) rfl ?_
                 refine ol_nil (to_k0 (fun _ _ h => h) (hK15 (k + 1) _ _ ?_ ?_ (sub_cons rfl sub_nil) (sub_cons rfl (sub_cons rfl (sub_cons rfl sub_nil))) (by exact subH_nil) (subH_same rfl subH_nil)))
                 ·try dsimp only
                  first
                    | (exfalso; omega)
                 ·try dsimp only
                  omega
            ·have phs60 := hs60; try simp only [decide_eq_true_eq, decide_eq_false_iff_not, Bool.not_eq_true', Bool.not_eq_false', Bool.not_true, Bool.not_false] at phs60
             refine ql_s rfl rfl hs60 rfl ?_
             refine ql_s rfl rfl hs60 rfl ?_
             refine ql_s rfl rfl hs60 rfl ?_
             refine ql_s rfl rfl hs60 rfl ?_
             refine ql_s rfl rfl hs60 rfl ?_
             refine ql_s rfl rfl hs60 rfl ?_
             refine ql_s rfl rfl hs60 rfl ?_
             refine ql_s rfl rfl hs60 rfl ?_
             refine ql_s rfl rfl hs60 rfl ?_
             refine ql_s rfl rfl hs60 rfl ?_
             refine ql_r (r_pickF rfl hs60 rfl) rfl ?_
             refine ql_r (r_assign rfl) rfl ?_
             refine ql_nil (to_k0 (fun _ _ h => h) (hK20 _ _ _ _ _ ?_))
             clear hK20
             refine wp_condF rfl ?_
             refine wp_seq' fun K32 hK32 => ?_
             refine wp_reg ?_
             refine ol_r (r_fa (o' := 0) rfl fl70_0 rfl) rfl ?_
             refine ol_r (r_ld (id := 4) rfl rfl rfl sc3) rfl ?_
             refine ol_r (r_gtr rfl rfl) rfl ?_
             refine ol_r (r_move rfl) rfl ?_
             refine ol_split (d := 76) rfl (fun hs76 => ?_) (fun hs76 => ?_)
             ·have phs76 := hs76; try simp only [decide_eq_true_eq, decide_eq_false_iff_not, Bool.not_eq_true', Bool.not_eq_false', Bool.not_true, Bool.not_false] at phs76
              refine ol_s rfl rfl hs76 rfl ?_
              refine ol_s rfl rfl hs76 rfl ?_
              refine ol_s rfl rfl hs76 rfl ?_
              refine ol_s rfl rfl hs76 rfl ?_
              refine ol_s rfl rfl hs76 rfl ?_
              refine ol_s rfl rfl hs76 rfl ?_
              refine ol_r (r_pickT rfl hs76 rfl) rfl ?_
              refine ol_r (r_move rfl) rfl ?_
              refine ol_s rfl rfl rfl rfl ?_
              refine ol_s rfl rfl rfl rfl ?_
              refine ol_s rfl rfl rfl rfl ?_
              refine ol_r (r_pickT rfl rfl rfl) rfl ?_
              refine ol_r (r_assign rfl) rfl ?_
              refine ol_nil (to_k0 (fun _ _ h => h) (hK32 _ _ _ _ _ ?_))
              clear hK32
              refine wp_condT rfl ?_
              refine wp_seq' fun K33 hK33 => ?_
              refine wp_reg ?_
              refine ol_r (r_assign rfl) rfl ?_
              refine ol_nil (to_k0 (fun _ _ h => h) (hK33 _ _ _ _ _ ?_))
              clear hK33
              refine hQ.ret (rvs1 (rv_t rfl)) (fun _ _ h => h) fun w hb hs hB hkd => ?_
              first
                | (exfalso; omega)
             ·have phs76 := hs76; try simp only [decide_eq_true_eq, decide_eq_false_iff_not, Bool.not_eq_true', Bool.not_eq_false', Bool.not_true, Bool.not_false] at phs76
              refine ol_g rfl rfl hs76 ?_
              refine ol_r (r_fa (o' := 2) rfl fl57_2 rfl) rfl ?_
              refine ol_g rfl rfl hs76 ?_
              refine ol_r (r_ld (id := 1) rfl rfl rfl sc3) rfl ?_
              refine ol_g rfl rfl hs76 ?_
              refine ol_r (r_fa (o' := 0) rfl fl70_0 rfl) rfl ?_
              refine ol_g rfl rfl hs76 ?_
              refine ol_r (r_ld (id := 4) rfl rfl rfl sc3) rfl ?_
              refine ol_g rfl rfl hs76 ?_
              have hlo := hA.lo _ (List.mem_of_getElem? hx48)
              have hat : 0 ≤ x48.at_ := by
                first
                  | (have h1 := hpos _ _ (by omega) hx67
                     omega)
                  | omega
              refine ol_r (r_add rfl rfl (by omega)) rfl ?_
              refine ol_g rfl rfl hs76 ?_
              refine ol_r (r_gtr rfl rfl) rfl ?_
              refine ol_r (r_pickF rfl hs76 rfl) rfl ?_
              refine ol_r (r_move rfl) rfl ?_
              refine ol_split (d := 84) rfl (fun hs84 => ?_) (fun hs84 => ?_)
              ·have phs84 := hs84; try simp only [decide_eq_true_eq, decide_eq_false_iff_not, Bool.not_eq_true', Bool.not_eq_false', Bool.not_true, Bool.not_false] at phs84
               refine ol_s rfl rfl hs84 rfl ?_
               refine ol_s rfl rfl hs84 rfl ?_
               refine ol_s rfl rfl hs84 rfl ?_
               refine ol_r (r_pickT rfl hs84 rfl) rfl ?_
               refine ol_r (r_assign rfl) rfl ?_
               refine ol_nil (to_k0 (fun _ _ h => h) (hK32 _ _ _ _ _ ?_))
               clear hK32
               refine wp_condT rfl ?_
               refine wp_seq' fun K34 hK34 => ?_
               refine wp_reg ?_
               refine ol_r (r_assign rfl) rfl ?_
               refine ol_nil (to_k0 (fun _ _ h => h) (hK34 _ _ _ _ _ ?_))
               clear hK34
               refine hQ.ret (rvs1 (rv_t rfl)) (fun _ _ h => h) fun w hb hs hB hkd => ?_
               first
                 | (exfalso; omega)
              ·have phs84 := hs84; try simp only [decide_eq_true_eq, decide_eq_false_iff_not, Bool.not_eq_true', Bool.not_eq_false', Bool.not_true, Bool.not_false] at phs84
               refine ol_g rfl rfl hs84 ?_
               refine ol_r (r_lda (id := 4) (n := 7) rfl rfl rfl ag70) rfl ?_
               refine ol_g rfl rfl hs84 ?_
               refine ol_call rfl rfl cb46 rfl (fun w1 hb1 hs1 hB1 => Calls.mono (record_inRange x48 _) ?_)
               rintro e w2 ⟨rfl, hb2⟩
               refine After.below rfl hb1 hs1 hB1 hb2 ?_
               clear hb2 hB1 hs1 hb1 w2 w1
               refine ol_g rfl rfl hs84 ?_
               refine ol_r (r_not rfl) rfl ?_
               refine ol_r (r_pickF rfl hs84 rfl) rfl ?_
               refine ol_r (r_assign rfl) rfl ?_
               refine ol_nil (to_k0 (fun _ _ h => h) (hK32 _ _ _ _ _ ?_))
               clear hK32
               refine wp_condNB rfl (fun hc72 => ?_) (fun hc72 => ?_)
               ·refine wp_seq' fun K35 hK35 => ?_
                refine wp_reg ?_
                refine ol_r (r_assign rfl) rfl ?_
                refine ol_nil (to_k0 (fun _ _ h => h) (hK35 _ _ _ _ _ ?_))
                clear hK35
                refine hQ.ret (rvs1 (rv_t rfl)) (fun _ _ h => h) fun w hb hs hB hkd => ?_
                first
                  | (have ho : ordS (ahead A.ss k) x48 = false := by
                       first
                         | (rw [ordS_0 (by omega), decide_eq_false (by omega)]; done)
                         | (rw [ordS_1 (by omega) hx67, decide_eq_false (by omega)]; done)
                     have h := chkE_bad hP hx48 (fS_9 (st := A.start) ho (by first | (left; omega) | (right; left; omega) | (right; right; simpa using hc72))) (by simp)
                     exact ⟨by rw [(chkA_s hH (by show chkE (fS A.start) none A.ss ≠ 0; rw [h]; simp)).trans h], hb⟩)
               ·refine wp_skip' (to_k0 (fun _ _ h => h) (hK18 _ _ _ _ _ ?_))
                clear hK18
                refine wp_reg ?_
                refine ol_r (r_add rfl rfl (by omega)) rfl ?_
                refine ol_r (r_move rfl) rfl ?_
                refine ol_nil (to_k0 (fun _ _ h => h) (hK15 (k + 1) _ _ ?_ ?_ (sub_cons rfl sub_nil) (sub_cons rfl (sub_cons rfl (sub_cons rfl sub_nil))) (by exact subH_nil) (subH_same rfl subH_nil)))
                ·try dsimp only
                 first
                   | (have ho := ordS_0 (ss := A.ss) (k := k) (x := x48) (by omega)
                      rw [decide_eq_false (by omega)] at ho
                      exact ⟨by omega, chkE_next hP hx48 (fS_is ho (by omega) (by omega) (by simpa using hc72)), pos_next hpos hx48 (by omega)⟩)
                ·try dsimp only
                 omega
          ·have phs53 := hs53; try simp only [decide_eq_true_eq, decide_eq_false_iff_not, Bool.not_eq_true', Bool.not_eq_false', Bool.not_true, Bool.not_false] at phs53
           refine ol_s rfl rfl hs53 rfl ?_
           refine ol_s rfl rfl hs53 rfl ?_
           refine ol_s rfl rfl hs53 rfl ?_
           refine ol_r (r_pickF rfl hs53 rfl) rfl ?_
           refine ol_r (r_assign rfl) rfl ?_
           refine ol_nil (to_k0 (fun _ _ h => h) (hK21 _ _ _ _ _ ?_))
           clear hK21
           refine wp_condF rfl ?_
           refine wp_regq (by kernel_rfl) (by kernel_rfl) ?_
           refine ql_r (r_move rfl) rfl ?_
           refine ql_r (r_gtr rfl rfl) rfl ?_
           refine ql_r (r_move rfl) rfl ?_
           refine ql_split (d := 60) rfl (fun hs60 => ?_) (fun hs60 => ?_)
           ·have phs60 := hs60; try simp only [decide_eq_true_eq, decide_eq_false_iff_not, Bool.not_eq_true', Bool.not_eq_false', Bool.not_true, Bool.not_false] at phs60
            refine ql_g rfl rfl hs60 ?_
            refine ql_r (r_fa (o' := 0) rfl fl70_0 rfl) rfl ?_
            refine ql_g rfl rfl hs60 ?_
            refine ql_r (r_ld (id := 4) rfl rfl rfl sc3) rfl ?_
            refine ql_g rfl rfl hs60 ?_
            refine ql_r (r_fa (o' := 3) rfl fl57_3 rfl) rfl ?_
            refine ql_g rfl rfl hs60 ?_
            refine ql_r (r_ld (id := 1) rfl rfl rfl sc53) rfl ?_
            refine ql_g rfl rfl hs60 ?_
            refine ql_r (r_move rfl) rfl ?_
            refine ql_g rfl rfl hs60 ?_
            refine ql_r (r_sub rfl rfl (by omega)) rfl ?_
            refine ql_g rfl rfl hs60 ?_
            refine ql_ixr hA.s rfl rfl sl53 (by omega) rfl fun x67 hx67 => ?_
            try simp only [Int.toNat_natCast] at hx67
            refine ql_g rfl rfl hs60 ?_
            refine ql_r (r_faw rfl (ix_some hA.s (by omega)) fl70_0) rfl ?_
            refine ql_g rfl rfl hs60 ?_
            refine ql_r (r_ldw rfl (fun w1 hb1 hs1 hB1 => Rd.loadsF (o := 0) hA.s sc3 hx67 hb1 rfl)) rfl ?_
            refine ql_g rfl rfl hs60 ?_
            refine ql_r (r_leq rfl rfl) rfl ?_
            refine ql_r (r_pickT rfl hs60 rfl) rfl ?_
            refine ql_r (r_assign rfl) rfl ?_
            refine ql_nil (to_k0 (fun _ _ h => h) (hK20 _ _ _ _ _ ?_))
            clear hK20
            refine wp_condD rfl (fun hc50 => ?_) (fun hc50 => ?_)
            ·refine wp_seq' fun K36 hK36 => ?_
             refine wp_reg ?_
             refine ol_r (r_assign rfl) rfl ?_
             refine ol_nil (to_k0 (fun _ _ h => h) (hK36 _ _ _ _ _ ?_))
             clear hK36
             refine hQ.ret (rvs1 (rv_t rfl)) (fun _ _ h => h) fun w hb hs hB hkd => ?_
             first
               | (have ho : ordS (ahead A.ss k) x48 = true := by
                    first
                      | (rw [ordS_0 (by omega), decide_eq_true (by omega)]; done)
                      | (rw [ordS_1 (by omega) hx67, decide_eq_true (by omega)]; done)
                  have h := chkE_bad hP hx48 (fS_10 ho) (by simp)
                  exact ⟨by rw [(chkA_s hH (by show chkE (fS A.start) none A.ss ≠ 0; rw [h]; simp)).trans h], hb⟩)
            ·refine wp_seq' fun K37 hK37 => ?_
             refine wp_reg ?_
             refine ol_r (r_fa (o' := 0) rfl fl70_0 rfl) rfl ?_
             refine ol_r (r_ld (id := 4) rfl rfl rfl sc3) rfl ?_
             refine ol_r (r_gtr rfl rfl) rfl ?_
             refine ol_r (r_move rfl) rfl ?_
             refine ol_split (d := 76) rfl (fun hs76 => ?_) (fun hs76 => ?_)
             ·have phs76 := hs76; try simp only [decide_eq_true_eq, decide_eq_false_iff_not, Bool.not_eq_true', Bool.not_eq_false', Bool.not_true, Bool.not_false] at phs76
              refine ol_s rfl rfl hs76 rfl ?_
              refine ol_s rfl rfl hs76 rfl ?_
              refine ol_s rfl rfl hs76 rfl ?_
              refine ol_s rfl rfl hs76 rfl ?_
              refine ol_s rfl rfl hs76 rfl ?_
              refine ol_s rfl rfl hs76 rfl ?_
              refine ol_r (r_pickT rfl hs76 rfl) rfl ?_
              refine ol_r (r_move rfl) rfl ?_
              refine ol_s rfl rfl rfl rfl ?_
              refine ol_s rfl rfl rfl rfl ?_
              refine ol_s rfl rfl rfl rfl ?_
              refine ol_r (r_pickT rfl rfl rfl) rfl ?_
              refine ol_r (r_assign rfl) rfl ?_
              refine ol_nil (to_k0 (fun _ _ h => h) (hK37 _ _ _ _ _ ?_))
              clear hK37
              refine wp_condT rfl ?_
              refine wp_seq' fun K38 hK38 => ?_
              refine wp_reg ?_
              refine ol_r (r_assign rfl) rfl ?_
              refine ol_nil (to_k0 (fun _ _ h => h) (hK38 _ _ _ _ _ ?_))
              clear hK38
              refine hQ.ret (rvs1 (rv_t rfl)) (fun _ _ h => h) fun w hb hs hB hkd => ?_
              first
                | (have ho : ordS (ahead A.ss k) x48 = false := by
                     first
                       | (rw [ordS_0 (by omega), decide_eq_false (by omega)]; done)
                       | (rw [ordS_1 (by omega) hx67, decide_eq_false (by omega)]; done)
                   have h := chkE_bad hP hx48 (fS_9 (st := A.start) ho (by first | (left; omega) | (right; left; omega) | (right; right; simpa using hc72))) (by simp)
                   exact ⟨by rw [(chkA_s hH (by show chkE (fS A.start) none A.ss ≠ 0; rw [h]; simp)).trans h], hb⟩)
             ·have phs76 := hs76; try simp only [decide_eq_true_eq, decide_eq_false_iff_not, Bool.not_eq_true', Bool.not_eq_false', Bool.not_true, Bool.not_false] at phs76
              refine ol_g rfl rfl hs76 ?_
              refine ol_r (r_fa (o' := 2) rfl fl57_2 rfl) rfl ?_
              refine ol_g rfl rfl hs76 ?_
              refine ol_r (r_ld (id := 1) rfl rfl rfl sc3) rfl ?_
              refine ol_g rfl rfl hs76 ?_
              refine ol_r (r_fa (o' := 0) rfl fl70_0 rfl) rfl ?_
              refine ol_g rfl rfl hs76 ?_
              refine ol_r (r_ld (id := 4) rfl rfl rfl sc3) rfl ?_
              refine ol_g rfl rfl hs76 ?_
              have hlo := hA.lo _ (List.mem_of_getElem? hx48)
              have hat : 0 ≤ x48.at_ := by
                first
                  | (have h1 := hpos _ _ (by omega) hx67
                     omega)
                  | omega
              refine ol_r (r_add rfl rfl (by omega)) rfl ?_
              refine ol_g rfl rfl hs76 ?_
              refine ol_r (r_gtr rfl rfl) rfl ?_
              refine ol_r (r_pickF rfl hs76 rfl) rfl ?_
              refine ol_r (r_move rfl) rfl ?_
              refine ol_split (d := 84) rfl (fun hs84 => ?_) (fun hs84 => ?_)
              ·have phs84 := hs84; try simp only [decide_eq_true_eq, decide_eq_false_iff_not, Bool.not_eq_true', Bool.not_eq_false', Bool.not_true, Bool.not_false] at phs84
               refine ol_s rfl rfl hs84 rfl ?_
               refine ol_s rfl rfl hs84 rfl ?_
               refine ol_s rfl rfl hs84 rfl ?_
               refine ol_r (r_pickT rfl hs84 rfl) rfl ?_
               refine ol_r (r_assign rfl) rfl ?_
               refine ol_nil (to_k0 (fun _ _ h => h) (hK37 _ _ _ _ _ ?_))
               clear hK37
               refine wp_condT rfl ?_
               refine wp_seq' fun K39 hK39 => ?_
               refine wp_reg ?_
               refine ol_r (r_assign rfl) rfl ?_
               refine ol_nil (to_k0 (fun _ _ h => h) (hK39 _ _ _ _ _ ?_))
               clear hK39
               refine hQ.ret (rvs1 (rv_t rfl)) (fun _ _ h => h) fun w hb hs hB hkd => ?_
               first
                 | (have ho : ordS (ahead A.ss k) x48 = false := by
                      first
                        | (rw [ordS_0 (by omega), decide_eq_false (by omega)]; done)
                        | (rw [ordS_1 (by omega) hx67, decide_eq_false (by omega)]; done)
                    have h := chkE_bad hP hx48 (fS_9 (st := A.start) ho (by first | (left; omega) | (right; left; omega) | (right; right; simpa using hc72))) (by simp)
                    exact ⟨by rw [(chkA_s hH (by show chkE (fS A.start) none A.ss ≠ 0; rw [h]; simp)).trans h], hb⟩)
              ·have phs84 := hs84; try simp only [decide_eq_true_eq, decide_eq_false_iff_not, Bool.not_eq_true', Bool.not_eq_false', Bool.not_true, Bool.not_false] at phs84
               refine ol_g rfl rfl hs84 ?_
               refine ol_r (r_lda (id := 4) (n := 7) rfl rfl rfl ag70) rfl ?_
               refine ol_g rfl rfl hs84 ?_
               refine ol_call rfl rfl cb46 rfl (fun w1 hb1 hs1 hB1 => Calls.mono (record_inRange x48 _) ?_)
               rintro e w2 ⟨rfl, hb2⟩
               refine After.below rfl hb1 hs1 hB1 hb2 ?_
               clear hb2 hB1 hs1 hb1 w2 w1
               refine ol_g rfl rfl hs84 ?_
               refine ol_r (r_not rfl) rfl ?_
               refine ol_r (r_pickF rfl hs84 rfl) rfl ?_
               refine ol_r (r_assign rfl) rfl ?_
               refine ol_nil (to_k0 (fun _ _ h => h) (hK37 _ _ _ _ _ ?_))
               clear hK37
               refine wp_condNB rfl (fun hc72 => ?_) (fun hc72 => ?_)
               ·refine wp_seq' fun K40 hK40 => ?_
                refine wp_reg ?_
                refine ol_r (r_assign rfl) rfl ?_
                refine ol_nil (to_k0 (fun _ _ h => h) (hK40 _ _ _ _ _ ?_))
                clear hK40
                refine hQ.ret (rvs1 (rv_t rfl)) (fun _ _ h => h) fun w hb hs hB hkd => ?_
                first
                  | (have ho : ordS (ahead A.ss k) x48 = false := by
                       first
                         | (rw [ordS_0 (by omega), decide_eq_false (by omega)]; done)
                         | (rw [ordS_1 (by omega) hx67, decide_eq_false (by omega)]; done)
                     have h := chkE_bad hP hx48 (fS_9 (st := A.start) ho (by first | (left; omega) | (right; left; omega) | (right; right; simpa using hc72))) (by simp)
                     exact ⟨by rw [(chkA_s hH (by show chkE (fS A.start) none A.ss ≠ 0; rw [h]; simp)).trans h], hb⟩)
               ·refine wp_skip' (to_k0 (fun _ _ h => h) (hK18 _ _ _ _ _ ?_))
                clear hK18
                refine wp_reg ?_
                refine ol_r (r_add rfl rfl (by omega)) rfl ?_
                refine ol_r (r_move rfl) rfl ?_
                refine ol_nil (to_k0 (fun _ _ h => h) (hK15 (k + 1) _ _ ?_ ?_ (sub_cons rfl sub_nil) (sub_cons rfl (sub_cons rfl (sub_cons rfl sub_nil))) (by exact subH_nil) (subH_same rfl subH_nil)))
                ·try dsimp only
                 first
                   | (have ho := ordS_1 (ss := A.ss) (k := k) (x := x48) (by omega) hx67
                      have hy := hpos _ _ (by omega) hx67
                      rw [decide_eq_false (by omega)] at ho
                      exact ⟨by omega, chkE_next hP hx48 (fS_is ho (by omega) (by omega) (by simpa using hc72)), pos_next hpos hx48 (by omega)⟩)
                ·try dsimp only
                 omega
           ·have phs60 := hs60; try simp only [decide_eq_true_eq, decide_eq_false_iff_not, Bool.not_eq_true', Bool.not_eq_false', Bool.not_true, Bool.not_false] at phs60
            refine ql_s rfl rfl hs60 rfl ?_
            refine ql_s rfl rfl hs60 rfl ?_
            refine ql_s rfl rfl hs60 rfl ?_
            refine ql_s rfl rfl hs60 rfl ?_
            refine ql_s rfl rfl hs60 rfl ?_
            refine ql_s rfl rfl hs60 rfl ?_
            refine ql_s rfl rfl hs60 rfl ?_
            refine ql_s rfl rfl hs60 rfl ?_
            refine ql_s rfl rfl hs60 rfl ?_
            refine ql_s rfl rfl hs60 rfl ?_
            refine ql_r (r_pickF rfl hs60 rfl) rfl ?_
            refine ql_r (r_assign rfl) rfl ?_
            refine ql_nil (to_k0 (fun _ _ h => h) (hK20 _ _ _ _ _ ?_))
            clear hK20
            refine wp_condF rfl ?_
            refine wp_seq' fun K41 hK41 => ?_
            refine wp_reg ?_
            refine ol_r (r_fa (o' := 0) rfl fl70_0 rfl) rfl ?_
            refine ol_r (r_ld (id := 4) rfl rfl rfl sc3) rfl ?_
            refine ol_r (r_gtr rfl rfl) rfl ?_
            refine ol_r (r_move rfl) rfl ?_
            refine ol_split (d := 76) rfl (fun hs76 => ?_) (fun hs76 => ?_)
            ·have phs76 := hs76; try simp only [decide_eq_true_eq, decide_eq_false_iff_not, Bool.not_eq_true', Bool.not_eq_false', Bool.not_true, Bool.not_false] at phs76
             refine ol_s rfl rfl hs76 rfl ?_
             refine ol_s rfl rfl hs76 rfl ?_
             refine ol_s rfl rfl hs76 rfl ?_
             refine ol_s rfl rfl hs76 rfl ?_
             refine ol_s rfl rfl hs76 rfl ?_
             refine ol_s rfl rfl hs76 rfl ?_
             refine ol_r (r_pickT rfl hs76 rfl) rfl ?_
             refine ol_r (r_move rfl) rfl ?_
             refine ol_s rfl rfl rfl rfl ?_
             refine ol_s rfl rfl rfl rfl ?_
             refine ol_s rfl rfl rfl rfl ?_
             refine ol_r (r_pickT rfl rfl rfl) rfl ?_
             refine ol_r (r_assign rfl) rfl ?_
             refine ol_nil (to_k0 (fun _ _ h => h) (hK41 _ _ _ _ _ ?_))
             clear hK41
             refine wp_condT rfl ?_
             refine wp_seq' fun K42 hK42 => ?_
             refine wp_reg ?_
             refine ol_r (r_assign rfl) rfl ?_
             refine ol_nil (to_k0 (fun _ _ h => h) (hK42 _ _ _ _ _ ?_))
             clear hK42
             refine hQ.ret (rvs1 (rv_t rfl)) (fun _ _ h => h) fun w hb hs hB hkd => ?_
             first
               | (exfalso; omega)
            ·have phs76 := hs76; try simp only [decide_eq_true_eq, decide_eq_false_iff_not, Bool.not_eq_true', Bool.not_eq_false', Bool.not_true, Bool.not_false] at phs76
             refine ol_g rfl rfl hs76 ?_
             refine ol_r (r_fa (o' := 2) rfl fl57_2 rfl) rfl ?_
             refine ol_g rfl rfl hs76 ?_
             refine ol_r (r_ld (id := 1) rfl rfl rfl sc3) rfl ?_
             refine ol_g rfl rfl hs76 ?_
             refine ol_r (r_fa (o' := 0) rfl fl70_0 rfl) rfl ?_
             refine ol_g rfl rfl hs76 ?_
             refine ol_r (r_ld (id := 4) rfl rfl rfl sc3) rfl ?_
             refine ol_g rfl rfl hs76 ?_
             have hlo := hA.lo _ (List.mem_of_getElem? hx48)
             have hat : 0 ≤ x48.at_ := by
               first
                 | (have h1 := hpos _ _ (by omega) hx67
                    omega)
                 | omega
             refine ol_r (r_add rfl rfl (by omega)) rfl ?_
             refine ol_g rfl rfl hs76 ?_
             refine ol_r (r_gtr rfl rfl) rfl ?_
             refine ol_r (r_pickF rfl hs76 rfl) rfl ?_
             refine ol_r (r_move rfl) rfl ?_
             refine ol_split (d := 84) rfl (fun hs84 => ?_) (fun hs84 => ?_)
             ·have phs84 := hs84; try simp only [decide_eq_true_eq, decide_eq_false_iff_not, Bool.not_eq_true', Bool.not_eq_false', Bool.not_true, Bool.not_false] at phs84
              refine ol_s rfl rfl hs84 rfl ?_
              refine ol_s rfl rfl hs84 rfl ?_
              refine ol_s rfl rfl hs84 rfl ?_
              refine ol_r (r_pickT rfl hs84 rfl) rfl ?_
              refine ol_r (r_assign rfl) rfl ?_
              refine ol_nil (to_k0 (fun _ _ h => h) (hK41 _ _ _ _ _ ?_))
              clear hK41
              refine wp_condT rfl ?_
              refine wp_seq' fun K43 hK43 => ?_
              refine wp_reg ?_
              refine ol_r (r_assign rfl) rfl ?_
              refine ol_nil (to_k0 (fun _ _ h => h) (hK43 _ _ _ _ _ ?_))
              clear hK43
              refine hQ.ret (rvs1 (rv_t rfl)) (fun _ _ h => h) fun w hb hs hB hkd => ?_
              first
                | (exfalso; omega)
             ·have phs84 := hs84; try simp only [decide_eq_true_eq, decide_eq_false_iff_not, Bool.not_eq_true', Bool.not_eq_false', Bool.not_true, Bool.not_false] at phs84
              refine ol_g rfl rfl hs84 ?_
              refine ol_r (r_lda (id := 4) (n := 7) rfl rfl rfl ag70) rfl ?_
              refine ol_g rfl rfl hs84 ?_
              refine ol_call rfl rfl cb46 rfl (fun w1 hb1 hs1 hB1 => Calls.mono (record_inRange x48 _) ?_)
              rintro e w2 ⟨rfl, hb2⟩
              refine After.below rfl hb1 hs1 hB1 hb2 ?_
              clear hb2 hB1 hs1 hb1 w2 w1
              refine ol_g rfl rfl hs84 ?_
              refine ol_r (r_not rfl) rfl ?_
              refine ol_r (r_pickF rfl hs84 rfl) rfl ?_
              refine ol_r (r_assign rfl) rfl ?_
              refine ol_nil (to_k0 (fun _ _ h => h) (hK41 _ _ _ _ _ ?_))
              clear hK41
              refine wp_condNB rfl (fun hc72 => ?_) (fun hc72 => ?_)
              ·refine wp_seq' fun K44 hK44 => ?_
               refine wp_reg ?_
               refine ol_r (r_assign rfl) rfl ?_
               refine ol_nil (to_k0 (fun _ _ h => h) (hK44 _ _ _ _ _ ?_))
               clear hK44
               refine hQ.ret (rvs1 (rv_t rfl)) (fun _ _ h => h) fun w hb hs hB hkd => ?_
               first
                 | (exfalso; omega)
              ·refine wp_skip' (to_k0 (fun _ _ h => h) (hK18 _ _ _ _ _ ?_))
               clear hK18
               refine wp_reg ?_
               refine ol_r (r_add rfl rfl (by omega)) rfl ?_
               refine ol_r (r_move rfl) rfl ?_
               refine ol_nil (to_k0 (fun _ _ h => h) (hK15 (k + 1) _ _ ?_ ?_ (sub_cons rfl sub_nil) (sub_cons rfl (sub_cons rfl (sub_cons rfl sub_nil))) (by exact subH_nil) (subH_same rfl subH_nil)))
               ·try dsimp only
                first
                  | (exfalso; omega)
               ·try dsimp only
                omega
         ·refine wp_exit' (to_k0 (fun _ _ h => h) (hK13 _ _ _ _ _ ?_))
          clear hK13
          refine wp_seq' fun K45 hK45 => ?_
          refine wp_reg ?_
          refine ol_r (r_lda (id := 1) (n := 6) rfl rfl rfl ag57) rfl ?_
          have hS0 := chkE_end hP (by omega)
          refine ol_call rfl rfl cb41 rfl (fun w1 hb1 hs1 hB1 => Calls.mono (record_Span A _ (hA.at hb1 hB1)) ?_)
          rintro e w2 ⟨rfl, hb2⟩
          refine After.below rfl hb1 hs1 hB1 hb2 ?_
          clear hb2 hB1 hs1 hb1 w2 w1
          refine ol_r (r_assign rfl) rfl ?_
          refine ol_nil (to_k0 (fun _ _ h => h) (hK45 _ _ _ _ _ ?_))
          clear hK45
          refine wp_seq' fun K46 hK46 => ?_
          refine wp_seq' fun K47 hK47 => ?_
          refine wp_reg ?_
          refine ol_r (r_fa (o' := 4) rfl fl57_4 rfl) rfl ?_
          refine ol_r (r_ld (id := 1) rfl rfl rfl sc54) rfl ?_
          refine ol_r (r_len rfl sl54) rfl ?_
          refine ol_r (r_move rfl) rfl ?_
          refine ol_nil (to_k0 (fun _ _ h => h) (hK47 _ _ _ _ _ ?_))
          clear hK47
          refine wp_block' ?_
          apply wp_loopM (σ := Nat) (fun s => s ≤ A.ln ∧ chkE (fL (spanL A.ss)) none A.ls = chkE (fL (spanL A.ss)) (ahead A.ls s) (A.ls.drop s)) (fun s => [(95, .int .i64 s)]) [(1, _), (5, _), (93, _), (94, _)] (fun s => []) [(1, _)] (fun s => A.ln - s) (0)
          ·try dsimp only
           exact ⟨Nat.zero_le _, chkE_start _ _⟩
          ·exact (sub_cons rfl sub_nil)
          ·exact (sub_cons rfl (sub_cons rfl (sub_cons rfl (sub_cons rfl sub_nil))))
          ·exact subH_nil
          ·exact (subH_same rfl subH_nil)
          ·rintro k ⟨hk, hPl⟩
           intro K48 hK48
           refine wp_seq' fun K49 hK49 => ?_
           refine wp_reg ?_
           refine ol_r (r_lss rfl rfl) rfl ?_
           refine ol_nil (to_k0 (fun _ _ h => h) (hK49 _ _ _ _ _ ?_))
           clear hK49
           refine wp_seq' fun K50 hK50 => ?_
           refine wp_condD rfl (fun hc96 => ?_) (fun hc96 => ?_)
           ·refine wp_skip' (to_k0 (fun _ _ h => h) (hK50 _ _ _ _ _ ?_))
            clear hK50
            refine wp_seq' fun K51 hK51 => ?_
            refine wp_block' ?_
            refine wp_seq' fun K52 hK52 => ?_
            refine wp_reg ?_
            refine ol_r (r_move rfl) rfl ?_
            refine ol_ixr hA.l rfl rfl sl54 (by omega) rfl fun x98 hx98 => ?_
            try simp only [Int.toNat_natCast] at hx98
            refine ol_r (r_ldw rfl (fun w1 hb1 hs1 hB1 => Rd.loads hA.l ty110 hx98 hb1)) rfl ?_
            refine ol_alloc 7 z110 rfl fun b7 => ?_
            refine ol_r (r_assign rfl) rfl ?_
            refine ol_store (id := 7) rfl rfl rfl rfl sz110 rfl rfl (by first | decide | exact Nat.zero_lt_succ _ | simp) ?_
            refine ol_nil (to_k0 (fun _ _ h => h) (hK52 _ _ _ _ _ ?_))
            clear hK52
            refine wp_block' ?_
            refine wp_seq' fun K53 hK53 => ?_
            refine wp_reg ?_
            refine ol_r (r_fa (o' := 0) rfl fl110_0 rfl) rfl ?_
            refine ol_r (r_ld (id := 7) rfl rfl rfl sc3) rfl ?_
            refine ol_r (r_lss rfl rfl) rfl ?_
            refine ol_r (r_move rfl) rfl ?_
            refine ol_split (d := 104) rfl (fun hs104 => ?_) (fun hs104 => ?_)
            ·have phs104 := hs104; try simp only [decide_eq_true_eq, decide_eq_false_iff_not, Bool.not_eq_true', Bool.not_eq_false', Bool.not_true, Bool.not_false] at phs104
             refine ol_s rfl rfl hs104 rfl ?_
             refine ol_s rfl rfl hs104 rfl ?_
             refine ol_s rfl rfl hs104 rfl ?_
             refine ol_s rfl rfl hs104 rfl ?_
             refine ol_s rfl rfl hs104 rfl ?_
             refine ol_r (r_pickT rfl hs104 rfl) rfl ?_
             refine ol_r (r_move rfl) rfl ?_
             refine ol_s rfl rfl rfl rfl ?_
             refine ol_s rfl rfl rfl rfl ?_
             refine ol_s rfl rfl rfl rfl ?_
             refine ol_s rfl rfl rfl rfl ?_
             refine ol_r (r_pickT rfl rfl rfl) rfl ?_
             refine ol_r (r_assign rfl) rfl ?_
             refine ol_nil (to_k0 (fun _ _ h => h) (hK53 _ _ _ _ _ ?_))
             clear hK53
             refine wp_condT rfl ?_
             refine wp_seq' fun K54 hK54 => ?_
             refine wp_reg ?_
             refine ol_r (r_assign rfl) rfl ?_
             refine ol_nil (to_k0 (fun _ _ h => h) (hK54 _ _ _ _ _ ?_))
             clear hK54
             refine hQ.ret (rvs1 (rv_t rfl)) (fun _ _ h => h) fun w hb hs hB hkd => ?_
             first
               | (have h := chkE_bad hPl hx98 (fL_9 (by omega)) (by simp)
                  exact ⟨by rw [(chkA_l hH hS0 (by show chkE (fL (spanL A.ss)) none A.ls ≠ 0; rw [h]; simp)).trans h], hb⟩)
            ·have phs104 := hs104; try simp only [decide_eq_true_eq, decide_eq_false_iff_not, Bool.not_eq_true', Bool.not_eq_false', Bool.not_true, Bool.not_false] at phs104
             refine ol_g rfl rfl hs104 ?_
             refine ol_r (r_fa (o' := 0) rfl fl110_0 rfl) rfl ?_
             refine ol_g rfl rfl hs104 ?_
             refine ol_r (r_ld (id := 7) rfl rfl rfl sc3) rfl ?_
             refine ol_g rfl rfl hs104 ?_
             refine ol_r (r_fa (o' := 1) rfl fl110_1 rfl) rfl ?_
             refine ol_g rfl rfl hs104 ?_
             refine ol_r (r_ld (id := 7) rfl rfl rfl sc3) rfl ?_
             refine ol_g rfl rfl hs104 ?_
             refine ol_r (r_geq rfl rfl) rfl ?_
             refine ol_r (r_pickF rfl hs104 rfl) rfl ?_
             refine ol_r (r_move rfl) rfl ?_
             refine ol_split (d := 111) rfl (fun hs111 => ?_) (fun hs111 => ?_)
             ·have phs111 := hs111; try simp only [decide_eq_true_eq, decide_eq_false_iff_not, Bool.not_eq_true', Bool.not_eq_false', Bool.not_true, Bool.not_false] at phs111
              refine ol_s rfl rfl hs111 rfl ?_
              refine ol_s rfl rfl hs111 rfl ?_
              refine ol_s rfl rfl hs111 rfl ?_
              refine ol_s rfl rfl hs111 rfl ?_
              refine ol_r (r_pickT rfl hs111 rfl) rfl ?_
              refine ol_r (r_assign rfl) rfl ?_
              refine ol_nil (to_k0 (fun _ _ h => h) (hK53 _ _ _ _ _ ?_))
              clear hK53
              refine wp_condT rfl ?_
              refine wp_seq' fun K55 hK55 => ?_
              refine wp_reg ?_
              refine ol_r (r_assign rfl) rfl ?_
              refine ol_nil (to_k0 (fun _ _ h => h) (hK55 _ _ _ _ _ ?_))
              clear hK55
              refine hQ.ret (rvs1 (rv_t rfl)) (fun _ _ h => h) fun w hb hs hB hkd => ?_
              first
                | (have h := chkE_bad hPl hx98 (fL_9 (by omega)) (by simp)
                   exact ⟨by rw [(chkA_l hH hS0 (by show chkE (fL (spanL A.ss)) none A.ls ≠ 0; rw [h]; simp)).trans h], hb⟩)
             ·have phs111 := hs111; try simp only [decide_eq_true_eq, decide_eq_false_iff_not, Bool.not_eq_true', Bool.not_eq_false', Bool.not_true, Bool.not_false] at phs111
              refine ol_g rfl rfl hs111 ?_
              refine ol_r (r_fa (o' := 1) rfl fl110_1 rfl) rfl ?_
              refine ol_g rfl rfl hs111 ?_
              refine ol_r (r_ld (id := 7) rfl rfl rfl sc3) rfl ?_
              refine ol_g rfl rfl hs111 ?_
              refine ol_r (r_move rfl) rfl ?_
              refine ol_g rfl rfl hs111 ?_
              refine ol_r (r_gtr rfl rfl) rfl ?_
              refine ol_r (r_pickF rfl hs111 rfl) rfl ?_
              refine ol_r (r_assign rfl) rfl ?_
              refine ol_nil (to_k0 (fun _ _ h => h) (hK53 _ _ _ _ _ ?_))
              clear hK53
              refine wp_condD rfl (fun hc100 => ?_) (fun hc100 => ?_)
              ·refine wp_seq' fun K56 hK56 => ?_
               refine wp_reg ?_
               refine ol_r (r_assign rfl) rfl ?_
               refine ol_nil (to_k0 (fun _ _ h => h) (hK56 _ _ _ _ _ ?_))
               clear hK56
               refine hQ.ret (rvs1 (rv_t rfl)) (fun _ _ h => h) fun w hb hs hB hkd => ?_
               first
                 | (have h := chkE_bad hPl hx98 (fL_9 (by omega)) (by simp)
                    exact ⟨by rw [(chkA_l hH hS0 (by show chkE (fL (spanL A.ss)) none A.ls ≠ 0; rw [h]; simp)).trans h], hb⟩)
              ·refine wp_seq' fun K57 hK57 => ?_
               refine wp_regq (by kernel_rfl) (by kernel_rfl) ?_
               refine ql_r (r_move rfl) rfl ?_
               refine ql_r (r_gtr rfl rfl) rfl ?_
               refine ql_r (r_move rfl) rfl ?_
               refine ql_split (d := 120) rfl (fun hs120 => ?_) (fun hs120 => ?_)
               ·have phs120 := hs120; try simp only [decide_eq_true_eq, decide_eq_false_iff_not, Bool.not_eq_true', Bool.not_eq_false', Bool.not_true, Bool.not_false] at phs120
                refine ql_g rfl rfl hs120 ?_
                refine ql_r (r_fa (o' := 0) rfl fl110_0 rfl) rfl ?_
                refine ql_g rfl rfl hs120 ?_
                refine ql_r (r_ld (id := 7) rfl rfl rfl sc3) rfl ?_
                refine ql_g rfl rfl hs120 ?_
                refine ql_r (r_fa (o' := 4) rfl fl57_4 rfl) rfl ?_
                refine ql_g rfl rfl hs120 ?_
                refine ql_r (r_ld (id := 1) rfl rfl rfl sc54) rfl ?_
                refine ql_g rfl rfl hs120 ?_
                refine ql_r (r_move rfl) rfl ?_
                refine ql_g rfl rfl hs120 ?_
                refine ql_r (r_sub rfl rfl (by omega)) rfl ?_
                refine ql_g rfl rfl hs120 ?_
                refine ql_ixr hA.l rfl rfl sl54 (by omega) rfl fun x127 hx127 => ?_
                try simp only [Int.toNat_natCast] at hx127
                refine ql_g rfl rfl hs120 ?_
                refine ql_r (r_faw rfl (ix_some hA.l (by omega)) fl110_1) rfl ?_
                refine ql_g rfl rfl hs120 ?_
                refine ql_r (r_ldw rfl (fun w1 hb1 hs1 hB1 => Rd.loadsF (o := 1) hA.l sc3 hx127 hb1 rfl)) rfl ?_
                refine ql_g rfl rfl hs120 ?_
                refine ql_r (r_lss rfl rfl) rfl ?_
                refine ql_r (r_pickT rfl hs120 rfl) rfl ?_
                refine ql_r (r_assign rfl) rfl ?_
                refine ql_nil (to_k0 (fun _ _ h => h) (hK57 _ _ _ _ _ ?_))
                clear hK57
                refine wp_condD rfl (fun hc117 => ?_) (fun hc117 => ?_)
                ·refine wp_seq' fun K58 hK58 => ?_
                 refine wp_reg ?_
                 refine ol_r (r_assign rfl) rfl ?_
                 refine ol_nil (to_k0 (fun _ _ h => h) (hK58 _ _ _ _ _ ?_))
                 clear hK58
                 refine hQ.ret (rvs1 (rv_t rfl)) (fun _ _ h => h) fun w hb hs hB hkd => ?_
                 first
                   | (have h := chkE_bad hPl hx98 (fL_10 (by omega) (by rw [ordL_1 (by omega) hx127, decide_eq_true (by omega)])) (by simp)
                      exact ⟨by rw [(chkA_l hH hS0 (by show chkE (fL (spanL A.ss)) none A.ls ≠ 0; rw [h]; simp)).trans h], hb⟩)
                ·refine wp_seq' fun K59 hK59 => ?_
                 refine wp_reg ?_
                 refine ol_r (r_fa (o' := 2) rfl fl110_2 rfl) rfl ?_
                 refine ol_r (r_ld (id := 7) rfl rfl rfl sc9) rfl ?_
                 refine ol_call rfl rfl cb47 rfl (fun w1 hb1 hs1 hB1 => Calls.mono (record_IsTitle _ _ (hA.lm _ (List.mem_of_getElem? hx98))) ?_)
                 rintro e w2 ⟨rfl, hb2⟩
                 refine After.below rfl hb1 hs1 hB1 hb2 ?_
                 clear hb2 hB1 hs1 hb1 w2 w1
                 refine ol_r (r_not rfl) rfl ?_
                 refine ol_r (r_assign rfl) rfl ?_
                 refine ol_nil (to_k0 (fun _ _ h => h) (hK59 _ _ _ _ _ ?_))
                 clear hK59
                 refine wp_condNB rfl (fun hc132 => ?_) (fun hc132 => ?_)
                 ·refine wp_seq' fun K60 hK60 => ?_
                  refine wp_reg ?_
                  refine ol_r (r_assign rfl) rfl ?_
                  refine ol_nil (to_k0 (fun _ _ h => h) (hK60 _ _ _ _ _ ?_))
                  clear hK60
                  refine hQ.ret (rvs1 (rv_t rfl)) (fun _ _ h => h) fun w hb hs hB hkd => ?_
                  first
                    | (have ho : ordL (ahead A.ls k) x98 = false := by
                         first
                           | (rw [ordL_0 (by omega)]; done)
                           | (rw [ordL_1 (by omega) hx127, decide_eq_false (by omega)]; done)
                       have h := chkE_bad hPl hx98 (fL_8 (by omega) ho (by simpa using hc132)) (by simp)
                       exact ⟨by rw [(chkA_l hH hS0 (by show chkE (fL (spanL A.ss)) none A.ls ≠ 0; rw [h]; simp)).trans h], hb⟩)
                 ·refine wp_skip' (to_k0 (fun _ _ h => h) (hK51 _ _ _ _ _ ?_))
                  clear hK51
                  refine wp_reg ?_
                  refine ol_r (r_add rfl rfl (by omega)) rfl ?_
                  refine ol_r (r_move rfl) rfl ?_
                  refine ol_nil (to_k0 (fun _ _ h => h) (hK48 (k + 1) _ _ ?_ ?_ (sub_cons rfl sub_nil) (sub_cons rfl (sub_cons rfl (sub_cons rfl (sub_cons rfl sub_nil)))) (by exact subH_nil) (subH_same rfl subH_nil)))
                  ·try dsimp only
                   first
                     | (have ho := ordL_1 (ls := A.ls) (k := k) (x := x98) (by omega) hx127
                        rw [decide_eq_false (by omega)] at ho
                        exact ⟨by omega, chkE_next hPl hx98 (fL_0 (by omega) ho (by simpa using hc132))⟩)
                  ·try dsimp only
                   omega
               ·have phs120 := hs120; try simp only [decide_eq_true_eq, decide_eq_false_iff_not, Bool.not_eq_true', Bool.not_eq_false', Bool.not_true, Bool.not_false] at phs120
                refine ql_s rfl rfl hs120 rfl ?_
                refine ql_s rfl rfl hs120 rfl ?_
                refine ql_s rfl rfl hs120 rfl ?_
                refine ql_s rfl rfl hs120 rfl ?_
                refine ql_s rfl rfl hs120 rfl ?_
                refine ql_s rfl rfl hs120 rfl ?_
                refine ql_s rfl rfl hs120 rfl ?_
                refine ql_s rfl rfl hs120 rfl ?_
                refine ql_s rfl rfl hs120 rfl ?_
                refine ql_s rfl rfl hs120 rfl ?_
                refine ql_r (r_pickF rfl hs120 rfl) rfl ?_
                refine ql_r (r_assign rfl) rfl ?_
                refine ql_nil (to_k0 (fun _ _ h => h) (hK57 _ _ _ _ _ ?_))
                clear hK57
                refine wp_condF rfl ?_
                refine wp_seq' fun K61 hK61 => ?_
                refine wp_reg ?_
                refine ol_r (r_fa (o' := 2) rfl fl110_2 rfl) rfl ?_
                refine ol_r (r_ld (id := 7) rfl rfl rfl sc9) rfl ?_
                refine ol_call rfl rfl cb47 rfl (fun w1 hb1 hs1 hB1 => Calls.mono (record_IsTitle _ _ (hA.lm _ (List.mem_of_getElem? hx98))) ?_)
                rintro e w2 ⟨rfl, hb2⟩
                refine After.below rfl hb1 hs1 hB1 hb2 ?_
                clear hb2 hB1 hs1 hb1 w2 w1
                refine ol_r (r_not rfl) rfl ?_
                refine ol_r (r_assign rfl) rfl ?_
                refine ol_nil (to_k0 (fun _ _ h => h) (hK61 _ _ _ _ _ ?_))
                clear hK61
                refine wp_condNB rfl (fun hc132 => ?_) (fun hc132 => ?_)
                ·refine wp_seq' fun K62 hK62 => ?_
                 refine wp_reg ?_
                 refine ol_r (r_assign rfl) rfl ?_
                 refine ol_nil (to_k0 (fun _ _ h => h) (hK62 _ _ _ _ _ ?_))
                 clear hK62
                 refine hQ.ret (rvs1 (rv_t rfl)) (fun _ _ h => h) fun w hb hs hB hkd => ?_
                 first
                   | (have ho : ordL (ahead A.ls k) x98 = false := by
                        first
                          | (rw [ordL_0 (by omega)]; done)
                          | (rw [ordL_1 (by omega) hx127, decide_eq_false (by omega)]; done)
                      have h := chkE_bad hPl hx98 (fL_8 (by omega) ho (by simpa using hc132)) (by simp)
                      exact ⟨by rw [(chkA_l hH hS0 (by show chkE (fL (spanL A.ss)) none A.ls ≠ 0; rw [h]; simp)).trans h], hb⟩)
                ·refine wp_skip' (to_k0 (fun _ _ h => h) (hK51 _ _ _ _ _ ?_))
                 clear hK51
                 refine wp_reg ?_
                 refine ol_r (r_add rfl rfl (by omega)) rfl ?_
                 refine ol_r (r_move rfl) rfl ?_
                 refine ol_nil (to_k0 (fun _ _ h => h) (hK48 (k + 1) _ _ ?_ ?_ (sub_cons rfl sub_nil) (sub_cons rfl (sub_cons rfl (sub_cons rfl (sub_cons rfl sub_nil)))) (by exact subH_nil) (subH_same rfl subH_nil)))
                 ·try dsimp only
                  first
                    | (have ho := ordL_0 (ls := A.ls) (k := k) (x := x98) (by omega)
                       exact ⟨by omega, chkE_next hPl hx98 (fL_0 (by omega) ho (by simpa using hc132))⟩)
                 ·try dsimp only
                  omega
           ·refine wp_exit' (to_k0 (fun _ _ h => h) (hK46 _ _ _ _ _ ?_))
            clear hK46
            refine wp_seq' fun K63 hK63 => ?_
            refine wp_seq' fun K64 hK64 => ?_
            refine wp_reg ?_
            have hL0 := chkE_end hPl (by omega)
            refine ol_r (r_fa (o' := 5) rfl fl57_5 rfl) rfl ?_
            refine ol_r (r_ld (id := 1) rfl rfl rfl sc55) rfl ?_
            refine ol_r (r_len rfl sl55) rfl ?_
            refine ol_r (r_move rfl) rfl ?_
            refine ol_nil (to_k0 (fun _ _ h => h) (hK64 _ _ _ _ _ ?_))
            clear hK64
            refine wp_block' ?_
            apply wp_loopM (σ := Nat) (fun s => s ≤ A.tn ∧ chkE fT none A.ts = chkE fT (ahead A.ts s) (A.ts.drop s)) (fun s => [(141, .int .i64 s)]) [(1, _), (139, _), (140, _)] (fun s => []) [(1, _)] (fun s => A.tn - s) (0)
            ·try dsimp only
             exact ⟨Nat.zero_le _, chkE_start _ _⟩
            ·exact (sub_cons rfl sub_nil)
            ·exact (sub_cons rfl (sub_cons rfl (sub_cons rfl sub_nil)))
            ·exact subH_nil
            ·exact (subH_same rfl subH_nil)
            ·rintro k ⟨hk, hPt⟩
             intro K65 hK65
             refine wp_seq' fun K66 hK66 => ?_
             refine wp_reg ?_
             refine ol_r (r_lss rfl rfl) rfl ?_
             refine ol_nil (to_k0 (fun _ _ h => h) (hK66 _ _ _ _ _ ?_))
             clear hK66
             refine wp_seq' fun K67 hK67 => ?_
             refine wp_condD rfl (fun hc142 => ?_) (fun hc142 => ?_)
             ·refine wp_skip' (to_k0 (fun _ _ h => h) (hK67 _ _ _ _ _ ?_))
              clear hK67
              refine wp_seq' fun K68 hK68 => ?_
              refine wp_block' ?_
              refine wp_seq' fun K69 hK69 => ?_
              refine wp_reg ?_
              refine ol_r (r_move rfl) rfl ?_
              refine ol_ixr hA.t rfl rfl sl55 (by omega) rfl fun x144 hx144 => ?_
              try simp only [Int.toNat_natCast] at hx144
              refine ol_r (r_ldw rfl (fun w1 hb1 hs1 hB1 => Rd.loads hA.t ty9 hx144 hb1)) rfl ?_
              refine ol_r (r_assign rfl) rfl ?_
              refine ol_r (r_assign rfl) rfl ?_
              refine ol_nil (to_k0 (fun _ _ h => h) (hK69 _ _ _ _ _ ?_))
              clear hK69
              refine wp_block' ?_
              refine wp_seq' fun K70 hK70 => ?_
              refine wp_reg ?_
              refine ol_r (r_move rfl) rfl ?_
              refine ol_call rfl rfl cb32 rfl (fun w1 hb1 hs1 hB1 => Calls.mono (quant_IsName x144 _ (hA.tm _ (List.mem_of_getElem? hx144))) ?_)
              rintro e w2 ⟨rfl, hb2⟩
              refine After.below rfl hb1 hs1 hB1 hb2 ?_
              clear hb2 hB1 hs1 hb1 w2 w1
              refine ol_r (r_not rfl) rfl ?_
              refine ol_r (r_assign rfl) rfl ?_
              refine ol_nil (to_k0 (fun _ _ h => h) (hK70 _ _ _ _ _ ?_))
              clear hK70
              refine wp_condNB rfl (fun hc146 => ?_) (fun hc146 => ?_)
              ·refine wp_seq' fun K71 hK71 => ?_
               refine wp_reg ?_
               refine ol_r (r_assign rfl) rfl ?_
               refine ol_nil (to_k0 (fun _ _ h => h) (hK71 _ _ _ _ _ ?_))
               clear hK71
               refine hQ.ret (rvs1 (rv_t rfl)) (fun _ _ h => h) fun w hb hs hB hkd => ?_
               first
                 | (have h := chkE_bad hPt hx144 (fT_8 (by simpa using hc146)) (by simp)
                    exact ⟨by rw [(chkA_t hH hS0 hL0).trans h], hb⟩)
              ·refine wp_seq' fun K72 hK72 => ?_
               refine wp_reg ?_
               refine ol_r (r_move rfl) rfl ?_
               refine ol_r (r_gtr rfl rfl) rfl ?_
               refine ol_r (r_move rfl) rfl ?_
               refine ol_split (d := 153) rfl (fun hs153 => ?_) (fun hs153 => ?_)
               ·have phs153 := hs153; try simp only [decide_eq_true_eq, decide_eq_false_iff_not, Bool.not_eq_true', Bool.not_eq_false', Bool.not_true, Bool.not_false] at phs153
                refine ol_g rfl rfl hs153 ?_
                refine ol_r (r_move rfl) rfl ?_
                refine ol_g rfl rfl hs153 ?_
                refine ol_r (r_fa (o' := 5) rfl fl57_5 rfl) rfl ?_
                refine ol_g rfl rfl hs153 ?_
                refine ol_r (r_ld (id := 1) rfl rfl rfl sc55) rfl ?_
                refine ol_g rfl rfl hs153 ?_
                refine ol_r (r_move rfl) rfl ?_
                refine ol_g rfl rfl hs153 ?_
                refine ol_r (r_sub rfl rfl (by omega)) rfl ?_
                refine ol_g rfl rfl hs153 ?_
                refine ol_ixr hA.t rfl rfl sl55 (by omega) rfl fun x159 hx159 => ?_
                try simp only [Int.toNat_natCast] at hx159
                refine ol_g rfl rfl hs153 ?_
                refine ol_r (r_ldw rfl (fun w1 hb1 hs1 hB1 => Rd.loads hA.t ty9 hx159 hb1)) rfl ?_
                refine ol_g rfl rfl hs153 ?_
                refine ol_r (r_sleq rfl rfl) rfl ?_
                refine ol_r (r_pickT rfl hs153 rfl) rfl ?_
                refine ol_r (r_assign rfl) rfl ?_
                refine ol_nil (to_k0 (fun _ _ h => h) (hK72 _ _ _ _ _ ?_))
                clear hK72
                refine wp_cond' rfl (fun hc150 => ?_) (fun hc150 => ?_)
                ·refine wp_seq' fun K73 hK73 => ?_
                 refine wp_reg ?_
                 refine ol_r (r_assign rfl) rfl ?_
                 refine ol_nil (to_k0 (fun _ _ h => h) (hK73 _ _ _ _ _ ?_))
                 clear hK73
                 refine hQ.ret (rvs1 (rv_t rfl)) (fun _ _ h => h) fun w hb hs hB hkd => ?_
                 first
                   | (have hc : sLe x144 x159 = true := hc150
                      have h := chkE_bad hPt hx144 (fT_10 (by simpa using hc146) (by rw [ordT_1 (by omega) hx159, hc])) (by simp)
                      exact ⟨by rw [(chkA_t hH hS0 hL0).trans h], hb⟩)
                ·refine wp_skip' (to_k0 (fun _ _ h => h) (hK68 _ _ _ _ _ ?_))
                 clear hK68
                 refine wp_reg ?_
                 refine ol_r (r_add rfl rfl (by omega)) rfl ?_
                 refine ol_r (r_move rfl) rfl ?_
                 refine ol_nil (to_k0 (fun _ _ h => h) (hK65 (k + 1) _ _ ?_ ?_ (sub_cons rfl sub_nil) (sub_cons rfl (sub_cons rfl (sub_cons rfl sub_nil))) (by exact subH_nil) (subH_same rfl subH_nil)))
                 ·try dsimp only
                  first
                    | (have ho := ordT_1 (ts := A.ts) (k := k) (x := x144) (by omega) hx159
                       have hc : sLe x144 x159 = false := hc150
                       rw [hc] at ho
                       exact ⟨by omega, chkE_next hPt hx144 (fT_0 (by simpa using hc146) ho)⟩)
                 ·try dsimp only
                  omega
               ·have phs153 := hs153; try simp only [decide_eq_true_eq, decide_eq_false_iff_not, Bool.not_eq_true', Bool.not_eq_false', Bool.not_true, Bool.not_false] at phs153
                refine ol_s rfl rfl hs153 rfl ?_
                refine ol_s rfl rfl hs153 rfl ?_
                refine ol_s rfl rfl hs153 rfl ?_
                refine ol_s rfl rfl hs153 rfl ?_
                refine ol_s rfl rfl hs153 rfl ?_
                refine ol_s rfl rfl hs153 rfl ?_
                refine ol_s rfl rfl hs153 rfl ?_
                refine ol_s rfl rfl hs153 rfl ?_
                refine ol_r (r_pickF rfl hs153 rfl) rfl ?_
                refine ol_r (r_assign rfl) rfl ?_
                refine ol_nil (to_k0 (fun _ _ h => h) (hK72 _ _ _ _ _ ?_))
                clear hK72
                refine wp_condF rfl ?_
                refine wp_skip' (to_k0 (fun _ _ h => h) (hK68 _ _ _ _ _ ?_))
                clear hK68
                refine wp_reg ?_
                refine ol_r (r_add rfl rfl (by omega)) rfl ?_
                refine ol_r (r_move rfl) rfl ?_
                refine ol_nil (to_k0 (fun _ _ h => h) (hK65 (k + 1) _ _ ?_ ?_ (sub_cons rfl sub_nil) (sub_cons rfl (sub_cons rfl (sub_cons rfl sub_nil))) (by exact subH_nil) (subH_same rfl subH_nil)))
                ·try dsimp only
                 first
                   | (have ho := ordT_0 (ts := A.ts) (k := k) (x := x144) (by omega)
                      exact ⟨by omega, chkE_next hPt hx144 (fT_0 (by simpa using hc146) ho)⟩)
                ·try dsimp only
                 omega
             ·refine wp_exit' (to_k0 (fun _ _ h => h) (hK63 _ _ _ _ _ ?_))
              clear hK63
              refine wp_seq' fun K74 hK74 => ?_
              refine wp_reg ?_
              refine ol_r (r_assign rfl) rfl ?_
              refine ol_nil (to_k0 (fun _ _ h => h) (hK74 _ _ _ _ _ ?_))
              clear hK74
              refine hQ.ret (rvs1 (rv_t rfl)) (fun _ _ h => h) fun w hb hs hB hkd => ?_
              first
                | (exact ⟨by rw [(chkA_t hH hS0 hL0).trans (chkE_end hPt (by omega))], hb⟩)
end Go.Proofs.Ytfbmkepogcimlaa

/-
  Check: the reference.
-/


namespace Go.Proofs.Ytfbmkepogcimlaa
open Go Go.RowKit Hx
set_option linter.unusedVariables false
set_option linter.unusedSimpArgs false
set_option maxRecDepth 8000
end Go.Proofs.Ytfbmkepogcimlaa

/-
  Contracts of functions of package slices, at int.
-/


namespace Go.Proofs.Ytfbmkepogcimlaa
open Go Go.RowKit Hx
set_option linter.unusedVariables false
set_option linter.unusedSimpArgs false

theorem list_ne_of_get {α : Type} {xs ys : List α} {k : Nat} {x y : α} (hx : xs[k]? = some x) (hy : ys[k]? = some y) (h : x ≠ y) : xs ≠ ys := by
  intro e; subst e; rw [hx] at hy; exact h (by cases hy; rfl)
theorem equal_int (a b : Option Addr) (n m c1 c2 : Nat) (xs ys : List Int) (w : World) (hx : Rd encI w.heap.size w a n c1 xs) (hy : Rd encI w.heap.size w b m c2 ys) :
    Calls Try.prog 14 #[.slice a n c1, .slice b m c2] w fun e w' => e = .returned (.bool (decide (xs = ys))) ∧ Below w.heap.size w w' := by
  have hn := hx.len
  have hm := hy.len
  have hf := hx.fit
  refine enterQ (N := 26) (C := fun _ => True) (H := []) (B := w.heap.size) (args := [_, _]) Try.func14 rfl rfl rfl (Nat.le_refl _) (Sat.nil _ _) fun Q hQ => ?_
  refine wp_seq' fun K1 hK1 => ?_
  refine wp_reg ?_
  refine ol_r (r_assign rfl) rfl ?_
  refine ol_nil (to_k0 (fun _ _ h => h) (hK1 _ _ _ _ _ ?_))
  clear hK1
  refine wp_seq' fun K2 hK2 => ?_
  refine wp_seq' fun K3 hK3 => ?_
  refine wp_reg ?_
  refine ol_r (r_move rfl) rfl ?_
  refine ol_r (r_len rfl sl61) rfl ?_
  refine ol_r (r_move rfl) rfl ?_
  refine ol_r (r_len rfl sl61) rfl ?_
  refine ol_r (r_neq rfl rfl) rfl ?_
  refine ol_nil (to_k0 (fun _ _ h => h) (hK3 _ _ _ _ _ ?_))
  clear hK3
  first | refine wp_condD rfl (fun hc10 => ?_) (fun hc10 => ?_) | refine wp_condN rfl (fun hc10 => ?_) (fun hc10 => ?_) | refine wp_condNB rfl (fun hc10 => ?_) (fun hc10 => ?_) | refine wp_cond' rfl (fun hc10 => ?_) (fun hc10 => ?_)
  ·refine wp_seq' fun K4 hK4 => ?_
   refine wp_reg ?_
   refine ol_r (r_assign rfl) rfl ?_
   refine ol_nil (to_k0 (fun _ _ h => h) (hK4 _ _ _ _ _ ?_))
   clear hK4
   refine hQ.ret (rvs1 (rv_t rfl)) (fun _ _ h => h) fun w hb hs hB hkd => ?_
   exact ⟨by rw [decide_eq_false]; intro e; rw [e] at hn; omega, hb⟩
  ·refine wp_skip' (to_k0 (fun _ _ h => h) (hK2 _ _ _ _ _ ?_))
   clear hK2
   refine wp_seq' fun K5 hK5 => ?_
   refine wp_seq' fun K6 hK6 => ?_
   refine wp_reg ?_
   refine ol_r (r_move rfl) rfl ?_
   refine ol_r (r_len rfl sl61) rfl ?_
   refine ol_r (r_move rfl) rfl ?_
   refine ol_nil (to_k0 (fun _ _ h => h) (hK6 _ _ _ _ _ ?_))
   clear hK6
   refine wp_block' ?_
   apply wp_loopM (σ := Nat) (fun s => s ≤ n ∧ xs.take s = ys.take s) (fun s => [(13, .int .i64 s)]) [(0, _), (1, _), (12, _)] (fun s => []) [] (fun s => n - s) (0)
   ·try dsimp only
    simp
   ·exact (sub_cons rfl sub_nil)
   ·exact (sub_cons rfl (sub_cons rfl (sub_cons rfl sub_nil)))
   ·exact subH_nil
   ·exact subH_nil
   ·rintro k ⟨hk, hP⟩
    intro K7 hK7
    refine wp_seq' fun K8 hK8 => ?_
    refine wp_reg ?_
    refine ol_r (r_lss rfl rfl) rfl ?_
    refine ol_nil (to_k0 (fun _ _ h => h) (hK8 _ _ _ _ _ ?_))
    clear hK8
    refine wp_seq' fun K9 hK9 => ?_
    first | refine wp_condD rfl (fun hc14 => ?_) (fun hc14 => ?_) | refine wp_condN rfl (fun hc14 => ?_) (fun hc14 => ?_) | refine wp_condNB rfl (fun hc14 => ?_) (fun hc14 => ?_) | refine wp_cond' rfl (fun hc14 => ?_) (fun hc14 => ?_)
    ·refine wp_skip' (to_k0 (fun _ _ h => h) (hK9 _ _ _ _ _ ?_))
     clear hK9
     refine wp_seq' fun K10 hK10 => ?_
     refine wp_block' ?_
     refine wp_seq' fun K11 hK11 => ?_
     refine wp_reg ?_
     refine ol_r (r_move rfl) rfl ?_
     refine ol_r (r_assign rfl) rfl ?_
     refine ol_nil (to_k0 (fun _ _ h => h) (hK11 _ _ _ _ _ ?_))
     clear hK11
     refine wp_seq' fun K12 hK12 => ?_
     refine wp_regq (by kernel_rfl) (by kernel_rfl) ?_
     refine ql_r (r_move rfl) rfl ?_
     refine ql_r (r_move rfl) rfl ?_
     refine ql_ixr hx rfl rfl sl61 (by omega) rfl fun x18 hx18 => ?_
     try simp only [Int.toNat_natCast] at hx18
     refine ql_r (r_ldw rfl (fun w1 hb1 hs1 hB1 => show Loads _ _ _ _ (.int .i64 x18) from Rd.loads hx ty3 hx18 hb1)) rfl ?_
     refine ql_r (r_move rfl) rfl ?_
     refine ql_r (r_move rfl) rfl ?_
     refine ql_ixr hy rfl rfl sl61 (by omega) rfl fun x22 hx22 => ?_
     try simp only [Int.toNat_natCast] at hx22
     refine ql_r (r_ldw rfl (fun w1 hb1 hs1 hB1 => show Loads _ _ _ _ (.int .i64 x22) from Rd.loads hy ty3 hx22 hb1)) rfl ?_
     refine ql_r (r_neq rfl rfl) rfl ?_
     refine ql_nil (to_k0 (fun _ _ h => h) (hK12 _ _ _ _ _ ?_))
     clear hK12
     first | refine wp_condD rfl (fun hc24 => ?_) (fun hc24 => ?_) | refine wp_condN rfl (fun hc24 => ?_) (fun hc24 => ?_) | refine wp_condNB rfl (fun hc24 => ?_) (fun hc24 => ?_) | refine wp_cond' rfl (fun hc24 => ?_) (fun hc24 => ?_)
     ·refine wp_seq' fun K13 hK13 => ?_
      refine wp_reg ?_
      refine ol_r (r_assign rfl) rfl ?_
      refine ol_nil (to_k0 (fun _ _ h => h) (hK13 _ _ _ _ _ ?_))
      clear hK13
      refine hQ.ret (rvs1 (rv_t rfl)) (fun _ _ h => h) fun w hb hs hB hkd => ?_
      exact ⟨by rw [decide_eq_false (list_ne_of_get hx18 hx22 hc24)], hb⟩
     ·refine wp_skip' (to_k0 (fun _ _ h => h) (hK10 _ _ _ _ _ ?_))
      clear hK10
      refine wp_reg ?_
      refine ol_r (r_add rfl rfl (by omega)) rfl ?_
      refine ol_r (r_move rfl) rfl ?_
      refine ol_nil (to_k0 (fun _ _ h => h) (hK7 (k + 1) _ _ ?_ ?_ (sub_cons rfl sub_nil) (sub_cons rfl (sub_cons rfl (sub_cons rfl sub_nil))) (by exact subH_nil) subH_nil))
      ·try dsimp only
       exact ⟨by omega, by rw [take_succ_get hx18, take_succ_get hx22, hP, Decidable.not_not.1 hc24]⟩
      ·try dsimp only
       omega
    ·refine wp_exit' (to_k0 (fun _ _ h => h) (hK5 _ _ _ _ _ ?_))
     clear hK5
     refine wp_seq' fun K14 hK14 => ?_
     refine wp_reg ?_
     refine ol_r (r_assign rfl) rfl ?_
     refine ol_nil (to_k0 (fun _ _ h => h) (hK14 _ _ _ _ _ ?_))
     clear hK14
     refine hQ.ret (rvs1 (rv_t rfl)) (fun _ _ h => h) fun w hb hs hB hkd => ?_
     have h1 : xs.take k = xs := List.take_of_length_le (by omega)
     have h2 : ys.take k = ys := List.take_of_length_le (by omega)
     exact ⟨by rw [decide_eq_true (by rw [← h1, ← h2]; exact hP)], hb⟩


def maxV : List Int → Int
  | [] => 0
  | x :: r => r.foldl max x
theorem maxV_snoc {ys : List Int} {x : Int} (h : ys ≠ []) : maxV (ys ++ [x]) = max (maxV ys) x := by
  cases ys with
  | nil => exact absurd rfl h
  | cons y r => simp [maxV]
theorem foldl_max_ge : ∀ (r : List Int) (x : Int), x ≤ r.foldl max x
  | [], x => by simp
  | y :: r, x => by
    have := foldl_max_ge r (max x y)
    simp only [List.foldl_cons]; omega
theorem foldl_max_mem : ∀ (r : List Int) (x y : Int), y ∈ r → y ≤ r.foldl max x
  | z :: r, x, y, h => by
    simp only [List.foldl_cons]
    rcases List.mem_cons.1 h with rfl | h
    · have := foldl_max_ge r (max x y); omega
    · exact foldl_max_mem r _ y h
theorem foldl_max_in : ∀ (r : List Int) (x : Int), r.foldl max x = x ∨ r.foldl max x ∈ r
  | [], x => .inl rfl
  | y :: r, x => by
    simp only [List.foldl_cons]
    rcases foldl_max_in r (max x y) with h | h
    · rw [h]
      rcases Int.le_total x y with h1 | h1
      · rw [Int.max_eq_right h1]; exact .inr (by simp)
      · rw [Int.max_eq_left h1]; exact .inl rfl
    · exact .inr (by simp [h])
theorem maxV_ge {ys : List Int} {y : Int} (h : y ∈ ys) : y ≤ maxV ys := by
  cases ys with
  | nil => simp at h
  | cons x r =>
    rcases List.mem_cons.1 h with rfl | h
    · exact foldl_max_ge r y
    · exact foldl_max_mem r x y h
theorem maxV_mem {ys : List Int} (h : ys ≠ []) : maxV ys ∈ ys := by
  cases ys with
  | nil => exact absurd rfl h
  | cons x r =>
    rcases foldl_max_in r x with h1 | h1
    · show r.foldl max x ∈ _; rw [h1]; simp
    · exact List.mem_cons_of_mem _ h1


def idxI (ys : List Int) (v : Int) : Int := match ys.findIdx? (· == v) with | some i => i | none => -1
theorem idxI_at {ys : List Int} {v : Int} {k : Nat} (h : ys[k]? = some v) (h2 : ∀ y ∈ ys.take k, y ≠ v) : idxI ys v = k := by
  have : ys.findIdx? (· == v) = some k := by
    rw [List.findIdx?_eq_some_iff_getElem]
    have hk := (List.getElem?_eq_some_iff.1 h).1
    refine ⟨hk, by have := (List.getElem?_eq_some_iff.1 h).2; simp [this], fun j hj => ?_⟩
    have : ys[j]'(by omega) ∈ ys.take k := by
      rw [List.mem_take_iff_getElem]
      exact ⟨j, by omega, rfl⟩
    have := h2 _ this
    simpa using this
  simp [idxI, this]
theorem idxI_no {ys : List Int} {v : Int} (h2 : ∀ y ∈ ys, y ≠ v) : idxI ys v = -1 := by
  have : ys.findIdx? (· == v) = none := by
    rw [List.findIdx?_eq_none_iff]
    intro y hy
    simpa using h2 y hy
  simp [idxI, this]

end Go.Proofs.Ytfbmkepogcimlaa

/-
  Streams: CheckStream, and the reference's running sums.
-/



namespace Go.Proofs.Ytfbmkepogcimlaa
open Go Go.RowKit Hx
set_option linter.unusedVariables false
set_option linter.unusedSimpArgs false
set_option maxRecDepth 8000

end Go.Proofs.Ytfbmkepogcimlaa

/-
  Streams of an activity: program and reference.
-/






namespace Go.Proofs.Ytfbmkepogcimlaa
open Go Go.RowKit Hx
set_option linter.unusedVariables false
set_option linter.unusedSimpArgs false
set_option maxRecDepth 8000
theorem SmpOk.span {st : Int} {ss : List SmpR} (h : SmpOk st ss) : 0 ≤ spanL ss ∧ spanL ss ≤ 1000000 := by
  unfold spanL
  split
  · rename_i x hx
    have := h.bd x (List.mem_of_getElem? hx)
    omega
  · omega
theorem track_Step2 (p q : SmpR) (w : World) (hp : PlaceOk p) (hq : PlaceOk q) : Calls Try.prog 108 #[.agg #[.int .i64 p.at_, .int .i64 p.x, .int .i64 p.y, .int .i64 p.z, .int .i64 p.pulse, .int .i64 p.power, .int .i64 p.steps], .agg #[.int .i64 q.at_, .int .i64 q.x, .int .i64 q.y, .int .i64 q.z, .int .i64 q.pulse, .int .i64 q.power, .int .i64 q.steps]] w fun e w' => e = .returned (.tuple #[.int .i64 (lenD p q), .int .i64 0]) ∧ Below w.heap.size w w' := by
  have h := track_Step p q w
  rw [stepD_ok hp hq] at h
  exact h
theorem stepV_snoc {kind : Int} {p q : SmpR} {j : Nat} {v : Int} (h : (j : Int) < q.at_ - p.at_) (hv : elV kind p q j = v) : (stepV kind p q).take (j + 1) = (stepV kind p q).take j ++ [v] := by
  rw [take_succ_get (stepV_get h), hv]
theorem valV_1 {kind : Int} {p q : SmpR} (h : kind = 1) : valV kind p q = p.pulse := if_pos h
theorem valV_2 {kind : Int} {p q : SmpR} (h : kind = 2) : valV kind p q = p.power := by subst h; rfl
theorem valV_3 {kind : Int} {p q : SmpR} (h : kind = 3) : valV kind p q = p.steps := by subst h; rfl
theorem lenV_4 {kind : Int} {p q : SmpR} (h : kind = 4) : lenV kind p q = lenD p q := if_pos h
theorem lenV_5 {kind : Int} {p q : SmpR} (h : kind = 5) : lenV kind p q = max (q.z - p.z) 0 := by subst h; rfl
theorem effort_stream (A : ActV) (kind : Int) (w : World) (hA : A.Ok w.heap.size w) (hok : SmpOk A.start A.ss) (hk : 1 ≤ kind ∧ kind ≤ 5) :
    Calls Try.prog 79 #[.agg #[.string A.name, .int .i64 A.sport, .int .i64 A.start, .slice A.sa A.sn A.sc, .slice A.la A.ln A.lc, .slice A.ta A.tn A.tc], .int .i64 kind] w fun e w' => ∃ b m k, e = .returned (.slice b m k) ∧ Fresh encI 3 w w' b m k (strmL kind A.ss (A.ss.length - 1)) := by
  have hsn := hA.s.len
  have hsf := hA.s.fit
  have hlen := stepsL_len A.ss
  have hl20 := hok.len
  have hspan := hok.span
  refine enterQ (N := 93) (C := fun _ => True) (H := []) (B := w.heap.size) (args := [_, _]) Try.func79 rfl rfl rfl (Nat.le_refl _) (Sat.nil _ _) fun Q hQ => ?_
  refine wp_seq' fun K1 hK1 => ?_
  refine wp_reg ?_
  refine ol_box 2 rfl rfl rfl fun b2 => ?_
  refine ol_box 3 rfl rfl rfl fun b3 => ?_
  refine ol_r (r_assign rfl) rfl ?_
  refine ol_nil (to_k0 (fun _ _ h => h) (hK1 _ _ _ _ _ ?_))
  clear hK1
  refine wp_seq' fun K2 hK2 => ?_
  refine wp_reg ?_
  refine ol_r (r_lda (id := 2) (n := 6) rfl rfl rfl ag57) rfl ?_
  refine ol_call rfl rfl cb41 rfl (fun w1 hb1 hs1 hB1 => Calls.mono (record_Span A _ (hA.at hb1 hB1)) ?_)
  rintro e w2 ⟨rfl, hb2⟩
  refine After.below rfl hb1 hs1 hB1 hb2 ?_
  clear hb2 hB1 hs1 hb1 w2 w1
  refine ol_make encI (0) 14 rfl rfl rw61 z3 rfl rfl (by omega) rfl fun a14 => ?_
  refine ol_alloc 5 z61 rfl fun b5 => ?_
  refine ol_store (id := 5) rfl rfl rfl rfl sz61 rfl rfl (by first | decide | exact Nat.zero_lt_succ _ | simp) ?_
  refine ol_nil (to_k0 (fun _ _ h => h) (hK2 _ _ _ _ _ ?_))
  clear hK2
  refine wp_seq' fun K3 hK3 => ?_
  refine wp_seq' fun K4 hK4 => ?_
  refine wp_reg ?_
  refine ol_r (r_lda (id := 2) (n := 6) rfl rfl rfl ag57) rfl ?_
  refine ol_call rfl rfl cb100 rfl (fun w1 hb1 hs1 hB1 => ?_)
  refine Calls.mono (track_Steps A _ (hA.at hb1 hB1)) ?_
  rintro e w2 ⟨b0, T0, rfl, hb2, hs2⟩
  refine After.more rfl hb1 hs1 hB1 hb2 hs2 ?_
  clear hs2 hb2 hB1 hs1 hb1 w2 w1
  refine ol_nil (to_k0 (fun _ _ h => h) (hK4 _ _ _ _ _ ?_))
  clear hK4
  refine wp_block' ?_
  refine wp_rf (σ := Option Addr × Nat × Nat) (τ := Unit) (encs := fun x : SmpR × SmpR => [.agg #[.int .i64 x.1.at_, .int .i64 x.1.x, .int .i64 x.1.y, .int .i64 x.1.z, .int .i64 x.1.pulse, .int .i64 x.1.power, .int .i64 x.1.steps], .agg #[.int .i64 x.2.at_, .int .i64 x.2.x, .int .i64 x.2.y, .int .i64 x.2.z, .int .i64 x.2.pulse, .int .i64 x.2.power, .int .i64 x.2.steps]]) (zs := stepsL A.ss) rfl cb130 (steps_iter A _ b0 _ hA.s) (by rfl) (by rfl) (by rfl) (fun _ => rfl) (fun k s => k ≤ (stepsL A.ss).length ∧ s.2.1 = (strmL kind A.ss k).length) (fun k s => [(5, .blk b5 [(0, .slice s.1 s.2.1 s.2.2)] 61), (14, .row s.1 s.2.1 s.2.2 (encI.enc (strmL kind A.ss k)) 3 1)]) [(2, _), (3, _), (1001, _)] (fun t => False) (fun t => []) ((_, _, _)) ?_ (by exact (subH_blk rfl (sub_cons rfl sub_nil) (subH_row rfl (by first | (dsimp only; rfl; done) | (rfl; done) | (dsimp only; done)) subH_nil))) (subH_same rfl (subH_same rfl (subH_same rfl subH_nil))) ?_ ?_ ?_ ?_
  ·try dsimp only
   exact ⟨Nat.zero_le _, rfl⟩
  ·intro k s W hI hbW hsW hBW
   exact ⟨hbW, ⟨_, hsW.one 1001 100 rfl (Ent.le_refl _)⟩, hBW⟩
  ·rintro k x ⟨oa, on, oc⟩ B0 W hx hI hbW hBW hB0
   have hxx := stepsL_inv hx
   have hp := hok.place (List.mem_of_getElem? hxx.1)
   have hq := hok.place (List.mem_of_getElem? hxx.2)
   have hpz := hok.bd _ (List.mem_of_getElem? hxx.1)
   have hqz := hok.bd _ (List.mem_of_getElem? hxx.2)
   have hris := hok.rise _ _ _ hxx.1 hxx.2
   have hsl := strmL_len hok kind _ _ hxx.1
   have hvb := lenV_bd (kind := kind) hp hq hpz.2.2.2.2.2.1 hqz.2.2.2.2.2.1
   obtain ⟨hIk, hIn⟩ := hI
   dsimp only at hIk hIn ⊢
   intro Ka5 hKa5
   simp only [alp]
   refine wp_seq' fun K6 hK6 => ?_
   refine wp_reg ?_
   refine ol_alloc 6 z70 rfl fun b6 => ?_
   refine ol_store (id := 6) rfl rfl rfl rfl sz70 rfl rfl (by first | decide | exact Nat.zero_lt_succ _ | simp) ?_
   refine ol_nil (to_k0 (fun _ _ h => h) (hK6 _ _ _ _ _ ?_))
   clear hK6
   refine wp_reg ?_
   refine ol_alloc 7 z70 rfl fun b7 => ?_
   refine ol_store (id := 7) rfl rfl rfl rfl sz70 rfl rfl (by first | decide | exact Nat.zero_lt_succ _ | simp) ?_
   refine ol_nil (to_k0 (fun _ _ h => h) (hKa5 _ _ fun Wb R hbw hBw hn hr => ?_))
   refine wp_block' ?_
   refine wp_seq' fun K7 hK7 => ?_
   refine wp_reg ?_
   refine ol_r (r_fa (o' := 0) rfl fl70_0 rfl) rfl ?_
   refine ol_r (r_ld (id := 7) rfl rfl rfl sc3) rfl ?_
   refine ol_r (r_fa (o' := 0) rfl fl70_0 rfl) rfl ?_
   refine ol_r (r_ld (id := 6) rfl rfl rfl sc3) rfl ?_
   refine ol_r (r_sub rfl rfl (by omega)) rfl ?_
   refine ol_r (r_assign rfl) rfl ?_
   refine ol_nil (to_k0 (fun _ _ h => h) (hK7 _ _ _ _ _ ?_))
   clear hK7
   refine wp_seq' fun K8 hK8 => ?_
   refine wp_reg ?_
   refine ol_r (r_assign rfl) rfl ?_
   refine ol_r (r_assign rfl) rfl ?_
   refine ol_nil (to_k0 (fun _ _ h => h) (hK8 _ _ _ _ _ ?_))
   clear hK8
   refine wp_seq' fun K9 hK9 => ?_
   refine wp_seq' fun K10 hK10 => ?_
   refine wp_reg ?_
   refine ol_r (r_ld (id := 3) rfl rfl rfl sc3) rfl ?_
   refine ol_nil (to_k0 (fun _ _ h => h) (hK10 _ _ _ _ _ ?_))
   clear hK10
   refine wp_block' ?_
   refine wp_seq' fun K11 hK11 => ?_
   refine wp_reg ?_
   refine ol_r (r_eql rfl rfl) rfl ?_
   refine ol_r (r_assign rfl) rfl ?_
   refine ol_nil (to_k0 (fun _ _ h => h) (hK11 _ _ _ _ _ ?_))
   clear hK11
   first | refine wp_condD rfl (fun hc31 => ?_) (fun hc31 => ?_) | refine wp_condN rfl (fun hc31 => ?_) (fun hc31 => ?_) | refine wp_condNB rfl (fun hc31 => ?_) (fun hc31 => ?_) | refine wp_cond' rfl (fun hc31 => ?_) (fun hc31 => ?_)
   ·refine wp_reg ?_
    refine ol_r (r_fa (o' := 4) rfl fl70_4 rfl) rfl ?_
    refine ol_r (r_ld (id := 6) rfl rfl rfl sc3) rfl ?_
    refine ol_r (r_assign rfl) rfl ?_
    refine ol_nil (to_k0 (fun _ _ h => h) (hK9 _ _ _ _ _ ?_))
    clear hK9
    refine wp_seq' fun K12 hK12 => ?_
    refine wp_reg ?_
    refine ol_r (r_move rfl) rfl ?_
    refine ol_r (r_move rfl) rfl ?_
    refine ol_nil (to_k0 (fun _ _ h => h) (hK12 _ _ _ _ _ ?_))
    clear hK12
    refine wp_block' ?_
    apply wp_loopM (σ := Nat × Option Addr × Nat × Nat) (fun s => (s.1 : Int) ≤ x.2.at_ - x.1.at_ ∧ s.2.2.1 = on + s.1) (fun s => [(52, .int .i64 s.1)]) [(4, _), (5, _), (8, _), (9, _), (10, _), (51, _)] (fun s => [(5, .blk b5 [(0, .slice s.2.1 s.2.2.1 s.2.2.2)] 61), (14, .row s.2.1 s.2.2.1 s.2.2.2 (encI.enc (strmL kind A.ss k ++ (stepV kind x.1 x.2).take s.1)) 3 1)]) [(2, _), (3, _), (6, _), (7, _), (1001, _)] (fun s => (x.2.at_ - x.1.at_).toNat - s.1) ((0, _, _, _))
    ·try dsimp only
     exact ⟨by omega, rfl⟩
    ·exact (sub_cons rfl sub_nil)
    ·exact (sub_cons rfl (sub_cons rfl (sub_cons rfl (sub_cons rfl (sub_cons rfl (sub_cons rfl sub_nil))))))
    ·exact (subH_blk rfl (sub_cons rfl sub_nil) (subH_row rfl (by first | (dsimp only; rw [List.take_zero, List.append_nil]; done) | (rw [List.take_zero, List.append_nil]; done) | (dsimp only; done)) subH_nil))
    ·exact (subH_same rfl (subH_same rfl (subH_same rfl (subH_same rfl (subH_same rfl subH_nil)))))
    ·rintro ⟨j, ja, jn, jc⟩ ⟨hj, hjn⟩
     dsimp only at hj hjn ⊢
     intro K13 hK13
     refine wp_seq' fun K14 hK14 => ?_
     refine wp_reg ?_
     refine ol_r (r_lss rfl rfl) rfl ?_
     refine ol_nil (to_k0 (fun _ _ h => h) (hK14 _ _ _ _ _ ?_))
     clear hK14
     refine wp_seq' fun K15 hK15 => ?_
     first | refine wp_condD rfl (fun hc53 => ?_) (fun hc53 => ?_) | refine wp_condN rfl (fun hc53 => ?_) (fun hc53 => ?_) | refine wp_condNB rfl (fun hc53 => ?_) (fun hc53 => ?_) | refine wp_cond' rfl (fun hc53 => ?_) (fun hc53 => ?_)
     ·refine wp_skip' (to_k0 (fun _ _ h => h) (hK15 _ _ _ _ _ ?_))
      clear hK15
      refine wp_seq' fun K16 hK16 => ?_
      refine wp_block' ?_
      refine wp_seq' fun K17 hK17 => ?_
      refine wp_reg ?_
      refine ol_r (r_move rfl) rfl ?_
      refine ol_r (r_assign rfl) rfl ?_
      refine ol_nil (to_k0 (fun _ _ h => h) (hK17 _ _ _ _ _ ?_))
      clear hK17
      refine wp_block' ?_
      refine wp_seq' fun K18 hK18 => ?_
      refine wp_reg ?_
      refine ol_r (r_move rfl) rfl ?_
      refine ol_r (r_gtr rfl rfl) rfl ?_
      refine ol_r (r_move rfl) rfl ?_
      refine ol_split (d := 62) rfl (fun hs62 => ?_) (fun hs62 => ?_)
      ·have phs62 := hs62; try simp only [decide_eq_true_eq, decide_eq_false_iff_not, Bool.not_eq_true', Bool.not_eq_false', Bool.not_true, Bool.not_false] at phs62
       refine ol_g rfl rfl hs62 ?_
       refine ol_r (r_move rfl) rfl ?_
       refine ol_r (r_pickT rfl hs62 rfl) rfl ?_
       refine ol_r (r_assign rfl) rfl ?_
       refine ol_nil (to_k0 (fun _ _ h => h) (hK18 _ _ _ _ _ ?_))
       clear hK18
       refine wp_condF rfl ?_
       refine wp_seq' fun K19 hK19 => ?_
       refine wp_reg ?_
       refine ol_r (r_move rfl) rfl ?_
       refine ol_r (r_gtr rfl rfl) rfl ?_
       refine ol_r (r_assign rfl) rfl ?_
       refine ol_nil (to_k0 (fun _ _ h => h) (hK19 _ _ _ _ _ ?_))
       clear hK19
       first | refine wp_condD rfl (fun hc68 => ?_) (fun hc68 => ?_) | refine wp_condN rfl (fun hc68 => ?_) (fun hc68 => ?_) | refine wp_condNB rfl (fun hc68 => ?_) (fun hc68 => ?_) | refine wp_cond' rfl (fun hc68 => ?_) (fun hc68 => ?_)
       ·refine wp_reg ?_
        refine ol_r (r_ld (id := 5) rfl rfl rfl sc61) rfl ?_
        refine ol_bs1 72 rfl rfl rw61 rfl rfl rfl fun a72 => ?_
        refine ol_append1 (id := 14) (id2 := 72) rfl rfl rfl rfl rfl rw61 (by omega) rfl fun a73 c73 => ?_
        refine ol_store (id := 5) rfl rfl rfl rfl sz61 rfl rfl (by first | decide | exact Nat.zero_lt_succ _ | simp) ?_
        refine ol_nil (to_k0 (fun _ _ h => h) (hK16 _ _ _ _ _ ?_))
        clear hK16
        refine wp_reg ?_
        refine ol_r (r_add rfl rfl (by omega)) rfl ?_
        refine ol_r (r_move rfl) rfl ?_
        refine ol_nil (to_k0 (fun _ _ h => h) (hK13 ((j + 1, _, _, _)) _ _ ?_ ?_ (sub_cons rfl sub_nil) (sub_cons rfl (sub_cons rfl (sub_cons rfl (sub_cons rfl (sub_cons rfl (sub_cons rfl sub_nil)))))) (by exact (subH_blk rfl (sub_cons rfl sub_nil) (subH_row rfl (by first | (dsimp only; first | (rw [stepV_snoc (by omega) (elV_big (by omega) (by omega)), ← List.append_assoc, encI_snoc]; done) | (rw [stepV_snoc (by omega) (elV_gap (by omega) (by omega)), ← List.append_assoc, encI_snoc]; done) | (rw [stepV_snoc (by omega) (elV_len (by omega) (by omega)), lenV_4 (by omega), ← List.append_assoc, encI_snoc]; done) | (rw [stepV_snoc (by omega) (elV_len (by omega) (by omega)), lenV_5 (by omega), ← List.append_assoc, encI_snoc]; done) | (rw [stepV_snoc (by omega) ((elV_val (by omega) (by omega)).trans (valV_1 (by omega))), ← List.append_assoc, encI_snoc]; done) | (rw [stepV_snoc (by omega) ((elV_val (by omega) (by omega)).trans (valV_2 (by omega))), ← List.append_assoc, encI_snoc]; done) | (rw [stepV_snoc (by omega) ((elV_val (by omega) (by omega)).trans (valV_3 (by omega))), ← List.append_assoc, encI_snoc]; done); done) | (first | (rw [stepV_snoc (by omega) (elV_big (by omega) (by omega)), ← List.append_assoc, encI_snoc]; done) | (rw [stepV_snoc (by omega) (elV_gap (by omega) (by omega)), ← List.append_assoc, encI_snoc]; done) | (rw [stepV_snoc (by omega) (elV_len (by omega) (by omega)), lenV_4 (by omega), ← List.append_assoc, encI_snoc]; done) | (rw [stepV_snoc (by omega) (elV_len (by omega) (by omega)), lenV_5 (by omega), ← List.append_assoc, encI_snoc]; done) | (rw [stepV_snoc (by omega) ((elV_val (by omega) (by omega)).trans (valV_1 (by omega))), ← List.append_assoc, encI_snoc]; done) | (rw [stepV_snoc (by omega) ((elV_val (by omega) (by omega)).trans (valV_2 (by omega))), ← List.append_assoc, encI_snoc]; done) | (rw [stepV_snoc (by omega) ((elV_val (by omega) (by omega)).trans (valV_3 (by omega))), ← List.append_assoc, encI_snoc]; done); done) | (dsimp only; done)) subH_nil))) (subH_same rfl (subH_same rfl (subH_same rfl (subH_same rfl (subH_same rfl subH_nil)))))))
        ·try dsimp only
         exact ⟨by omega, by omega⟩
        ·try dsimp only
         omega
       ·refine wp_seq' fun K20 hK20 => ?_
        refine wp_reg ?_
        refine ol_r (r_move rfl) rfl ?_
        refine ol_r (r_assign rfl) rfl ?_
        refine ol_nil (to_k0 (fun _ _ h => h) (hK20 _ _ _ _ _ ?_))
        clear hK20
        refine wp_condF rfl ?_
        refine wp_reg ?_
        refine ol_r (r_ld (id := 5) rfl rfl rfl sc61) rfl ?_
        refine ol_r (r_move rfl) rfl ?_
        refine ol_bs1 57 rfl rfl rw61 rfl rfl rfl fun a57 => ?_
        refine ol_append1 (id := 14) (id2 := 57) rfl rfl rfl rfl rfl rw61 (by omega) rfl fun a58 c58 => ?_
        refine ol_store (id := 5) rfl rfl rfl rfl sz61 rfl rfl (by first | decide | exact Nat.zero_lt_succ _ | simp) ?_
        refine ol_nil (to_k0 (fun _ _ h => h) (hK16 _ _ _ _ _ ?_))
        clear hK16
        refine wp_reg ?_
        refine ol_r (r_add rfl rfl (by omega)) rfl ?_
        refine ol_r (r_move rfl) rfl ?_
        refine ol_nil (to_k0 (fun _ _ h => h) (hK13 ((j + 1, _, _, _)) _ _ ?_ ?_ (sub_cons rfl sub_nil) (sub_cons rfl (sub_cons rfl (sub_cons rfl (sub_cons rfl (sub_cons rfl (sub_cons rfl sub_nil)))))) (by exact (subH_blk rfl (sub_cons rfl sub_nil) (subH_row rfl (by first | (dsimp only; first | (rw [stepV_snoc (by omega) (elV_big (by omega) (by omega)), ← List.append_assoc, encI_snoc]; done) | (rw [stepV_snoc (by omega) (elV_gap (by omega) (by omega)), ← List.append_assoc, encI_snoc]; done) | (rw [stepV_snoc (by omega) (elV_len (by omega) (by omega)), lenV_4 (by omega), ← List.append_assoc, encI_snoc]; done) | (rw [stepV_snoc (by omega) (elV_len (by omega) (by omega)), lenV_5 (by omega), ← List.append_assoc, encI_snoc]; done) | (rw [stepV_snoc (by omega) ((elV_val (by omega) (by omega)).trans (valV_1 (by omega))), ← List.append_assoc, encI_snoc]; done) | (rw [stepV_snoc (by omega) ((elV_val (by omega) (by omega)).trans (valV_2 (by omega))), ← List.append_assoc, encI_snoc]; done) | (rw [stepV_snoc (by omega) ((elV_val (by omega) (by omega)).trans (valV_3 (by omega))), ← List.append_assoc, encI_snoc]; done); done) | (first | (rw [stepV_snoc (by omega) (elV_big (by omega) (by omega)), ← List.append_assoc, encI_snoc]; done) | (rw [stepV_snoc (by omega) (elV_gap (by omega) (by omega)), ← List.append_assoc, encI_snoc]; done) | (rw [stepV_snoc (by omega) (elV_len (by omega) (by omega)), lenV_4 (by omega), ← List.append_assoc, encI_snoc]; done) | (rw [stepV_snoc (by omega) (elV_len (by omega) (by omega)), lenV_5 (by omega), ← List.append_assoc, encI_snoc]; done) | (rw [stepV_snoc (by omega) ((elV_val (by omega) (by omega)).trans (valV_1 (by omega))), ← List.append_assoc, encI_snoc]; done) | (rw [stepV_snoc (by omega) ((elV_val (by omega) (by omega)).trans (valV_2 (by omega))), ← List.append_assoc, encI_snoc]; done) | (rw [stepV_snoc (by omega) ((elV_val (by omega) (by omega)).trans (valV_3 (by omega))), ← List.append_assoc, encI_snoc]; done); done) | (dsimp only; done)) subH_nil))) (subH_same rfl (subH_same rfl (subH_same rfl (subH_same rfl (subH_same rfl subH_nil)))))))
        ·try dsimp only
         exact ⟨by omega, by omega⟩
        ·try dsimp only
         omega
      ·have phs62 := hs62; try simp only [decide_eq_true_eq, decide_eq_false_iff_not, Bool.not_eq_true', Bool.not_eq_false', Bool.not_true, Bool.not_false] at phs62
       refine ol_s rfl rfl hs62 rfl ?_
       refine ol_r (r_pickF rfl hs62 rfl) rfl ?_
       refine ol_r (r_assign rfl) rfl ?_
       refine ol_nil (to_k0 (fun _ _ h => h) (hK18 _ _ _ _ _ ?_))
       clear hK18
       refine wp_condF rfl ?_
       refine wp_seq' fun K21 hK21 => ?_
       refine wp_reg ?_
       refine ol_r (r_move rfl) rfl ?_
       refine ol_r (r_gtr rfl rfl) rfl ?_
       refine ol_r (r_assign rfl) rfl ?_
       refine ol_nil (to_k0 (fun _ _ h => h) (hK21 _ _ _ _ _ ?_))
       clear hK21
       first | refine wp_condD rfl (fun hc68 => ?_) (fun hc68 => ?_) | refine wp_condN rfl (fun hc68 => ?_) (fun hc68 => ?_) | refine wp_condNB rfl (fun hc68 => ?_) (fun hc68 => ?_) | refine wp_cond' rfl (fun hc68 => ?_) (fun hc68 => ?_)
       ·refine wp_reg ?_
        refine ol_r (r_ld (id := 5) rfl rfl rfl sc61) rfl ?_
        refine ol_bs1 72 rfl rfl rw61 rfl rfl rfl fun a72 => ?_
        refine ol_append1 (id := 14) (id2 := 72) rfl rfl rfl rfl rfl rw61 (by omega) rfl fun a73 c73 => ?_
        refine ol_store (id := 5) rfl rfl rfl rfl sz61 rfl rfl (by first | decide | exact Nat.zero_lt_succ _ | simp) ?_
        refine ol_nil (to_k0 (fun _ _ h => h) (hK16 _ _ _ _ _ ?_))
        clear hK16
        refine wp_reg ?_
        refine ol_r (r_add rfl rfl (by omega)) rfl ?_
        refine ol_r (r_move rfl) rfl ?_
        refine ol_nil (to_k0 (fun _ _ h => h) (hK13 ((j + 1, _, _, _)) _ _ ?_ ?_ (sub_cons rfl sub_nil) (sub_cons rfl (sub_cons rfl (sub_cons rfl (sub_cons rfl (sub_cons rfl (sub_cons rfl sub_nil)))))) (by exact (subH_blk rfl (sub_cons rfl sub_nil) (subH_row rfl (by first | (dsimp only; first | (rw [stepV_snoc (by omega) (elV_big (by omega) (by omega)), ← List.append_assoc, encI_snoc]; done) | (rw [stepV_snoc (by omega) (elV_gap (by omega) (by omega)), ← List.append_assoc, encI_snoc]; done) | (rw [stepV_snoc (by omega) (elV_len (by omega) (by omega)), lenV_4 (by omega), ← List.append_assoc, encI_snoc]; done) | (rw [stepV_snoc (by omega) (elV_len (by omega) (by omega)), lenV_5 (by omega), ← List.append_assoc, encI_snoc]; done) | (rw [stepV_snoc (by omega) ((elV_val (by omega) (by omega)).trans (valV_1 (by omega))), ← List.append_assoc, encI_snoc]; done) | (rw [stepV_snoc (by omega) ((elV_val (by omega) (by omega)).trans (valV_2 (by omega))), ← List.append_assoc, encI_snoc]; done) | (rw [stepV_snoc (by omega) ((elV_val (by omega) (by omega)).trans (valV_3 (by omega))), ← List.append_assoc, encI_snoc]; done); done) | (first | (rw [stepV_snoc (by omega) (elV_big (by omega) (by omega)), ← List.append_assoc, encI_snoc]; done) | (rw [stepV_snoc (by omega) (elV_gap (by omega) (by omega)), ← List.append_assoc, encI_snoc]; done) | (rw [stepV_snoc (by omega) (elV_len (by omega) (by omega)), lenV_4 (by omega), ← List.append_assoc, encI_snoc]; done) | (rw [stepV_snoc (by omega) (elV_len (by omega) (by omega)), lenV_5 (by omega), ← List.append_assoc, encI_snoc]; done) | (rw [stepV_snoc (by omega) ((elV_val (by omega) (by omega)).trans (valV_1 (by omega))), ← List.append_assoc, encI_snoc]; done) | (rw [stepV_snoc (by omega) ((elV_val (by omega) (by omega)).trans (valV_2 (by omega))), ← List.append_assoc, encI_snoc]; done) | (rw [stepV_snoc (by omega) ((elV_val (by omega) (by omega)).trans (valV_3 (by omega))), ← List.append_assoc, encI_snoc]; done); done) | (dsimp only; done)) subH_nil))) (subH_same rfl (subH_same rfl (subH_same rfl (subH_same rfl (subH_same rfl subH_nil)))))))
        ·try dsimp only
         exact ⟨by omega, by omega⟩
        ·try dsimp only
         omega
       ·refine wp_seq' fun K22 hK22 => ?_
        refine wp_reg ?_
        refine ol_r (r_move rfl) rfl ?_
        refine ol_r (r_assign rfl) rfl ?_
        refine ol_nil (to_k0 (fun _ _ h => h) (hK22 _ _ _ _ _ ?_))
        clear hK22
        refine wp_condF rfl ?_
        refine wp_reg ?_
        refine ol_r (r_ld (id := 5) rfl rfl rfl sc61) rfl ?_
        refine ol_r (r_move rfl) rfl ?_
        refine ol_bs1 57 rfl rfl rw61 rfl rfl rfl fun a57 => ?_
        refine ol_append1 (id := 14) (id2 := 57) rfl rfl rfl rfl rfl rw61 (by omega) rfl fun a58 c58 => ?_
        refine ol_store (id := 5) rfl rfl rfl rfl sz61 rfl rfl (by first | decide | exact Nat.zero_lt_succ _ | simp) ?_
        refine ol_nil (to_k0 (fun _ _ h => h) (hK16 _ _ _ _ _ ?_))
        clear hK16
        refine wp_reg ?_
        refine ol_r (r_add rfl rfl (by omega)) rfl ?_
        refine ol_r (r_move rfl) rfl ?_
        refine ol_nil (to_k0 (fun _ _ h => h) (hK13 ((j + 1, _, _, _)) _ _ ?_ ?_ (sub_cons rfl sub_nil) (sub_cons rfl (sub_cons rfl (sub_cons rfl (sub_cons rfl (sub_cons rfl (sub_cons rfl sub_nil)))))) (by exact (subH_blk rfl (sub_cons rfl sub_nil) (subH_row rfl (by first | (dsimp only; first | (rw [stepV_snoc (by omega) (elV_big (by omega) (by omega)), ← List.append_assoc, encI_snoc]; done) | (rw [stepV_snoc (by omega) (elV_gap (by omega) (by omega)), ← List.append_assoc, encI_snoc]; done) | (rw [stepV_snoc (by omega) (elV_len (by omega) (by omega)), lenV_4 (by omega), ← List.append_assoc, encI_snoc]; done) | (rw [stepV_snoc (by omega) (elV_len (by omega) (by omega)), lenV_5 (by omega), ← List.append_assoc, encI_snoc]; done) | (rw [stepV_snoc (by omega) ((elV_val (by omega) (by omega)).trans (valV_1 (by omega))), ← List.append_assoc, encI_snoc]; done) | (rw [stepV_snoc (by omega) ((elV_val (by omega) (by omega)).trans (valV_2 (by omega))), ← List.append_assoc, encI_snoc]; done) | (rw [stepV_snoc (by omega) ((elV_val (by omega) (by omega)).trans (valV_3 (by omega))), ← List.append_assoc, encI_snoc]; done); done) | (first | (rw [stepV_snoc (by omega) (elV_big (by omega) (by omega)), ← List.append_assoc, encI_snoc]; done) | (rw [stepV_snoc (by omega) (elV_gap (by omega) (by omega)), ← List.append_assoc, encI_snoc]; done) | (rw [stepV_snoc (by omega) (elV_len (by omega) (by omega)), lenV_4 (by omega), ← List.append_assoc, encI_snoc]; done) | (rw [stepV_snoc (by omega) (elV_len (by omega) (by omega)), lenV_5 (by omega), ← List.append_assoc, encI_snoc]; done) | (rw [stepV_snoc (by omega) ((elV_val (by omega) (by omega)).trans (valV_1 (by omega))), ← List.append_assoc, encI_snoc]; done) | (rw [stepV_snoc (by omega) ((elV_val (by omega) (by omega)).trans (valV_2 (by omega))), ← List.append_assoc, encI_snoc]; done) | (rw [stepV_snoc (by omega) ((elV_val (by omega) (by omega)).trans (valV_3 (by omega))), ← List.append_assoc, encI_snoc]; done); done) | (dsimp only; done)) subH_nil))) (subH_same rfl (subH_same rfl (subH_same rfl (subH_same rfl (subH_same rfl subH_nil)))))))
        ·try dsimp only
         exact ⟨by omega, by omega⟩
        ·try dsimp only
         omega
     ·refine wp_exit' (QP.of (hn ((_, _, _)) _ _ ?_ (by exact (subH_blk rfl (sub_cons rfl sub_nil) (subH_row rfl (by first | (dsimp only; rw [strmL_succ hx, List.take_of_length_le (by rw [stepV_len]; omega)]; done) | (rw [strmL_succ hx, List.take_of_length_le (by rw [stepV_len]; omega)]; done) | (dsimp only; done)) subH_nil))) (subH_same rfl (subH_same rfl (subH_same rfl subH_nil)))) (fun _ _ h => h))
      try dsimp only
      refine ⟨by have := (List.getElem?_eq_some_iff.1 hx).1; omega, ?_⟩
      rw [strmL_succ hx, List.length_append, stepV_len]
      omega
   ·refine wp_seq' fun K23 hK23 => ?_
    refine wp_reg ?_
    refine ol_r (r_eql rfl rfl) rfl ?_
    refine ol_r (r_assign rfl) rfl ?_
    refine ol_nil (to_k0 (fun _ _ h => h) (hK23 _ _ _ _ _ ?_))
    clear hK23
    first | refine wp_condD rfl (fun hc35 => ?_) (fun hc35 => ?_) | refine wp_condN rfl (fun hc35 => ?_) (fun hc35 => ?_) | refine wp_condNB rfl (fun hc35 => ?_) (fun hc35 => ?_) | refine wp_cond' rfl (fun hc35 => ?_) (fun hc35 => ?_)
    ·refine wp_reg ?_
     refine ol_r (r_fa (o' := 5) rfl fl70_5 rfl) rfl ?_
     refine ol_r (r_ld (id := 6) rfl rfl rfl sc3) rfl ?_
     refine ol_r (r_assign rfl) rfl ?_
     refine ol_nil (to_k0 (fun _ _ h => h) (hK9 _ _ _ _ _ ?_))
     clear hK9
     refine wp_seq' fun K24 hK24 => ?_
     refine wp_reg ?_
     refine ol_r (r_move rfl) rfl ?_
     refine ol_r (r_move rfl) rfl ?_
     refine ol_nil (to_k0 (fun _ _ h => h) (hK24 _ _ _ _ _ ?_))
     clear hK24
     refine wp_block' ?_
     apply wp_loopM (σ := Nat × Option Addr × Nat × Nat) (fun s => (s.1 : Int) ≤ x.2.at_ - x.1.at_ ∧ s.2.2.1 = on + s.1) (fun s => [(52, .int .i64 s.1)]) [(4, _), (5, _), (8, _), (9, _), (10, _), (51, _)] (fun s => [(5, .blk b5 [(0, .slice s.2.1 s.2.2.1 s.2.2.2)] 61), (14, .row s.2.1 s.2.2.1 s.2.2.2 (encI.enc (strmL kind A.ss k ++ (stepV kind x.1 x.2).take s.1)) 3 1)]) [(2, _), (3, _), (6, _), (7, _), (1001, _)] (fun s => (x.2.at_ - x.1.at_).toNat - s.1) ((0, _, _, _))
     ·try dsimp only
      exact ⟨by omega, rfl⟩
     ·exact (sub_cons rfl sub_nil)
     ·exact (sub_cons rfl (sub_cons rfl (sub_cons rfl (sub_cons rfl (sub_cons rfl (sub_cons rfl sub_nil))))))
     ·exact (subH_blk rfl (sub_cons rfl sub_nil) (subH_row rfl (by first | (dsimp only; rw [List.take_zero, List.append_nil]; done) | (rw [List.take_zero, List.append_nil]; done) | (dsimp only; done)) subH_nil))
     ·exact (subH_same rfl (subH_same rfl (subH_same rfl (subH_same rfl (subH_same rfl subH_nil)))))
     ·rintro ⟨j, ja, jn, jc⟩ ⟨hj, hjn⟩
      dsimp only at hj hjn ⊢
      intro K25 hK25
      refine wp_seq' fun K26 hK26 => ?_
      refine wp_reg ?_
      refine ol_r (r_lss rfl rfl) rfl ?_
      refine ol_nil (to_k0 (fun _ _ h => h) (hK26 _ _ _ _ _ ?_))
      clear hK26
      refine wp_seq' fun K27 hK27 => ?_
      first | refine wp_condD rfl (fun hc53 => ?_) (fun hc53 => ?_) | refine wp_condN rfl (fun hc53 => ?_) (fun hc53 => ?_) | refine wp_condNB rfl (fun hc53 => ?_) (fun hc53 => ?_) | refine wp_cond' rfl (fun hc53 => ?_) (fun hc53 => ?_)
      ·refine wp_skip' (to_k0 (fun _ _ h => h) (hK27 _ _ _ _ _ ?_))
       clear hK27
       refine wp_seq' fun K28 hK28 => ?_
       refine wp_block' ?_
       refine wp_seq' fun K29 hK29 => ?_
       refine wp_reg ?_
       refine ol_r (r_move rfl) rfl ?_
       refine ol_r (r_assign rfl) rfl ?_
       refine ol_nil (to_k0 (fun _ _ h => h) (hK29 _ _ _ _ _ ?_))
       clear hK29
       refine wp_block' ?_
       refine wp_seq' fun K30 hK30 => ?_
       refine wp_reg ?_
       refine ol_r (r_move rfl) rfl ?_
       refine ol_r (r_gtr rfl rfl) rfl ?_
       refine ol_r (r_move rfl) rfl ?_
       refine ol_split (d := 62) rfl (fun hs62 => ?_) (fun hs62 => ?_)
       ·have phs62 := hs62; try simp only [decide_eq_true_eq, decide_eq_false_iff_not, Bool.not_eq_true', Bool.not_eq_false', Bool.not_true, Bool.not_false] at phs62
        refine ol_g rfl rfl hs62 ?_
        refine ol_r (r_move rfl) rfl ?_
        refine ol_r (r_pickT rfl hs62 rfl) rfl ?_
        refine ol_r (r_assign rfl) rfl ?_
        refine ol_nil (to_k0 (fun _ _ h => h) (hK30 _ _ _ _ _ ?_))
        clear hK30
        refine wp_condF rfl ?_
        refine wp_seq' fun K31 hK31 => ?_
        refine wp_reg ?_
        refine ol_r (r_move rfl) rfl ?_
        refine ol_r (r_gtr rfl rfl) rfl ?_
        refine ol_r (r_assign rfl) rfl ?_
        refine ol_nil (to_k0 (fun _ _ h => h) (hK31 _ _ _ _ _ ?_))
        clear hK31
        first | refine wp_condD rfl (fun hc68 => ?_) (fun hc68 => ?_) | refine wp_condN rfl (fun hc68 => ?_) (fun hc68 => ?_) | refine wp_condNB rfl (fun hc68 => ?_) (fun hc68 => ?_) | refine wp_cond' rfl (fun hc68 => ?_) (fun hc68 => ?_)
        ·refine wp_reg ?_
         refine ol_r (r_ld (id := 5) rfl rfl rfl sc61) rfl ?_
         refine ol_bs1 72 rfl rfl rw61 rfl rfl rfl fun a72 => ?_
         refine ol_append1 (id := 14) (id2 := 72) rfl rfl rfl rfl rfl rw61 (by omega) rfl fun a73 c73 => ?_
         refine ol_store (id := 5) rfl rfl rfl rfl sz61 rfl rfl (by first | decide | exact Nat.zero_lt_succ _ | simp) ?_
         refine ol_nil (to_k0 (fun _ _ h => h) (hK28 _ _ _ _ _ ?_))
         clear hK28
         refine wp_reg ?_
         refine ol_r (r_add rfl rfl (by omega)) rfl ?_
         refine ol_r (r_move rfl) rfl ?_
         refine ol_nil (to_k0 (fun _ _ h => h) (hK25 ((j + 1, _, _, _)) _ _ ?_ ?_ (sub_cons rfl sub_nil) (sub_cons rfl (sub_cons rfl (sub_cons rfl (sub_cons rfl (sub_cons rfl (sub_cons rfl sub_nil)))))) (by exact (subH_blk rfl (sub_cons rfl sub_nil) (subH_row rfl (by first | (dsimp only; first | (rw [stepV_snoc (by omega) (elV_big (by omega) (by omega)), ← List.append_assoc, encI_snoc]; done) | (rw [stepV_snoc (by omega) (elV_gap (by omega) (by omega)), ← List.append_assoc, encI_snoc]; done) | (rw [stepV_snoc (by omega) (elV_len (by omega) (by omega)), lenV_4 (by omega), ← List.append_assoc, encI_snoc]; done) | (rw [stepV_snoc (by omega) (elV_len (by omega) (by omega)), lenV_5 (by omega), ← List.append_assoc, encI_snoc]; done) | (rw [stepV_snoc (by omega) ((elV_val (by omega) (by omega)).trans (valV_1 (by omega))), ← List.append_assoc, encI_snoc]; done) | (rw [stepV_snoc (by omega) ((elV_val (by omega) (by omega)).trans (valV_2 (by omega))), ← List.append_assoc, encI_snoc]; done) | (rw [stepV_snoc (by omega) ((elV_val (by omega) (by omega)).trans (valV_3 (by omega))), ← List.append_assoc, encI_snoc]; done); done) | (first | (rw [stepV_snoc (by omega) (elV_big (by omega) (by omega)), ← List.append_assoc, encI_snoc]; done) | (rw [stepV_snoc (by omega) (elV_gap (by omega) (by omega)), ← List.append_assoc, encI_snoc]; done) | (rw [stepV_snoc (by omega) (elV_len (by omega) (by omega)), lenV_4 (by omega), ← List.append_assoc, encI_snoc]; done) | (rw [stepV_snoc (by omega) (elV_len (by omega) (by omega)), lenV_5 (by omega), ← List.append_assoc, encI_snoc]; done) | (rw [stepV_snoc (by omega) ((elV_val (by omega) (by omega)).trans (valV_1 (by omega))), ← List.append_assoc, encI_snoc]; done) | (rw [stepV_snoc (by omega) ((elV_val (by omega) (by omega)).trans (valV_2 (by omega))), ← List.append_assoc, encI_snoc]; done) | (rw [stepV_snoc (by omega) ((elV_val (by omega) (by omega)).trans (valV_3 (by omega))), ← List.append_assoc, encI_snoc]; done); done) | (dsimp only; done)) subH_nil))) (subH_same rfl (subH_same rfl (subH_same rfl (subH_same rfl (subH_same rfl subH_nil)))))))
         ·try dsimp only
          exact ⟨by omega, by omega⟩
         ·try dsimp only
          omega
        ·refine wp_seq' fun K32 hK32 => ?_
         refine wp_reg ?_
         refine ol_r (r_move rfl) rfl ?_
         refine ol_r (r_assign rfl) rfl ?_
         refine ol_nil (to_k0 (fun _ _ h => h) (hK32 _ _ _ _ _ ?_))
         clear hK32
         refine wp_condF rfl ?_
         refine wp_reg ?_
         refine ol_r (r_ld (id := 5) rfl rfl rfl sc61) rfl ?_
         refine ol_r (r_move rfl) rfl ?_
         refine ol_bs1 57 rfl rfl rw61 rfl rfl rfl fun a57 => ?_
         refine ol_append1 (id := 14) (id2 := 57) rfl rfl rfl rfl rfl rw61 (by omega) rfl fun a58 c58 => ?_
         refine ol_store (id := 5) rfl rfl rfl rfl sz61 rfl rfl (by first | decide | exact Nat.zero_lt_succ _ | simp) ?_
         refine ol_nil (to_k0 (fun _ _ h => h) (hK28 _ _ _ _ _ ?_))
         clear hK28
         refine wp_reg ?_
         refine ol_r (r_add rfl rfl (by omega)) rfl ?_
         refine ol_r (r_move rfl) rfl ?_
         refine ol_nil (to_k0 (fun _ _ h => h) (hK25 ((j + 1, _, _, _)) _ _ ?_ ?_ (sub_cons rfl sub_nil) (sub_cons rfl (sub_cons rfl (sub_cons rfl (sub_cons rfl (sub_cons rfl (sub_cons rfl sub_nil)))))) (by exact (subH_blk rfl (sub_cons rfl sub_nil) (subH_row rfl (by first | (dsimp only; first | (rw [stepV_snoc (by omega) (elV_big (by omega) (by omega)), ← List.append_assoc, encI_snoc]; done) | (rw [stepV_snoc (by omega) (elV_gap (by omega) (by omega)), ← List.append_assoc, encI_snoc]; done) | (rw [stepV_snoc (by omega) (elV_len (by omega) (by omega)), lenV_4 (by omega), ← List.append_assoc, encI_snoc]; done) | (rw [stepV_snoc (by omega) (elV_len (by omega) (by omega)), lenV_5 (by omega), ← List.append_assoc, encI_snoc]; done) | (rw [stepV_snoc (by omega) ((elV_val (by omega) (by omega)).trans (valV_1 (by omega))), ← List.append_assoc, encI_snoc]; done) | (rw [stepV_snoc (by omega) ((elV_val (by omega) (by omega)).trans (valV_2 (by omega))), ← List.append_assoc, encI_snoc]; done) | (rw [stepV_snoc (by omega) ((elV_val (by omega) (by omega)).trans (valV_3 (by omega))), ← List.append_assoc, encI_snoc]; done); done) | (first | (rw [stepV_snoc (by omega) (elV_big (by omega) (by omega)), ← List.append_assoc, encI_snoc]; done) | (rw [stepV_snoc (by omega) (elV_gap (by omega) (by omega)), ← List.append_assoc, encI_snoc]; done) | (rw [stepV_snoc (by omega) (elV_len (by omega) (by omega)), lenV_4 (by omega), ← List.append_assoc, encI_snoc]; done) | (rw [stepV_snoc (by omega) (elV_len (by omega) (by omega)), lenV_5 (by omega), ← List.append_assoc, encI_snoc]; done) | (rw [stepV_snoc (by omega) ((elV_val (by omega) (by omega)).trans (valV_1 (by omega))), ← List.append_assoc, encI_snoc]; done) | (rw [stepV_snoc (by omega) ((elV_val (by omega) (by omega)).trans (valV_2 (by omega))), ← List.append_assoc, encI_snoc]; done) | (rw [stepV_snoc (by omega) ((elV_val (by omega) (by omega)).trans (valV_3 (by omega))), ← List.append_assoc, encI_snoc]; done); done) | (dsimp only; done)) subH_nil))) (subH_same rfl (subH_same rfl (subH_same rfl (subH_same rfl (subH_same rfl subH_nil)))))))
         ·try dsimp only
          exact ⟨by omega, by omega⟩
         ·try dsimp only
          omega
       ·have phs62 := hs62; try simp only [decide_eq_true_eq, decide_eq_false_iff_not, Bool.not_eq_true', Bool.not_eq_false', Bool.not_true, Bool.not_false] at phs62
        refine ol_s rfl rfl hs62 rfl ?_
        refine ol_r (r_pickF rfl hs62 rfl) rfl ?_
        refine ol_r (r_assign rfl) rfl ?_
        refine ol_nil (to_k0 (fun _ _ h => h) (hK30 _ _ _ _ _ ?_))
        clear hK30
        refine wp_condF rfl ?_
        refine wp_seq' fun K33 hK33 => ?_
        refine wp_reg ?_
        refine ol_r (r_move rfl) rfl ?_
        refine ol_r (r_gtr rfl rfl) rfl ?_
        refine ol_r (r_assign rfl) rfl ?_
        refine ol_nil (to_k0 (fun _ _ h => h) (hK33 _ _ _ _ _ ?_))
        clear hK33
        first | refine wp_condD rfl (fun hc68 => ?_) (fun hc68 => ?_) | refine wp_condN rfl (fun hc68 => ?_) (fun hc68 => ?_) | refine wp_condNB rfl (fun hc68 => ?_) (fun hc68 => ?_) | refine wp_cond' rfl (fun hc68 => ?_) (fun hc68 => ?_)
        ·refine wp_reg ?_
         refine ol_r (r_ld (id := 5) rfl rfl rfl sc61) rfl ?_
         refine ol_bs1 72 rfl rfl rw61 rfl rfl rfl fun a72 => ?_
         refine ol_append1 (id := 14) (id2 := 72) rfl rfl rfl rfl rfl rw61 (by omega) rfl fun a73 c73 => ?_
         refine ol_store (id := 5) rfl rfl rfl rfl sz61 rfl rfl (by first | decide | exact Nat.zero_lt_succ _ | simp) ?_
         refine ol_nil (to_k0 (fun _ _ h => h) (hK28 _ _ _ _ _ ?_))
         clear hK28
         refine wp_reg ?_
         refine ol_r (r_add rfl rfl (by omega)) rfl ?_
         refine ol_r (r_move rfl) rfl ?_
         refine ol_nil (to_k0 (fun _ _ h => h) (hK25 ((j + 1, _, _, _)) _ _ ?_ ?_ (sub_cons rfl sub_nil) (sub_cons rfl (sub_cons rfl (sub_cons rfl (sub_cons rfl (sub_cons rfl (sub_cons rfl sub_nil)))))) (by exact (subH_blk rfl (sub_cons rfl sub_nil) (subH_row rfl (by first | (dsimp only; first | (rw [stepV_snoc (by omega) (elV_big (by omega) (by omega)), ← List.append_assoc, encI_snoc]; done) | (rw [stepV_snoc (by omega) (elV_gap (by omega) (by omega)), ← List.append_assoc, encI_snoc]; done) | (rw [stepV_snoc (by omega) (elV_len (by omega) (by omega)), lenV_4 (by omega), ← List.append_assoc, encI_snoc]; done) | (rw [stepV_snoc (by omega) (elV_len (by omega) (by omega)), lenV_5 (by omega), ← List.append_assoc, encI_snoc]; done) | (rw [stepV_snoc (by omega) ((elV_val (by omega) (by omega)).trans (valV_1 (by omega))), ← List.append_assoc, encI_snoc]; done) | (rw [stepV_snoc (by omega) ((elV_val (by omega) (by omega)).trans (valV_2 (by omega))), ← List.append_assoc, encI_snoc]; done) | (rw [stepV_snoc (by omega) ((elV_val (by omega) (by omega)).trans (valV_3 (by omega))), ← List.append_assoc, encI_snoc]; done); done) | (first | (rw [stepV_snoc (by omega) (elV_big (by omega) (by omega)), ← List.append_assoc, encI_snoc]; done) | (rw [stepV_snoc (by omega) (elV_gap (by omega) (by omega)), ← List.append_assoc, encI_snoc]; done) | (rw [stepV_snoc (by omega) (elV_len (by omega) (by omega)), lenV_4 (by omega), ← List.append_assoc, encI_snoc]; done) | (rw [stepV_snoc (by omega) (elV_len (by omega) (by omega)), lenV_5 (by omega), ← List.append_assoc, encI_snoc]; done) | (rw [stepV_snoc (by omega) ((elV_val (by omega) (by omega)).trans (valV_1 (by omega))), ← List.append_assoc, encI_snoc]; done) | (rw [stepV_snoc (by omega) ((elV_val (by omega) (by omega)).trans (valV_2 (by omega))), ← List.append_assoc, encI_snoc]; done) | (rw [stepV_snoc (by omega) ((elV_val (by omega) (by omega)).trans (valV_3 (by omega))), ← List.append_assoc, encI_snoc]; done); done) | (dsimp only; done)) subH_nil))) (subH_same rfl (subH_same rfl (subH_same rfl (subH_same rfl (subH_same rfl subH_nil)))))))
         ·try dsimp only
          exact ⟨by omega, by omega⟩
         ·try dsimp only
          omega
        ·refine wp_seq' fun K34 hK34 => ?_
         refine wp_reg ?_
         refine ol_r (r_move rfl) rfl ?_
         refine ol_r (r_assign rfl) rfl ?_
         refine ol_nil (to_k0 (fun _ _ h => h) (hK34 _ _ _ _ _ ?_))
         clear hK34
         refine wp_condF rfl ?_
         refine wp_reg ?_
         refine ol_r (r_ld (id := 5) rfl rfl rfl sc61) rfl ?_
         refine ol_r (r_move rfl) rfl ?_
         refine ol_bs1 57 rfl rfl rw61 rfl rfl rfl fun a57 => ?_
         refine ol_append1 (id := 14) (id2 := 57) rfl rfl rfl rfl rfl rw61 (by omega) rfl fun a58 c58 => ?_
         refine ol_store (id := 5) rfl rfl rfl rfl sz61 rfl rfl (by first | decide | exact Nat.zero_lt_succ _ | simp) ?_
         refine ol_nil (to_k0 (fun _ _ h => h) (hK28 _ _ _ _ _ ?_))
         clear hK28
         refine wp_reg ?_
         refine ol_r (r_add rfl rfl (by omega)) rfl ?_
         refine ol_r (r_move rfl) rfl ?_
         refine ol_nil (to_k0 (fun _ _ h => h) (hK25 ((j + 1, _, _, _)) _ _ ?_ ?_ (sub_cons rfl sub_nil) (sub_cons rfl (sub_cons rfl (sub_cons rfl (sub_cons rfl (sub_cons rfl (sub_cons rfl sub_nil)))))) (by exact (subH_blk rfl (sub_cons rfl sub_nil) (subH_row rfl (by first | (dsimp only; first | (rw [stepV_snoc (by omega) (elV_big (by omega) (by omega)), ← List.append_assoc, encI_snoc]; done) | (rw [stepV_snoc (by omega) (elV_gap (by omega) (by omega)), ← List.append_assoc, encI_snoc]; done) | (rw [stepV_snoc (by omega) (elV_len (by omega) (by omega)), lenV_4 (by omega), ← List.append_assoc, encI_snoc]; done) | (rw [stepV_snoc (by omega) (elV_len (by omega) (by omega)), lenV_5 (by omega), ← List.append_assoc, encI_snoc]; done) | (rw [stepV_snoc (by omega) ((elV_val (by omega) (by omega)).trans (valV_1 (by omega))), ← List.append_assoc, encI_snoc]; done) | (rw [stepV_snoc (by omega) ((elV_val (by omega) (by omega)).trans (valV_2 (by omega))), ← List.append_assoc, encI_snoc]; done) | (rw [stepV_snoc (by omega) ((elV_val (by omega) (by omega)).trans (valV_3 (by omega))), ← List.append_assoc, encI_snoc]; done); done) | (first | (rw [stepV_snoc (by omega) (elV_big (by omega) (by omega)), ← List.append_assoc, encI_snoc]; done) | (rw [stepV_snoc (by omega) (elV_gap (by omega) (by omega)), ← List.append_assoc, encI_snoc]; done) | (rw [stepV_snoc (by omega) (elV_len (by omega) (by omega)), lenV_4 (by omega), ← List.append_assoc, encI_snoc]; done) | (rw [stepV_snoc (by omega) (elV_len (by omega) (by omega)), lenV_5 (by omega), ← List.append_assoc, encI_snoc]; done) | (rw [stepV_snoc (by omega) ((elV_val (by omega) (by omega)).trans (valV_1 (by omega))), ← List.append_assoc, encI_snoc]; done) | (rw [stepV_snoc (by omega) ((elV_val (by omega) (by omega)).trans (valV_2 (by omega))), ← List.append_assoc, encI_snoc]; done) | (rw [stepV_snoc (by omega) ((elV_val (by omega) (by omega)).trans (valV_3 (by omega))), ← List.append_assoc, encI_snoc]; done); done) | (dsimp only; done)) subH_nil))) (subH_same rfl (subH_same rfl (subH_same rfl (subH_same rfl (subH_same rfl subH_nil)))))))
         ·try dsimp only
          exact ⟨by omega, by omega⟩
         ·try dsimp only
          omega
      ·refine wp_exit' (QP.of (hn ((_, _, _)) _ _ ?_ (by exact (subH_blk rfl (sub_cons rfl sub_nil) (subH_row rfl (by first | (dsimp only; rw [strmL_succ hx, List.take_of_length_le (by rw [stepV_len]; omega)]; done) | (rw [strmL_succ hx, List.take_of_length_le (by rw [stepV_len]; omega)]; done) | (dsimp only; done)) subH_nil))) (subH_same rfl (subH_same rfl (subH_same rfl subH_nil)))) (fun _ _ h => h))
       try dsimp only
       refine ⟨by have := (List.getElem?_eq_some_iff.1 hx).1; omega, ?_⟩
       rw [strmL_succ hx, List.length_append, stepV_len]
       omega
    ·refine wp_seq' fun K35 hK35 => ?_
     refine wp_reg ?_
     refine ol_r (r_eql rfl rfl) rfl ?_
     refine ol_r (r_assign rfl) rfl ?_
     refine ol_nil (to_k0 (fun _ _ h => h) (hK35 _ _ _ _ _ ?_))
     clear hK35
     first | refine wp_condD rfl (fun hc39 => ?_) (fun hc39 => ?_) | refine wp_condN rfl (fun hc39 => ?_) (fun hc39 => ?_) | refine wp_condNB rfl (fun hc39 => ?_) (fun hc39 => ?_) | refine wp_cond' rfl (fun hc39 => ?_) (fun hc39 => ?_)
     ·refine wp_reg ?_
      refine ol_r (r_fa (o' := 6) rfl fl70_6 rfl) rfl ?_
      refine ol_r (r_ld (id := 6) rfl rfl rfl sc3) rfl ?_
      refine ol_r (r_assign rfl) rfl ?_
      refine ol_nil (to_k0 (fun _ _ h => h) (hK9 _ _ _ _ _ ?_))
      clear hK9
      refine wp_seq' fun K36 hK36 => ?_
      refine wp_reg ?_
      refine ol_r (r_move rfl) rfl ?_
      refine ol_r (r_move rfl) rfl ?_
      refine ol_nil (to_k0 (fun _ _ h => h) (hK36 _ _ _ _ _ ?_))
      clear hK36
      refine wp_block' ?_
      apply wp_loopM (σ := Nat × Option Addr × Nat × Nat) (fun s => (s.1 : Int) ≤ x.2.at_ - x.1.at_ ∧ s.2.2.1 = on + s.1) (fun s => [(52, .int .i64 s.1)]) [(4, _), (5, _), (8, _), (9, _), (10, _), (51, _)] (fun s => [(5, .blk b5 [(0, .slice s.2.1 s.2.2.1 s.2.2.2)] 61), (14, .row s.2.1 s.2.2.1 s.2.2.2 (encI.enc (strmL kind A.ss k ++ (stepV kind x.1 x.2).take s.1)) 3 1)]) [(2, _), (3, _), (6, _), (7, _), (1001, _)] (fun s => (x.2.at_ - x.1.at_).toNat - s.1) ((0, _, _, _))
      ·try dsimp only
       exact ⟨by omega, rfl⟩
      ·exact (sub_cons rfl sub_nil)
      ·exact (sub_cons rfl (sub_cons rfl (sub_cons rfl (sub_cons rfl (sub_cons rfl (sub_cons rfl sub_nil))))))
      ·exact (subH_blk rfl (sub_cons rfl sub_nil) (subH_row rfl (by first | (dsimp only; rw [List.take_zero, List.append_nil]; done) | (rw [List.take_zero, List.append_nil]; done) | (dsimp only; done)) subH_nil))
      ·exact (subH_same rfl (subH_same rfl (subH_same rfl (subH_same rfl (subH_same rfl subH_nil)))))
      ·rintro ⟨j, ja, jn, jc⟩ ⟨hj, hjn⟩
       dsimp only at hj hjn ⊢
       intro K37 hK37
       refine wp_seq' fun K38 hK38 => ?_
       refine wp_reg ?_
       refine ol_r (r_lss rfl rfl) rfl ?_
       refine ol_nil (to_k0 (fun _ _ h => h) (hK38 _ _ _ _ _ ?_))
       clear hK38
       refine wp_seq' fun K39 hK39 => ?_
       first | refine wp_condD rfl (fun hc53 => ?_) (fun hc53 => ?_) | refine wp_condN rfl (fun hc53 => ?_) (fun hc53 => ?_) | refine wp_condNB rfl (fun hc53 => ?_) (fun hc53 => ?_) | refine wp_cond' rfl (fun hc53 => ?_) (fun hc53 => ?_)
       ·refine wp_skip' (to_k0 (fun _ _ h => h) (hK39 _ _ _ _ _ ?_))
        clear hK39
        refine wp_seq' fun K40 hK40 => ?_
        refine wp_block' ?_
        refine wp_seq' fun K41 hK41 => ?_
        refine wp_reg ?_
        refine ol_r (r_move rfl) rfl ?_
        refine ol_r (r_assign rfl) rfl ?_
        refine ol_nil (to_k0 (fun _ _ h => h) (hK41 _ _ _ _ _ ?_))
        clear hK41
        refine wp_block' ?_
        refine wp_seq' fun K42 hK42 => ?_
        refine wp_reg ?_
        refine ol_r (r_move rfl) rfl ?_
        refine ol_r (r_gtr rfl rfl) rfl ?_
        refine ol_r (r_move rfl) rfl ?_
        refine ol_split (d := 62) rfl (fun hs62 => ?_) (fun hs62 => ?_)
        ·have phs62 := hs62; try simp only [decide_eq_true_eq, decide_eq_false_iff_not, Bool.not_eq_true', Bool.not_eq_false', Bool.not_true, Bool.not_false] at phs62
         refine ol_g rfl rfl hs62 ?_
         refine ol_r (r_move rfl) rfl ?_
         refine ol_r (r_pickT rfl hs62 rfl) rfl ?_
         refine ol_r (r_assign rfl) rfl ?_
         refine ol_nil (to_k0 (fun _ _ h => h) (hK42 _ _ _ _ _ ?_))
         clear hK42
         refine wp_condF rfl ?_
         refine wp_seq' fun K43 hK43 => ?_
         refine wp_reg ?_
         refine ol_r (r_move rfl) rfl ?_
         refine ol_r (r_gtr rfl rfl) rfl ?_
         refine ol_r (r_assign rfl) rfl ?_
         refine ol_nil (to_k0 (fun _ _ h => h) (hK43 _ _ _ _ _ ?_))
         clear hK43
         first | refine wp_condD rfl (fun hc68 => ?_) (fun hc68 => ?_) | refine wp_condN rfl (fun hc68 => ?_) (fun hc68 => ?_) | refine wp_condNB rfl (fun hc68 => ?_) (fun hc68 => ?_) | refine wp_cond' rfl (fun hc68 => ?_) (fun hc68 => ?_)
         ·refine wp_reg ?_
          refine ol_r (r_ld (id := 5) rfl rfl rfl sc61) rfl ?_
          refine ol_bs1 72 rfl rfl rw61 rfl rfl rfl fun a72 => ?_
          refine ol_append1 (id := 14) (id2 := 72) rfl rfl rfl rfl rfl rw61 (by omega) rfl fun a73 c73 => ?_
          refine ol_store (id := 5) rfl rfl rfl rfl sz61 rfl rfl (by first | decide | exact Nat.zero_lt_succ _ | simp) ?_
          refine ol_nil (to_k0 (fun _ _ h => h) (hK40 _ _ _ _ _ ?_))
          clear hK40
          refine wp_reg ?_
          refine ol_r (r_add rfl rfl (by omega)) rfl ?_
          refine ol_r (r_move rfl) rfl ?_
          refine ol_nil (to_k0 (fun _ _ h => h) (hK37 ((j + 1, _, _, _)) _ _ ?_ ?_ (sub_cons rfl sub_nil) (sub_cons rfl (sub_cons rfl (sub_cons rfl (sub_cons rfl (sub_cons rfl (sub_cons rfl sub_nil)))))) (by exact (subH_blk rfl (sub_cons rfl sub_nil) (subH_row rfl (by first | (dsimp only; first | (rw [stepV_snoc (by omega) (elV_big (by omega) (by omega)), ← List.append_assoc, encI_snoc]; done) | (rw [stepV_snoc (by omega) (elV_gap (by omega) (by omega)), ← List.append_assoc, encI_snoc]; done) | (rw [stepV_snoc (by omega) (elV_len (by omega) (by omega)), lenV_4 (by omega), ← List.append_assoc, encI_snoc]; done) | (rw [stepV_snoc (by omega) (elV_len (by omega) (by omega)), lenV_5 (by omega), ← List.append_assoc, encI_snoc]; done) | (rw [stepV_snoc (by omega) ((elV_val (by omega) (by omega)).trans (valV_1 (by omega))), ← List.append_assoc, encI_snoc]; done) | (rw [stepV_snoc (by omega) ((elV_val (by omega) (by omega)).trans (valV_2 (by omega))), ← List.append_assoc, encI_snoc]; done) | (rw [stepV_snoc (by omega) ((elV_val (by omega) (by omega)).trans (valV_3 (by omega))), ← List.append_assoc, encI_snoc]; done); done) | (first | (rw [stepV_snoc (by omega) (elV_big (by omega) (by omega)), ← List.append_assoc, encI_snoc]; done) | (rw [stepV_snoc (by omega) (elV_gap (by omega) (by omega)), ← List.append_assoc, encI_snoc]; done) | (rw [stepV_snoc (by omega) (elV_len (by omega) (by omega)), lenV_4 (by omega), ← List.append_assoc, encI_snoc]; done) | (rw [stepV_snoc (by omega) (elV_len (by omega) (by omega)), lenV_5 (by omega), ← List.append_assoc, encI_snoc]; done) | (rw [stepV_snoc (by omega) ((elV_val (by omega) (by omega)).trans (valV_1 (by omega))), ← List.append_assoc, encI_snoc]; done) | (rw [stepV_snoc (by omega) ((elV_val (by omega) (by omega)).trans (valV_2 (by omega))), ← List.append_assoc, encI_snoc]; done) | (rw [stepV_snoc (by omega) ((elV_val (by omega) (by omega)).trans (valV_3 (by omega))), ← List.append_assoc, encI_snoc]; done); done) | (dsimp only; done)) subH_nil))) (subH_same rfl (subH_same rfl (subH_same rfl (subH_same rfl (subH_same rfl subH_nil)))))))
          ·try dsimp only
           exact ⟨by omega, by omega⟩
          ·try dsimp only
           omega
         ·refine wp_seq' fun K44 hK44 => ?_
          refine wp_reg ?_
          refine ol_r (r_move rfl) rfl ?_
          refine ol_r (r_assign rfl) rfl ?_
          refine ol_nil (to_k0 (fun _ _ h => h) (hK44 _ _ _ _ _ ?_))
          clear hK44
          refine wp_condF rfl ?_
          refine wp_reg ?_
          refine ol_r (r_ld (id := 5) rfl rfl rfl sc61) rfl ?_
          refine ol_r (r_move rfl) rfl ?_
          refine ol_bs1 57 rfl rfl rw61 rfl rfl rfl fun a57 => ?_
          refine ol_append1 (id := 14) (id2 := 57) rfl rfl rfl rfl rfl rw61 (by omega) rfl fun a58 c58 => ?_
          refine ol_store (id := 5) rfl rfl rfl rfl sz61 rfl rfl (by first | decide | exact Nat.zero_lt_succ _ | simp) ?_
          refine ol_nil (to_k0 (fun _ _ h => h) (hK40 _ _ _ _ _ ?_))
          clear hK40
          refine wp_reg ?_
          refine ol_r (r_add rfl rfl (by omega)) rfl ?_
          refine ol_r (r_move rfl) rfl ?_
          refine ol_nil (to_k0 (fun _ _ h => h) (hK37 ((j + 1, _, _, _)) _ _ ?_ ?_ (sub_cons rfl sub_nil) (sub_cons rfl (sub_cons rfl (sub_cons rfl (sub_cons rfl (sub_cons rfl (sub_cons rfl sub_nil)))))) (by exact (subH_blk rfl (sub_cons rfl sub_nil) (subH_row rfl (by first | (dsimp only; first | (rw [stepV_snoc (by omega) (elV_big (by omega) (by omega)), ← List.append_assoc, encI_snoc]; done) | (rw [stepV_snoc (by omega) (elV_gap (by omega) (by omega)), ← List.append_assoc, encI_snoc]; done) | (rw [stepV_snoc (by omega) (elV_len (by omega) (by omega)), lenV_4 (by omega), ← List.append_assoc, encI_snoc]; done) | (rw [stepV_snoc (by omega) (elV_len (by omega) (by omega)), lenV_5 (by omega), ← List.append_assoc, encI_snoc]; done) | (rw [stepV_snoc (by omega) ((elV_val (by omega) (by omega)).trans (valV_1 (by omega))), ← List.append_assoc, encI_snoc]; done) | (rw [stepV_snoc (by omega) ((elV_val (by omega) (by omega)).trans (valV_2 (by omega))), ← List.append_assoc, encI_snoc]; done) | (rw [stepV_snoc (by omega) ((elV_val (by omega) (by omega)).trans (valV_3 (by omega))), ← List.append_assoc, encI_snoc]; done); done) | (first | (rw [stepV_snoc (by omega) (elV_big (by omega) (by omega)), ← List.append_assoc, encI_snoc]; done) | (rw [stepV_snoc (by omega) (elV_gap (by omega) (by omega)), ← List.append_assoc, encI_snoc]; done) | (rw [stepV_snoc (by omega) (elV_len (by omega) (by omega)), lenV_4 (by omega), ← List.append_assoc, encI_snoc]; done) | (rw [stepV_snoc (by omega) (elV_len (by omega) (by omega)), lenV_5 (by omega), ← List.append_assoc, encI_snoc]; done) | (rw [stepV_snoc (by omega) ((elV_val (by omega) (by omega)).trans (valV_1 (by omega))), ← List.append_assoc, encI_snoc]; done) | (rw [stepV_snoc (by omega) ((elV_val (by omega) (by omega)).trans (valV_2 (by omega))), ← List.append_assoc, encI_snoc]; done) | (rw [stepV_snoc (by omega) ((elV_val (by omega) (by omega)).trans (valV_3 (by omega))), ← List.append_assoc, encI_snoc]; done); done) | (dsimp only; done)) subH_nil))) (subH_same rfl (subH_same rfl (subH_same rfl (subH_same rfl (subH_same rfl subH_nil)))))))
          ·try dsimp only
           exact ⟨by omega, by omega⟩
          ·try dsimp only
           omega
        ·have phs62 := hs62; try simp only [decide_eq_true_eq, decide_eq_false_iff_not, Bool.not_eq_true', Bool.not_eq_false', Bool.not_true, Bool.not_false] at phs62
         refine ol_s rfl rfl hs62 rfl ?_
         refine ol_r (r_pickF rfl hs62 rfl) rfl ?_
         refine ol_r (r_assign rfl) rfl ?_
         refine ol_nil (to_k0 (fun _ _ h => h) (hK42 _ _ _ _ _ ?_))
         clear hK42
         refine wp_condF rfl ?_
         refine wp_seq' fun K45 hK45 => ?_
         refine wp_reg ?_
         refine ol_r (r_move rfl) rfl ?_
         refine ol_r (r_gtr rfl rfl) rfl ?_
         refine ol_r (r_assign rfl) rfl ?_
         refine ol_nil (to_k0 (fun _ _ h => h) (hK45 _ _ _ _ _ ?_))
         clear hK45
         first | refine wp_condD rfl (fun hc68 => ?_) (fun hc68 => ?_) | refine wp_condN rfl (fun hc68 => ?_) (fun hc68 => ?_) | refine wp_condNB rfl (fun hc68 => ?_) (fun hc68 => ?_) | refine wp_cond' rfl (fun hc68 => ?_) (fun hc68 => ?_)
         ·refine wp_reg ?_
          refine ol_r (r_ld (id := 5) rfl rfl rfl sc61) rfl ?_
          refine ol_bs1 72 rfl rfl rw61 rfl rfl rfl fun a72 => ?_
          refine ol_append1 (id := 14) (id2 := 72) rfl rfl rfl rfl rfl rw61 (by omega) rfl fun a73 c73 => ?_
          refine ol_store (id := 5) rfl rfl rfl rfl sz61 rfl rfl (by first | decide | exact Nat.zero_lt_succ _ | simp) ?_
          refine ol_nil (to_k0 (fun _ _ h => h) (hK40 _ _ _ _ _ ?_))
          clear hK40
          refine wp_reg ?_
          refine ol_r (r_add rfl rfl (by omega)) rfl ?_
          refine ol_r (r_move rfl) rfl ?_
          refine ol_nil (to_k0 (fun _ _ h => h) (hK37 ((j + 1, _, _, _)) _ _ ?_ ?_ (sub_cons rfl sub_nil) (sub_cons rfl (sub_cons rfl (sub_cons rfl (sub_cons rfl (sub_cons rfl (sub_cons rfl sub_nil)))))) (by exact (subH_blk rfl (sub_cons rfl sub_nil) (subH_row rfl (by first | (dsimp only; first | (rw [stepV_snoc (by omega) (elV_big (by omega) (by omega)), ← List.append_assoc, encI_snoc]; done) | (rw [stepV_snoc (by omega) (elV_gap (by omega) (by omega)), ← List.append_assoc, encI_snoc]; done) | (rw [stepV_snoc (by omega) (elV_len (by omega) (by omega)), lenV_4 (by omega), ← List.append_assoc, encI_snoc]; done) | (rw [stepV_snoc (by omega) (elV_len (by omega) (by omega)), lenV_5 (by omega), ← List.append_assoc, encI_snoc]; done) | (rw [stepV_snoc (by omega) ((elV_val (by omega) (by omega)).trans (valV_1 (by omega))), ← List.append_assoc, encI_snoc]; done) | (rw [stepV_snoc (by omega) ((elV_val (by omega) (by omega)).trans (valV_2 (by omega))), ← List.append_assoc, encI_snoc]; done) | (rw [stepV_snoc (by omega) ((elV_val (by omega) (by omega)).trans (valV_3 (by omega))), ← List.append_assoc, encI_snoc]; done); done) | (first | (rw [stepV_snoc (by omega) (elV_big (by omega) (by omega)), ← List.append_assoc, encI_snoc]; done) | (rw [stepV_snoc (by omega) (elV_gap (by omega) (by omega)), ← List.append_assoc, encI_snoc]; done) | (rw [stepV_snoc (by omega) (elV_len (by omega) (by omega)), lenV_4 (by omega), ← List.append_assoc, encI_snoc]; done) | (rw [stepV_snoc (by omega) (elV_len (by omega) (by omega)), lenV_5 (by omega), ← List.append_assoc, encI_snoc]; done) | (rw [stepV_snoc (by omega) ((elV_val (by omega) (by omega)).trans (valV_1 (by omega))), ← List.append_assoc, encI_snoc]; done) | (rw [stepV_snoc (by omega) ((elV_val (by omega) (by omega)).trans (valV_2 (by omega))), ← List.append_assoc, encI_snoc]; done) | (rw [stepV_snoc (by omega) ((elV_val (by omega) (by omega)).trans (valV_3 (by omega))), ← List.append_assoc, encI_snoc]; done); done) | (dsimp only; done)) subH_nil))) (subH_same rfl (subH_same rfl (subH_same rfl (subH_same rfl (subH_same rfl subH_nil)))))))
          ·try dsimp only
           exact ⟨by omega, by omega⟩
          ·try dsimp only
           omega
         ·refine wp_seq' fun K46 hK46 => ?_
          refine wp_reg ?_
          refine ol_r (r_move rfl) rfl ?_
          refine ol_r (r_assign rfl) rfl ?_
          refine ol_nil (to_k0 (fun _ _ h => h) (hK46 _ _ _ _ _ ?_))
          clear hK46
          refine wp_condF rfl ?_
          refine wp_reg ?_
          refine ol_r (r_ld (id := 5) rfl rfl rfl sc61) rfl ?_
          refine ol_r (r_move rfl) rfl ?_
          refine ol_bs1 57 rfl rfl rw61 rfl rfl rfl fun a57 => ?_
          refine ol_append1 (id := 14) (id2 := 57) rfl rfl rfl rfl rfl rw61 (by omega) rfl fun a58 c58 => ?_
          refine ol_store (id := 5) rfl rfl rfl rfl sz61 rfl rfl (by first | decide | exact Nat.zero_lt_succ _ | simp) ?_
          refine ol_nil (to_k0 (fun _ _ h => h) (hK40 _ _ _ _ _ ?_))
          clear hK40
          refine wp_reg ?_
          refine ol_r (r_add rfl rfl (by omega)) rfl ?_
          refine ol_r (r_move rfl) rfl ?_
          refine ol_nil (to_k0 (fun _ _ h => h) (hK37 ((j + 1, _, _, _)) _ _ ?_ ?_ (sub_cons rfl sub_nil) (sub_cons rfl (sub_cons rfl (sub_cons rfl (sub_cons rfl (sub_cons rfl (sub_cons rfl sub_nil)))))) (by exact (subH_blk rfl (sub_cons rfl sub_nil) (subH_row rfl (by first | (dsimp only; first | (rw [stepV_snoc (by omega) (elV_big (by omega) (by omega)), ← List.append_assoc, encI_snoc]; done) | (rw [stepV_snoc (by omega) (elV_gap (by omega) (by omega)), ← List.append_assoc, encI_snoc]; done) | (rw [stepV_snoc (by omega) (elV_len (by omega) (by omega)), lenV_4 (by omega), ← List.append_assoc, encI_snoc]; done) | (rw [stepV_snoc (by omega) (elV_len (by omega) (by omega)), lenV_5 (by omega), ← List.append_assoc, encI_snoc]; done) | (rw [stepV_snoc (by omega) ((elV_val (by omega) (by omega)).trans (valV_1 (by omega))), ← List.append_assoc, encI_snoc]; done) | (rw [stepV_snoc (by omega) ((elV_val (by omega) (by omega)).trans (valV_2 (by omega))), ← List.append_assoc, encI_snoc]; done) | (rw [stepV_snoc (by omega) ((elV_val (by omega) (by omega)).trans (valV_3 (by omega))), ← List.append_assoc, encI_snoc]; done); done) | (first | (rw [stepV_snoc (by omega) (elV_big (by omega) (by omega)), ← List.append_assoc, encI_snoc]; done) | (rw [stepV_snoc (by omega) (elV_gap (by omega) (by omega)), ← List.append_assoc, encI_snoc]; done) | (rw [stepV_snoc (by omega) (elV_len (by omega) (by omega)), lenV_4 (by omega), ← List.append_assoc, encI_snoc]; done) | (rw [stepV_snoc (by omega) (elV_len (by omega) (by omega)), lenV_5 (by omega), ← List.append_assoc, encI_snoc]; done) | (rw [stepV_snoc (by omega) ((elV_val (by omega) (by omega)).trans (valV_1 (by omega))), ← List.append_assoc, encI_snoc]; done) | (rw [stepV_snoc (by omega) ((elV_val (by omega) (by omega)).trans (valV_2 (by omega))), ← List.append_assoc, encI_snoc]; done) | (rw [stepV_snoc (by omega) ((elV_val (by omega) (by omega)).trans (valV_3 (by omega))), ← List.append_assoc, encI_snoc]; done); done) | (dsimp only; done)) subH_nil))) (subH_same rfl (subH_same rfl (subH_same rfl (subH_same rfl (subH_same rfl subH_nil)))))))
          ·try dsimp only
           exact ⟨by omega, by omega⟩
          ·try dsimp only
           omega
       ·refine wp_exit' (QP.of (hn ((_, _, _)) _ _ ?_ (by exact (subH_blk rfl (sub_cons rfl sub_nil) (subH_row rfl (by first | (dsimp only; rw [strmL_succ hx, List.take_of_length_le (by rw [stepV_len]; omega)]; done) | (rw [strmL_succ hx, List.take_of_length_le (by rw [stepV_len]; omega)]; done) | (dsimp only; done)) subH_nil))) (subH_same rfl (subH_same rfl (subH_same rfl subH_nil)))) (fun _ _ h => h))
        try dsimp only
        refine ⟨by have := (List.getElem?_eq_some_iff.1 hx).1; omega, ?_⟩
        rw [strmL_succ hx, List.length_append, stepV_len]
        omega
     ·refine wp_seq' fun K47 hK47 => ?_
      refine wp_reg ?_
      refine ol_r (r_eql rfl rfl) rfl ?_
      refine ol_r (r_assign rfl) rfl ?_
      refine ol_nil (to_k0 (fun _ _ h => h) (hK47 _ _ _ _ _ ?_))
      clear hK47
      first | refine wp_condD rfl (fun hc43 => ?_) (fun hc43 => ?_) | refine wp_condN rfl (fun hc43 => ?_) (fun hc43 => ?_) | refine wp_condNB rfl (fun hc43 => ?_) (fun hc43 => ?_) | refine wp_cond' rfl (fun hc43 => ?_) (fun hc43 => ?_)
      ·refine wp_seq' fun K48 hK48 => ?_
       refine wp_reg ?_
       refine ol_r (r_lda (id := 6) (n := 7) rfl rfl rfl ag70) rfl ?_
       refine ol_r (r_lda (id := 7) (n := 7) rfl rfl rfl ag70) rfl ?_
       refine ol_call rfl rfl cb108 rfl (fun w1 hb1 hs1 hB1 => Calls.mono (track_Step2 x.1 x.2 _ hp hq) ?_)
       rintro e w2 ⟨rfl, hb2⟩
       refine After.below rfl hb1 hs1 hB1 hb2 ?_
       clear hb2 hB1 hs1 hb1 w2 w1
       refine ol_r (r_move rfl) rfl ?_
       refine ol_r (r_extract rfl rfl) rfl ?_
       refine ol_r (r_extract rfl rfl) rfl ?_
       refine ol_r (r_assign rfl) rfl ?_
       refine ol_nil (to_k0 (fun _ _ h => h) (hK48 _ _ _ _ _ ?_))
       clear hK48
       refine wp_reg ?_
       refine ol_r (r_assign rfl) rfl ?_
       refine ol_nil (to_k0 (fun _ _ h => h) (hK9 _ _ _ _ _ ?_))
       clear hK9
       refine wp_seq' fun K49 hK49 => ?_
       refine wp_reg ?_
       refine ol_r (r_move rfl) rfl ?_
       refine ol_r (r_move rfl) rfl ?_
       refine ol_nil (to_k0 (fun _ _ h => h) (hK49 _ _ _ _ _ ?_))
       clear hK49
       refine wp_block' ?_
       apply wp_loopM (σ := Nat × Option Addr × Nat × Nat) (fun s => (s.1 : Int) ≤ x.2.at_ - x.1.at_ ∧ s.2.2.1 = on + s.1) (fun s => [(52, .int .i64 s.1)]) [(4, _), (5, _), (8, _), (9, _), (10, _), (51, _)] (fun s => [(5, .blk b5 [(0, .slice s.2.1 s.2.2.1 s.2.2.2)] 61), (14, .row s.2.1 s.2.2.1 s.2.2.2 (encI.enc (strmL kind A.ss k ++ (stepV kind x.1 x.2).take s.1)) 3 1)]) [(2, _), (3, _), (6, _), (7, _), (1001, _)] (fun s => (x.2.at_ - x.1.at_).toNat - s.1) ((0, _, _, _))
       ·try dsimp only
        exact ⟨by omega, rfl⟩
       ·exact (sub_cons rfl sub_nil)
       ·exact (sub_cons rfl (sub_cons rfl (sub_cons rfl (sub_cons rfl (sub_cons rfl (sub_cons rfl sub_nil))))))
       ·exact (subH_blk rfl (sub_cons rfl sub_nil) (subH_row rfl (by first | (dsimp only; rw [List.take_zero, List.append_nil]; done) | (rw [List.take_zero, List.append_nil]; done) | (dsimp only; done)) subH_nil))
       ·exact (subH_same rfl (subH_same rfl (subH_same rfl (subH_same rfl (subH_same rfl subH_nil)))))
       ·rintro ⟨j, ja, jn, jc⟩ ⟨hj, hjn⟩
        dsimp only at hj hjn ⊢
        intro K50 hK50
        refine wp_seq' fun K51 hK51 => ?_
        refine wp_reg ?_
        refine ol_r (r_lss rfl rfl) rfl ?_
        refine ol_nil (to_k0 (fun _ _ h => h) (hK51 _ _ _ _ _ ?_))
        clear hK51
        refine wp_seq' fun K52 hK52 => ?_
        first | refine wp_condD rfl (fun hc53 => ?_) (fun hc53 => ?_) | refine wp_condN rfl (fun hc53 => ?_) (fun hc53 => ?_) | refine wp_condNB rfl (fun hc53 => ?_) (fun hc53 => ?_) | refine wp_cond' rfl (fun hc53 => ?_) (fun hc53 => ?_)
        ·refine wp_skip' (to_k0 (fun _ _ h => h) (hK52 _ _ _ _ _ ?_))
         clear hK52
         refine wp_seq' fun K53 hK53 => ?_
         refine wp_block' ?_
         refine wp_seq' fun K54 hK54 => ?_
         refine wp_reg ?_
         refine ol_r (r_move rfl) rfl ?_
         refine ol_r (r_assign rfl) rfl ?_
         refine ol_nil (to_k0 (fun _ _ h => h) (hK54 _ _ _ _ _ ?_))
         clear hK54
         refine wp_block' ?_
         refine wp_seq' fun K55 hK55 => ?_
         refine wp_reg ?_
         refine ol_r (r_move rfl) rfl ?_
         refine ol_r (r_gtr rfl rfl) rfl ?_
         refine ol_r (r_move rfl) rfl ?_
         refine ol_split (d := 62) rfl (fun hs62 => ?_) (fun hs62 => ?_)
         ·have phs62 := hs62; try simp only [decide_eq_true_eq, decide_eq_false_iff_not, Bool.not_eq_true', Bool.not_eq_false', Bool.not_true, Bool.not_false] at phs62
          refine ol_g rfl rfl hs62 ?_
          refine ol_r (r_move rfl) rfl ?_
          refine ol_r (r_pickT rfl hs62 rfl) rfl ?_
          refine ol_r (r_assign rfl) rfl ?_
          refine ol_nil (to_k0 (fun _ _ h => h) (hK55 _ _ _ _ _ ?_))
          clear hK55
          refine wp_condT rfl ?_
          refine wp_reg ?_
          refine ol_r (r_ld (id := 5) rfl rfl rfl sc61) rfl ?_
          refine ol_bs1 66 rfl rfl rw61 rfl rfl rfl fun a66 => ?_
          refine ol_append1 (id := 14) (id2 := 66) rfl rfl rfl rfl rfl rw61 (by omega) rfl fun a67 c67 => ?_
          refine ol_store (id := 5) rfl rfl rfl rfl sz61 rfl rfl (by first | decide | exact Nat.zero_lt_succ _ | simp) ?_
          refine ol_nil (to_k0 (fun _ _ h => h) (hK53 _ _ _ _ _ ?_))
          clear hK53
          refine wp_reg ?_
          refine ol_r (r_add rfl rfl (by omega)) rfl ?_
          refine ol_r (r_move rfl) rfl ?_
          refine ol_nil (to_k0 (fun _ _ h => h) (hK50 ((j + 1, _, _, _)) _ _ ?_ ?_ (sub_cons rfl sub_nil) (sub_cons rfl (sub_cons rfl (sub_cons rfl (sub_cons rfl (sub_cons rfl (sub_cons rfl sub_nil)))))) (by exact (subH_blk rfl (sub_cons rfl sub_nil) (subH_row rfl (by first | (dsimp only; first | (rw [stepV_snoc (by omega) (elV_big (by omega) (by omega)), ← List.append_assoc, encI_snoc]; done) | (rw [stepV_snoc (by omega) (elV_gap (by omega) (by omega)), ← List.append_assoc, encI_snoc]; done) | (rw [stepV_snoc (by omega) (elV_len (by omega) (by omega)), lenV_4 (by omega), ← List.append_assoc, encI_snoc]; done) | (rw [stepV_snoc (by omega) (elV_len (by omega) (by omega)), lenV_5 (by omega), ← List.append_assoc, encI_snoc]; done) | (rw [stepV_snoc (by omega) ((elV_val (by omega) (by omega)).trans (valV_1 (by omega))), ← List.append_assoc, encI_snoc]; done) | (rw [stepV_snoc (by omega) ((elV_val (by omega) (by omega)).trans (valV_2 (by omega))), ← List.append_assoc, encI_snoc]; done) | (rw [stepV_snoc (by omega) ((elV_val (by omega) (by omega)).trans (valV_3 (by omega))), ← List.append_assoc, encI_snoc]; done); done) | (first | (rw [stepV_snoc (by omega) (elV_big (by omega) (by omega)), ← List.append_assoc, encI_snoc]; done) | (rw [stepV_snoc (by omega) (elV_gap (by omega) (by omega)), ← List.append_assoc, encI_snoc]; done) | (rw [stepV_snoc (by omega) (elV_len (by omega) (by omega)), lenV_4 (by omega), ← List.append_assoc, encI_snoc]; done) | (rw [stepV_snoc (by omega) (elV_len (by omega) (by omega)), lenV_5 (by omega), ← List.append_assoc, encI_snoc]; done) | (rw [stepV_snoc (by omega) ((elV_val (by omega) (by omega)).trans (valV_1 (by omega))), ← List.append_assoc, encI_snoc]; done) | (rw [stepV_snoc (by omega) ((elV_val (by omega) (by omega)).trans (valV_2 (by omega))), ← List.append_assoc, encI_snoc]; done) | (rw [stepV_snoc (by omega) ((elV_val (by omega) (by omega)).trans (valV_3 (by omega))), ← List.append_assoc, encI_snoc]; done); done) | (dsimp only; done)) subH_nil))) (subH_same rfl (subH_same rfl (subH_same rfl (subH_same rfl (subH_same rfl subH_nil)))))))
          ·try dsimp only
           exact ⟨by omega, by omega⟩
          ·try dsimp only
           omega
         ·have phs62 := hs62; try simp only [decide_eq_true_eq, decide_eq_false_iff_not, Bool.not_eq_true', Bool.not_eq_false', Bool.not_true, Bool.not_false] at phs62
          refine ol_s rfl rfl hs62 rfl ?_
          refine ol_r (r_pickF rfl hs62 rfl) rfl ?_
          refine ol_r (r_assign rfl) rfl ?_
          refine ol_nil (to_k0 (fun _ _ h => h) (hK55 _ _ _ _ _ ?_))
          clear hK55
          refine wp_condF rfl ?_
          refine wp_seq' fun K56 hK56 => ?_
          refine wp_reg ?_
          refine ol_r (r_move rfl) rfl ?_
          refine ol_r (r_gtr rfl rfl) rfl ?_
          refine ol_r (r_assign rfl) rfl ?_
          refine ol_nil (to_k0 (fun _ _ h => h) (hK56 _ _ _ _ _ ?_))
          clear hK56
          first | refine wp_condD rfl (fun hc68 => ?_) (fun hc68 => ?_) | refine wp_condN rfl (fun hc68 => ?_) (fun hc68 => ?_) | refine wp_condNB rfl (fun hc68 => ?_) (fun hc68 => ?_) | refine wp_cond' rfl (fun hc68 => ?_) (fun hc68 => ?_)
          ·refine wp_reg ?_
           refine ol_r (r_ld (id := 5) rfl rfl rfl sc61) rfl ?_
           refine ol_bs1 72 rfl rfl rw61 rfl rfl rfl fun a72 => ?_
           refine ol_append1 (id := 14) (id2 := 72) rfl rfl rfl rfl rfl rw61 (by omega) rfl fun a73 c73 => ?_
           refine ol_store (id := 5) rfl rfl rfl rfl sz61 rfl rfl (by first | decide | exact Nat.zero_lt_succ _ | simp) ?_
           refine ol_nil (to_k0 (fun _ _ h => h) (hK53 _ _ _ _ _ ?_))
           clear hK53
           refine wp_reg ?_
           refine ol_r (r_add rfl rfl (by omega)) rfl ?_
           refine ol_r (r_move rfl) rfl ?_
           refine ol_nil (to_k0 (fun _ _ h => h) (hK50 ((j + 1, _, _, _)) _ _ ?_ ?_ (sub_cons rfl sub_nil) (sub_cons rfl (sub_cons rfl (sub_cons rfl (sub_cons rfl (sub_cons rfl (sub_cons rfl sub_nil)))))) (by exact (subH_blk rfl (sub_cons rfl sub_nil) (subH_row rfl (by first | (dsimp only; first | (rw [stepV_snoc (by omega) (elV_big (by omega) (by omega)), ← List.append_assoc, encI_snoc]; done) | (rw [stepV_snoc (by omega) (elV_gap (by omega) (by omega)), ← List.append_assoc, encI_snoc]; done) | (rw [stepV_snoc (by omega) (elV_len (by omega) (by omega)), lenV_4 (by omega), ← List.append_assoc, encI_snoc]; done) | (rw [stepV_snoc (by omega) (elV_len (by omega) (by omega)), lenV_5 (by omega), ← List.append_assoc, encI_snoc]; done) | (rw [stepV_snoc (by omega) ((elV_val (by omega) (by omega)).trans (valV_1 (by omega))), ← List.append_assoc, encI_snoc]; done) | (rw [stepV_snoc (by omega) ((elV_val (by omega) (by omega)).trans (valV_2 (by omega))), ← List.append_assoc, encI_snoc]; done) | (rw [stepV_snoc (by omega) ((elV_val (by omega) (by omega)).trans (valV_3 (by omega))), ← List.append_assoc, encI_snoc]; done); done) | (first | (rw [stepV_snoc (by omega) (elV_big (by omega) (by omega)), ← List.append_assoc, encI_snoc]; done) | (rw [stepV_snoc (by omega) (elV_gap (by omega) (by omega)), ← List.append_assoc, encI_snoc]; done) | (rw [stepV_snoc (by omega) (elV_len (by omega) (by omega)), lenV_4 (by omega), ← List.append_assoc, encI_snoc]; done) | (rw [stepV_snoc (by omega) (elV_len (by omega) (by omega)), lenV_5 (by omega), ← List.append_assoc, encI_snoc]; done) | (rw [stepV_snoc (by omega) ((elV_val (by omega) (by omega)).trans (valV_1 (by omega))), ← List.append_assoc, encI_snoc]; done) | (rw [stepV_snoc (by omega) ((elV_val (by omega) (by omega)).trans (valV_2 (by omega))), ← List.append_assoc, encI_snoc]; done) | (rw [stepV_snoc (by omega) ((elV_val (by omega) (by omega)).trans (valV_3 (by omega))), ← List.append_assoc, encI_snoc]; done); done) | (dsimp only; done)) subH_nil))) (subH_same rfl (subH_same rfl (subH_same rfl (subH_same rfl (subH_same rfl subH_nil)))))))
           ·try dsimp only
            exact ⟨by omega, by omega⟩
           ·try dsimp only
            omega
          ·refine wp_seq' fun K57 hK57 => ?_
           refine wp_reg ?_
           refine ol_r (r_move rfl) rfl ?_
           refine ol_r (r_assign rfl) rfl ?_
           refine ol_nil (to_k0 (fun _ _ h => h) (hK57 _ _ _ _ _ ?_))
           clear hK57
           refine wp_condT rfl ?_
           refine wp_rega [(999, [(2, _), (3, _), (6, _), (7, _), (1001, _)]), (15, [(5, _)]), (14, [(14, _)])] (by kernel_rfl) ⟨.inr (subH_same rfl (subH_same rfl (subH_same rfl (subH_same rfl (subH_same rfl subH_nil))))), ⟨.inr (subH_same rfl subH_nil), ⟨.inr (subH_same rfl subH_nil), trivial⟩⟩⟩ ?_
           refine aq_r 0 15 rfl (by kernel_rfl) (by kernel_rfl) (by kernel_rfl) (.tail _ (.head _)) (by kernel_rfl) (by kernel_rfl) rfl (r_ld (id := 5) rfl rfl rfl sc61) ?_
           refine aq_r 1 999 rfl (by kernel_rfl) (by kernel_rfl) (by kernel_rfl) (.head _) (by kernel_rfl) (by kernel_rfl) rfl (r_move rfl) ?_
           refine aq_r 2 999 rfl (by kernel_rfl) (by kernel_rfl) (by kernel_rfl) (.head _) (by kernel_rfl) (by kernel_rfl) rfl (r_move rfl) ?_
           have bl := lenD_bd hp hq
           have hn60 : x.2.at_ - x.1.at_ ≤ 60 := by omega
           have m1 := mul_bd (a := lenD x.1 x.2) (b := (j : Int) + 1) (A := 300000000) (B := 60) (by omega) (by omega) (by omega) (by omega)
           have m2 := mul_bd (a := lenD x.1 x.2) (b := (j : Int)) (A := 300000000) (B := 60) (by omega) (by omega) (by omega) (by omega)
           have m3 := mul_bd (a := max (x.2.z - x.1.z) 0) (b := (j : Int) + 1) (A := 300000000) (B := 60) (by omega) (by omega) (by omega) (by omega)
           have m4 := mul_bd (a := max (x.2.z - x.1.z) 0) (b := (j : Int)) (A := 300000000) (B := 60) (by omega) (by omega) (by omega) (by omega)
           have d1 := spread_bd (v := lenD x.1 x.2) (n := x.2.at_ - x.1.at_) (j := j) (by omega) (by omega)
           have d2 := spread_bd (v := max (x.2.z - x.1.z) 0) (n := x.2.at_ - x.1.at_) (j := j) (by omega) (by omega)
           refine aq_r 3 999 rfl (by kernel_rfl) (by kernel_rfl) (by kernel_rfl) (.head _) (by kernel_rfl) (by kernel_rfl) rfl (r_add rfl rfl (by omega)) ?_
           refine aq_r 4 999 rfl (by kernel_rfl) (by kernel_rfl) (by kernel_rfl) (.head _) (by kernel_rfl) (by kernel_rfl) rfl (r_mul rfl rfl (by omega)) ?_
           refine aq_r 5 999 rfl (by kernel_rfl) (by kernel_rfl) (by kernel_rfl) (.head _) (by kernel_rfl) (by kernel_rfl) rfl (r_move rfl) ?_
           first | refine aq_r 6 999 rfl (by kernel_rfl) (by kernel_rfl) (by kernel_rfl) (.head _) (by kernel_rfl) (by kernel_rfl) rfl (r_quo rfl rfl (by omega)) ?_ | refine aq_r 6 999 rfl (by kernel_rfl) (by kernel_rfl) (by kernel_rfl) (.head _) (by kernel_rfl) (by kernel_rfl) rfl (r_tquo rfl rfl (by omega)) ?_
           refine aq_r 7 999 rfl (by kernel_rfl) (by kernel_rfl) (by kernel_rfl) (.head _) (by kernel_rfl) (by kernel_rfl) rfl (r_move rfl) ?_
           refine aq_r 8 999 rfl (by kernel_rfl) (by kernel_rfl) (by kernel_rfl) (.head _) (by kernel_rfl) (by kernel_rfl) rfl (r_move rfl) ?_
           refine aq_r 9 999 rfl (by kernel_rfl) (by kernel_rfl) (by kernel_rfl) (.head _) (by kernel_rfl) (by kernel_rfl) rfl (r_mul rfl rfl (by omega)) ?_
           refine aq_r 10 999 rfl (by kernel_rfl) (by kernel_rfl) (by kernel_rfl) (.head _) (by kernel_rfl) (by kernel_rfl) rfl (r_move rfl) ?_
           first | refine aq_r 11 999 rfl (by kernel_rfl) (by kernel_rfl) (by kernel_rfl) (.head _) (by kernel_rfl) (by kernel_rfl) rfl (r_quo rfl rfl (by omega)) ?_ | refine aq_r 11 999 rfl (by kernel_rfl) (by kernel_rfl) (by kernel_rfl) (.head _) (by kernel_rfl) (by kernel_rfl) rfl (r_tquo rfl rfl (by omega)) ?_
           refine aq_r 12 999 rfl (by kernel_rfl) (by kernel_rfl) (by kernel_rfl) (.head _) (by kernel_rfl) (by kernel_rfl) rfl (r_sub rfl rfl (by omega)) ?_
           refine aq_one (i := 13) (by kernel_rfl) rfl fun K58 hK58 => ?_
           refine ol_bs1 89 rfl rfl rw61 rfl rfl rfl fun a89 => ?_
           refine ol_nil (to_k0 (fun _ _ h => h) (hK58 _ _ ⟨.inr (by repeat' first | exact subH_nil | refine subH_same rfl ?_ | (refine subH_blk rfl (by repeat' first | exact sub_nil | refine sub_cons rfl ?_) ?_)), ⟨.inr (by repeat' first | exact subH_nil | refine subH_same rfl ?_ | (refine subH_blk rfl (by repeat' first | exact sub_nil | refine sub_cons rfl ?_) ?_)), ⟨.inr (by repeat' first | exact subH_nil | refine subH_same rfl ?_ | (refine subH_blk rfl (by repeat' first | exact sub_nil | refine sub_cons rfl ?_) ?_)), trivial⟩⟩⟩ ?_))
           clear hK58
           refine aq_one (i := 14) (by kernel_rfl) rfl fun K59 hK59 => ?_
           refine ol_append1 (id := 14) (id2 := 89) rfl rfl rfl rfl rfl rw61 (by omega) rfl fun a90 c90 => ?_
           refine ol_nil (to_k0 (fun _ _ h => h) (hK59 _ _ ⟨.inr (by repeat' first | exact subH_nil | refine subH_same rfl ?_ | (refine subH_blk rfl (by repeat' first | exact sub_nil | refine sub_cons rfl ?_) ?_)), ⟨.inr (by repeat' first | exact subH_nil | refine subH_same rfl ?_ | (refine subH_blk rfl (by repeat' first | exact sub_nil | refine sub_cons rfl ?_) ?_)), ⟨.inl (by kernel_rfl), trivial⟩⟩⟩ ?_))
           clear hK59
           refine aq_one (i := 15) (by kernel_rfl) rfl fun K60 hK60 => ?_
           refine ol_store (id := 5) rfl rfl rfl rfl sz61 rfl rfl (by first | decide | exact Nat.zero_lt_succ _ | simp) ?_
           refine ol_nil (to_k0 (fun _ _ h => h) (hK60 _ _ ⟨.inr (by repeat' first | exact subH_nil | refine subH_same rfl ?_ | (refine subH_blk rfl (by repeat' first | exact sub_nil | refine sub_cons rfl ?_) ?_)), ⟨.inl (by kernel_rfl), ⟨.inl (by kernel_rfl), trivial⟩⟩⟩ ?_))
           clear hK60
           refine aq_done (by kernel_rfl) ?_
           refine (to_k0 (fun _ _ h => h) (hK53 _ _ _ _ _ ?_))
           clear hK53
           refine wp_reg ?_
           refine ol_r (r_add rfl rfl (by omega)) rfl ?_
           refine ol_r (r_move rfl) rfl ?_
           refine ol_nil (to_k0 (fun _ _ h => h) (hK50 ((j + 1, _, _, _)) _ _ ?_ ?_ (sub_cons rfl sub_nil) (sub_cons rfl (sub_cons rfl (sub_cons rfl (sub_cons rfl (sub_cons rfl (sub_cons rfl sub_nil)))))) (by exact (subH_blk rfl (sub_cons rfl sub_nil) (subH_row rfl (by first | (dsimp only; first | (rw [stepV_snoc (by omega) (elV_big (by omega) (by omega)), ← List.append_assoc, encI_snoc]; done) | (rw [stepV_snoc (by omega) (elV_gap (by omega) (by omega)), ← List.append_assoc, encI_snoc]; done) | (rw [stepV_snoc (by omega) (elV_len (by omega) (by omega)), lenV_4 (by omega), ← List.append_assoc, encI_snoc]; done) | (rw [stepV_snoc (by omega) (elV_len (by omega) (by omega)), lenV_5 (by omega), ← List.append_assoc, encI_snoc]; done) | (rw [stepV_snoc (by omega) ((elV_val (by omega) (by omega)).trans (valV_1 (by omega))), ← List.append_assoc, encI_snoc]; done) | (rw [stepV_snoc (by omega) ((elV_val (by omega) (by omega)).trans (valV_2 (by omega))), ← List.append_assoc, encI_snoc]; done) | (rw [stepV_snoc (by omega) ((elV_val (by omega) (by omega)).trans (valV_3 (by omega))), ← List.append_assoc, encI_snoc]; done); done) | (first | (rw [stepV_snoc (by omega) (elV_big (by omega) (by omega)), ← List.append_assoc, encI_snoc]; done) | (rw [stepV_snoc (by omega) (elV_gap (by omega) (by omega)), ← List.append_assoc, encI_snoc]; done) | (rw [stepV_snoc (by omega) (elV_len (by omega) (by omega)), lenV_4 (by omega), ← List.append_assoc, encI_snoc]; done) | (rw [stepV_snoc (by omega) (elV_len (by omega) (by omega)), lenV_5 (by omega), ← List.append_assoc, encI_snoc]; done) | (rw [stepV_snoc (by omega) ((elV_val (by omega) (by omega)).trans (valV_1 (by omega))), ← List.append_assoc, encI_snoc]; done) | (rw [stepV_snoc (by omega) ((elV_val (by omega) (by omega)).trans (valV_2 (by omega))), ← List.append_assoc, encI_snoc]; done) | (rw [stepV_snoc (by omega) ((elV_val (by omega) (by omega)).trans (valV_3 (by omega))), ← List.append_assoc, encI_snoc]; done); done) | (dsimp only; done)) subH_nil))) (subH_same rfl (subH_same rfl (subH_same rfl (subH_same rfl (subH_same rfl subH_nil)))))))
           ·try dsimp only
            exact ⟨by omega, by omega⟩
           ·try dsimp only
            omega
        ·refine wp_exit' (QP.of (hn ((_, _, _)) _ _ ?_ (by exact (subH_blk rfl (sub_cons rfl sub_nil) (subH_row rfl (by first | (dsimp only; rw [strmL_succ hx, List.take_of_length_le (by rw [stepV_len]; omega)]; done) | (rw [strmL_succ hx, List.take_of_length_le (by rw [stepV_len]; omega)]; done) | (dsimp only; done)) subH_nil))) (subH_same rfl (subH_same rfl (subH_same rfl subH_nil)))) (fun _ _ h => h))
         try dsimp only
         refine ⟨by have := (List.getElem?_eq_some_iff.1 hx).1; omega, ?_⟩
         rw [strmL_succ hx, List.length_append, stepV_len]
         omega
      ·refine wp_reg ?_
       refine ol_r (r_fa (o' := 3) rfl fl70_3 rfl) rfl ?_
       refine ol_r (r_ld (id := 7) rfl rfl rfl sc3) rfl ?_
       refine ol_r (r_fa (o' := 3) rfl fl70_3 rfl) rfl ?_
       refine ol_r (r_ld (id := 6) rfl rfl rfl sc3) rfl ?_
       refine ol_r (r_sub rfl rfl (by omega)) rfl ?_
       refine ol_r (r_max rfl rfl) rfl ?_
       refine ol_r (r_assign rfl) rfl ?_
       refine ol_r (r_assign rfl) rfl ?_
       refine ol_nil (to_k0 (fun _ _ h => h) (hK9 _ _ _ _ _ ?_))
       clear hK9
       refine wp_seq' fun K61 hK61 => ?_
       refine wp_reg ?_
       refine ol_r (r_move rfl) rfl ?_
       refine ol_r (r_move rfl) rfl ?_
       refine ol_nil (to_k0 (fun _ _ h => h) (hK61 _ _ _ _ _ ?_))
       clear hK61
       refine wp_block' ?_
       apply wp_loopM (σ := Nat × Option Addr × Nat × Nat) (fun s => (s.1 : Int) ≤ x.2.at_ - x.1.at_ ∧ s.2.2.1 = on + s.1) (fun s => [(52, .int .i64 s.1)]) [(4, _), (5, _), (8, _), (9, _), (10, _), (51, _)] (fun s => [(5, .blk b5 [(0, .slice s.2.1 s.2.2.1 s.2.2.2)] 61), (14, .row s.2.1 s.2.2.1 s.2.2.2 (encI.enc (strmL kind A.ss k ++ (stepV kind x.1 x.2).take s.1)) 3 1)]) [(2, _), (3, _), (6, _), (7, _), (1001, _)] (fun s => (x.2.at_ - x.1.at_).toNat - s.1) ((0, _, _, _))
       ·try dsimp only
        exact ⟨by omega, rfl⟩
       ·exact (sub_cons rfl sub_nil)
       ·exact (sub_cons rfl (sub_cons rfl (sub_cons rfl (sub_cons rfl (sub_cons rfl (sub_cons rfl sub_nil))))))
       ·exact (subH_blk rfl (sub_cons rfl sub_nil) (subH_row rfl (by first | (dsimp only; rw [List.take_zero, List.append_nil]; done) | (rw [List.take_zero, List.append_nil]; done) | (dsimp only; done)) subH_nil))
       ·exact (subH_same rfl (subH_same rfl (subH_same rfl (subH_same rfl (subH_same rfl subH_nil)))))
       ·rintro ⟨j, ja, jn, jc⟩ ⟨hj, hjn⟩
        dsimp only at hj hjn ⊢
        intro K62 hK62
        refine wp_seq' fun K63 hK63 => ?_
        refine wp_reg ?_
        refine ol_r (r_lss rfl rfl) rfl ?_
        refine ol_nil (to_k0 (fun _ _ h => h) (hK63 _ _ _ _ _ ?_))
        clear hK63
        refine wp_seq' fun K64 hK64 => ?_
        first | refine wp_condD rfl (fun hc53 => ?_) (fun hc53 => ?_) | refine wp_condN rfl (fun hc53 => ?_) (fun hc53 => ?_) | refine wp_condNB rfl (fun hc53 => ?_) (fun hc53 => ?_) | refine wp_cond' rfl (fun hc53 => ?_) (fun hc53 => ?_)
        ·refine wp_skip' (to_k0 (fun _ _ h => h) (hK64 _ _ _ _ _ ?_))
         clear hK64
         refine wp_seq' fun K65 hK65 => ?_
         refine wp_block' ?_
         refine wp_seq' fun K66 hK66 => ?_
         refine wp_reg ?_
         refine ol_r (r_move rfl) rfl ?_
         refine ol_r (r_assign rfl) rfl ?_
         refine ol_nil (to_k0 (fun _ _ h => h) (hK66 _ _ _ _ _ ?_))
         clear hK66
         refine wp_block' ?_
         refine wp_seq' fun K67 hK67 => ?_
         refine wp_reg ?_
         refine ol_r (r_move rfl) rfl ?_
         refine ol_r (r_gtr rfl rfl) rfl ?_
         refine ol_r (r_move rfl) rfl ?_
         refine ol_split (d := 62) rfl (fun hs62 => ?_) (fun hs62 => ?_)
         ·have phs62 := hs62; try simp only [decide_eq_true_eq, decide_eq_false_iff_not, Bool.not_eq_true', Bool.not_eq_false', Bool.not_true, Bool.not_false] at phs62
          refine ol_g rfl rfl hs62 ?_
          refine ol_r (r_move rfl) rfl ?_
          refine ol_r (r_pickT rfl hs62 rfl) rfl ?_
          refine ol_r (r_assign rfl) rfl ?_
          refine ol_nil (to_k0 (fun _ _ h => h) (hK67 _ _ _ _ _ ?_))
          clear hK67
          refine wp_condT rfl ?_
          refine wp_reg ?_
          refine ol_r (r_ld (id := 5) rfl rfl rfl sc61) rfl ?_
          refine ol_bs1 66 rfl rfl rw61 rfl rfl rfl fun a66 => ?_
          refine ol_append1 (id := 14) (id2 := 66) rfl rfl rfl rfl rfl rw61 (by omega) rfl fun a67 c67 => ?_
          refine ol_store (id := 5) rfl rfl rfl rfl sz61 rfl rfl (by first | decide | exact Nat.zero_lt_succ _ | simp) ?_
          refine ol_nil (to_k0 (fun _ _ h => h) (hK65 _ _ _ _ _ ?_))
          clear hK65
          refine wp_reg ?_
          refine ol_r (r_add rfl rfl (by omega)) rfl ?_
          refine ol_r (r_move rfl) rfl ?_
          refine ol_nil (to_k0 (fun _ _ h => h) (hK62 ((j + 1, _, _, _)) _ _ ?_ ?_ (sub_cons rfl sub_nil) (sub_cons rfl (sub_cons rfl (sub_cons rfl (sub_cons rfl (sub_cons rfl (sub_cons rfl sub_nil)))))) (by exact (subH_blk rfl (sub_cons rfl sub_nil) (subH_row rfl (by first | (dsimp only; first | (rw [stepV_snoc (by omega) (elV_big (by omega) (by omega)), ← List.append_assoc, encI_snoc]; done) | (rw [stepV_snoc (by omega) (elV_gap (by omega) (by omega)), ← List.append_assoc, encI_snoc]; done) | (rw [stepV_snoc (by omega) (elV_len (by omega) (by omega)), lenV_4 (by omega), ← List.append_assoc, encI_snoc]; done) | (rw [stepV_snoc (by omega) (elV_len (by omega) (by omega)), lenV_5 (by omega), ← List.append_assoc, encI_snoc]; done) | (rw [stepV_snoc (by omega) ((elV_val (by omega) (by omega)).trans (valV_1 (by omega))), ← List.append_assoc, encI_snoc]; done) | (rw [stepV_snoc (by omega) ((elV_val (by omega) (by omega)).trans (valV_2 (by omega))), ← List.append_assoc, encI_snoc]; done) | (rw [stepV_snoc (by omega) ((elV_val (by omega) (by omega)).trans (valV_3 (by omega))), ← List.append_assoc, encI_snoc]; done); done) | (first | (rw [stepV_snoc (by omega) (elV_big (by omega) (by omega)), ← List.append_assoc, encI_snoc]; done) | (rw [stepV_snoc (by omega) (elV_gap (by omega) (by omega)), ← List.append_assoc, encI_snoc]; done) | (rw [stepV_snoc (by omega) (elV_len (by omega) (by omega)), lenV_4 (by omega), ← List.append_assoc, encI_snoc]; done) | (rw [stepV_snoc (by omega) (elV_len (by omega) (by omega)), lenV_5 (by omega), ← List.append_assoc, encI_snoc]; done) | (rw [stepV_snoc (by omega) ((elV_val (by omega) (by omega)).trans (valV_1 (by omega))), ← List.append_assoc, encI_snoc]; done) | (rw [stepV_snoc (by omega) ((elV_val (by omega) (by omega)).trans (valV_2 (by omega))), ← List.append_assoc, encI_snoc]; done) | (rw [stepV_snoc (by omega) ((elV_val (by omega) (by omega)).trans (valV_3 (by omega))), ← List.append_assoc, encI_snoc]; done); done) | (dsimp only; done)) subH_nil))) (subH_same rfl (subH_same rfl (subH_same rfl (subH_same rfl (subH_same rfl subH_nil)))))))
          ·try dsimp only
           exact ⟨by omega, by omega⟩
          ·try dsimp only
           omega
         ·have phs62 := hs62; try simp only [decide_eq_true_eq, decide_eq_false_iff_not, Bool.not_eq_true', Bool.not_eq_false', Bool.not_true, Bool.not_false] at phs62
          refine ol_s rfl rfl hs62 rfl ?_
          refine ol_r (r_pickF rfl hs62 rfl) rfl ?_
          refine ol_r (r_assign rfl) rfl ?_
          refine ol_nil (to_k0 (fun _ _ h => h) (hK67 _ _ _ _ _ ?_))
          clear hK67
          refine wp_condF rfl ?_
          refine wp_seq' fun K68 hK68 => ?_
          refine wp_reg ?_
          refine ol_r (r_move rfl) rfl ?_
          refine ol_r (r_gtr rfl rfl) rfl ?_
          refine ol_r (r_assign rfl) rfl ?_
          refine ol_nil (to_k0 (fun _ _ h => h) (hK68 _ _ _ _ _ ?_))
          clear hK68
          first | refine wp_condD rfl (fun hc68 => ?_) (fun hc68 => ?_) | refine wp_condN rfl (fun hc68 => ?_) (fun hc68 => ?_) | refine wp_condNB rfl (fun hc68 => ?_) (fun hc68 => ?_) | refine wp_cond' rfl (fun hc68 => ?_) (fun hc68 => ?_)
          ·refine wp_reg ?_
           refine ol_r (r_ld (id := 5) rfl rfl rfl sc61) rfl ?_
           refine ol_bs1 72 rfl rfl rw61 rfl rfl rfl fun a72 => ?_
           refine ol_append1 (id := 14) (id2 := 72) rfl rfl rfl rfl rfl rw61 (by omega) rfl fun a73 c73 => ?_
           refine ol_store (id := 5) rfl rfl rfl rfl sz61 rfl rfl (by first | decide | exact Nat.zero_lt_succ _ | simp) ?_
           refine ol_nil (to_k0 (fun _ _ h => h) (hK65 _ _ _ _ _ ?_))
           clear hK65
           refine wp_reg ?_
           refine ol_r (r_add rfl rfl (by omega)) rfl ?_
           refine ol_r (r_move rfl) rfl ?_
           refine ol_nil (to_k0 (fun _ _ h => h) (hK62 ((j + 1, _, _, _)) _ _ ?_ ?_ (sub_cons rfl sub_nil) (sub_cons rfl (sub_cons rfl (sub_cons rfl (sub_cons rfl (sub_cons rfl (sub_cons rfl sub_nil)))))) (by exact (subH_blk rfl (sub_cons rfl sub_nil) (subH_row rfl (by first | (dsimp only; first | (rw [stepV_snoc (by omega) (elV_big (by omega) (by omega)), ← List.append_assoc, encI_snoc]; done) | (rw [stepV_snoc (by omega) (elV_gap (by omega) (by omega)), ← List.append_assoc, encI_snoc]; done) | (rw [stepV_snoc (by omega) (elV_len (by omega) (by omega)), lenV_4 (by omega), ← List.append_assoc, encI_snoc]; done) | (rw [stepV_snoc (by omega) (elV_len (by omega) (by omega)), lenV_5 (by omega), ← List.append_assoc, encI_snoc]; done) | (rw [stepV_snoc (by omega) ((elV_val (by omega) (by omega)).trans (valV_1 (by omega))), ← List.append_assoc, encI_snoc]; done) | (rw [stepV_snoc (by omega) ((elV_val (by omega) (by omega)).trans (valV_2 (by omega))), ← List.append_assoc, encI_snoc]; done) | (rw [stepV_snoc (by omega) ((elV_val (by omega) (by omega)).trans (valV_3 (by omega))), ← List.append_assoc, encI_snoc]; done); done) | (first | (rw [stepV_snoc (by omega) (elV_big (by omega) (by omega)), ← List.append_assoc, encI_snoc]; done) | (rw [stepV_snoc (by omega) (elV_gap (by omega) (by omega)), ← List.append_assoc, encI_snoc]; done) | (rw [stepV_snoc (by omega) (elV_len (by omega) (by omega)), lenV_4 (by omega), ← List.append_assoc, encI_snoc]; done) | (rw [stepV_snoc (by omega) (elV_len (by omega) (by omega)), lenV_5 (by omega), ← List.append_assoc, encI_snoc]; done) | (rw [stepV_snoc (by omega) ((elV_val (by omega) (by omega)).trans (valV_1 (by omega))), ← List.append_assoc, encI_snoc]; done) | (rw [stepV_snoc (by omega) ((elV_val (by omega) (by omega)).trans (valV_2 (by omega))), ← List.append_assoc, encI_snoc]; done) | (rw [stepV_snoc (by omega) ((elV_val (by omega) (by omega)).trans (valV_3 (by omega))), ← List.append_assoc, encI_snoc]; done); done) | (dsimp only; done)) subH_nil))) (subH_same rfl (subH_same rfl (subH_same rfl (subH_same rfl (subH_same rfl subH_nil)))))))
           ·try dsimp only
            exact ⟨by omega, by omega⟩
           ·try dsimp only
            omega
          ·refine wp_seq' fun K69 hK69 => ?_
           refine wp_reg ?_
           refine ol_r (r_move rfl) rfl ?_
           refine ol_r (r_assign rfl) rfl ?_
           refine ol_nil (to_k0 (fun _ _ h => h) (hK69 _ _ _ _ _ ?_))
           clear hK69
           refine wp_condT rfl ?_
           refine wp_rega [(999, [(2, _), (3, _), (6, _), (7, _), (1001, _)]), (15, [(5, _)]), (14, [(14, _)])] (by kernel_rfl) ⟨.inr (subH_same rfl (subH_same rfl (subH_same rfl (subH_same rfl (subH_same rfl subH_nil))))), ⟨.inr (subH_same rfl subH_nil), ⟨.inr (subH_same rfl subH_nil), trivial⟩⟩⟩ ?_
           refine aq_r 0 15 rfl (by kernel_rfl) (by kernel_rfl) (by kernel_rfl) (.tail _ (.head _)) (by kernel_rfl) (by kernel_rfl) rfl (r_ld (id := 5) rfl rfl rfl sc61) ?_
           refine aq_r 1 999 rfl (by kernel_rfl) (by kernel_rfl) (by kernel_rfl) (.head _) (by kernel_rfl) (by kernel_rfl) rfl (r_move rfl) ?_
           refine aq_r 2 999 rfl (by kernel_rfl) (by kernel_rfl) (by kernel_rfl) (.head _) (by kernel_rfl) (by kernel_rfl) rfl (r_move rfl) ?_
           have bl := lenD_bd hp hq
           have hn60 : x.2.at_ - x.1.at_ ≤ 60 := by omega
           have m1 := mul_bd (a := lenD x.1 x.2) (b := (j : Int) + 1) (A := 300000000) (B := 60) (by omega) (by omega) (by omega) (by omega)
           have m2 := mul_bd (a := lenD x.1 x.2) (b := (j : Int)) (A := 300000000) (B := 60) (by omega) (by omega) (by omega) (by omega)
           have m3 := mul_bd (a := max (x.2.z - x.1.z) 0) (b := (j : Int) + 1) (A := 300000000) (B := 60) (by omega) (by omega) (by omega) (by omega)
           have m4 := mul_bd (a := max (x.2.z - x.1.z) 0) (b := (j : Int)) (A := 300000000) (B := 60) (by omega) (by omega) (by omega) (by omega)
           have d1 := spread_bd (v := lenD x.1 x.2) (n := x.2.at_ - x.1.at_) (j := j) (by omega) (by omega)
           have d2 := spread_bd (v := max (x.2.z - x.1.z) 0) (n := x.2.at_ - x.1.at_) (j := j) (by omega) (by omega)
           refine aq_r 3 999 rfl (by kernel_rfl) (by kernel_rfl) (by kernel_rfl) (.head _) (by kernel_rfl) (by kernel_rfl) rfl (r_add rfl rfl (by omega)) ?_
           refine aq_r 4 999 rfl (by kernel_rfl) (by kernel_rfl) (by kernel_rfl) (.head _) (by kernel_rfl) (by kernel_rfl) rfl (r_mul rfl rfl (by omega)) ?_
           refine aq_r 5 999 rfl (by kernel_rfl) (by kernel_rfl) (by kernel_rfl) (.head _) (by kernel_rfl) (by kernel_rfl) rfl (r_move rfl) ?_
           first | refine aq_r 6 999 rfl (by kernel_rfl) (by kernel_rfl) (by kernel_rfl) (.head _) (by kernel_rfl) (by kernel_rfl) rfl (r_quo rfl rfl (by omega)) ?_ | refine aq_r 6 999 rfl (by kernel_rfl) (by kernel_rfl) (by kernel_rfl) (.head _) (by kernel_rfl) (by kernel_rfl) rfl (r_tquo rfl rfl (by omega)) ?_
           refine aq_r 7 999 rfl (by kernel_rfl) (by kernel_rfl) (by kernel_rfl) (.head _) (by kernel_rfl) (by kernel_rfl) rfl (r_move rfl) ?_
           refine aq_r 8 999 rfl (by kernel_rfl) (by kernel_rfl) (by kernel_rfl) (.head _) (by kernel_rfl) (by kernel_rfl) rfl (r_move rfl) ?_
           refine aq_r 9 999 rfl (by kernel_rfl) (by kernel_rfl) (by kernel_rfl) (.head _) (by kernel_rfl) (by kernel_rfl) rfl (r_mul rfl rfl (by omega)) ?_
           refine aq_r 10 999 rfl (by kernel_rfl) (by kernel_rfl) (by kernel_rfl) (.head _) (by kernel_rfl) (by kernel_rfl) rfl (r_move rfl) ?_
           first | refine aq_r 11 999 rfl (by kernel_rfl) (by kernel_rfl) (by kernel_rfl) (.head _) (by kernel_rfl) (by kernel_rfl) rfl (r_quo rfl rfl (by omega)) ?_ | refine aq_r 11 999 rfl (by kernel_rfl) (by kernel_rfl) (by kernel_rfl) (.head _) (by kernel_rfl) (by kernel_rfl) rfl (r_tquo rfl rfl (by omega)) ?_
           refine aq_r 12 999 rfl (by kernel_rfl) (by kernel_rfl) (by kernel_rfl) (.head _) (by kernel_rfl) (by kernel_rfl) rfl (r_sub rfl rfl (by omega)) ?_
           refine aq_one (i := 13) (by kernel_rfl) rfl fun K70 hK70 => ?_
           refine ol_bs1 89 rfl rfl rw61 rfl rfl rfl fun a89 => ?_
           refine ol_nil (to_k0 (fun _ _ h => h) (hK70 _ _ ⟨.inr (by repeat' first | exact subH_nil | refine subH_same rfl ?_ | (refine subH_blk rfl (by repeat' first | exact sub_nil | refine sub_cons rfl ?_) ?_)), ⟨.inr (by repeat' first | exact subH_nil | refine subH_same rfl ?_ | (refine subH_blk rfl (by repeat' first | exact sub_nil | refine sub_cons rfl ?_) ?_)), ⟨.inr (by repeat' first | exact subH_nil | refine subH_same rfl ?_ | (refine subH_blk rfl (by repeat' first | exact sub_nil | refine sub_cons rfl ?_) ?_)), trivial⟩⟩⟩ ?_))
           clear hK70
           refine aq_one (i := 14) (by kernel_rfl) rfl fun K71 hK71 => ?_
           refine ol_append1 (id := 14) (id2 := 89) rfl rfl rfl rfl rfl rw61 (by omega) rfl fun a90 c90 => ?_
           refine ol_nil (to_k0 (fun _ _ h => h) (hK71 _ _ ⟨.inr (by repeat' first | exact subH_nil | refine subH_same rfl ?_ | (refine subH_blk rfl (by repeat' first | exact sub_nil | refine sub_cons rfl ?_) ?_)), ⟨.inr (by repeat' first | exact subH_nil | refine subH_same rfl ?_ | (refine subH_blk rfl (by repeat' first | exact sub_nil | refine sub_cons rfl ?_) ?_)), ⟨.inl (by kernel_rfl), trivial⟩⟩⟩ ?_))
           clear hK71
           refine aq_one (i := 15) (by kernel_rfl) rfl fun K72 hK72 => ?_
           refine ol_store (id := 5) rfl rfl rfl rfl sz61 rfl rfl (by first | decide | exact Nat.zero_lt_succ _ | simp) ?_
           refine ol_nil (to_k0 (fun _ _ h => h) (hK72 _ _ ⟨.inr (by repeat' first | exact subH_nil | refine subH_same rfl ?_ | (refine subH_blk rfl (by repeat' first | exact sub_nil | refine sub_cons rfl ?_) ?_)), ⟨.inl (by kernel_rfl), ⟨.inl (by kernel_rfl), trivial⟩⟩⟩ ?_))
           clear hK72
           refine aq_done (by kernel_rfl) ?_
           refine (to_k0 (fun _ _ h => h) (hK65 _ _ _ _ _ ?_))
           clear hK65
           refine wp_reg ?_
           refine ol_r (r_add rfl rfl (by omega)) rfl ?_
           refine ol_r (r_move rfl) rfl ?_
           refine ol_nil (to_k0 (fun _ _ h => h) (hK62 ((j + 1, _, _, _)) _ _ ?_ ?_ (sub_cons rfl sub_nil) (sub_cons rfl (sub_cons rfl (sub_cons rfl (sub_cons rfl (sub_cons rfl (sub_cons rfl sub_nil)))))) (by exact (subH_blk rfl (sub_cons rfl sub_nil) (subH_row rfl (by first | (dsimp only; first | (rw [stepV_snoc (by omega) (elV_big (by omega) (by omega)), ← List.append_assoc, encI_snoc]; done) | (rw [stepV_snoc (by omega) (elV_gap (by omega) (by omega)), ← List.append_assoc, encI_snoc]; done) | (rw [stepV_snoc (by omega) (elV_len (by omega) (by omega)), lenV_4 (by omega), ← List.append_assoc, encI_snoc]; done) | (rw [stepV_snoc (by omega) (elV_len (by omega) (by omega)), lenV_5 (by omega), ← List.append_assoc, encI_snoc]; done) | (rw [stepV_snoc (by omega) ((elV_val (by omega) (by omega)).trans (valV_1 (by omega))), ← List.append_assoc, encI_snoc]; done) | (rw [stepV_snoc (by omega) ((elV_val (by omega) (by omega)).trans (valV_2 (by omega))), ← List.append_assoc, encI_snoc]; done) | (rw [stepV_snoc (by omega) ((elV_val (by omega) (by omega)).trans (valV_3 (by omega))), ← List.append_assoc, encI_snoc]; done); done) | (first | (rw [stepV_snoc (by omega) (elV_big (by omega) (by omega)), ← List.append_assoc, encI_snoc]; done) | (rw [stepV_snoc (by omega) (elV_gap (by omega) (by omega)), ← List.append_assoc, encI_snoc]; done) | (rw [stepV_snoc (by omega) (elV_len (by omega) (by omega)), lenV_4 (by omega), ← List.append_assoc, encI_snoc]; done) | (rw [stepV_snoc (by omega) (elV_len (by omega) (by omega)), lenV_5 (by omega), ← List.append_assoc, encI_snoc]; done) | (rw [stepV_snoc (by omega) ((elV_val (by omega) (by omega)).trans (valV_1 (by omega))), ← List.append_assoc, encI_snoc]; done) | (rw [stepV_snoc (by omega) ((elV_val (by omega) (by omega)).trans (valV_2 (by omega))), ← List.append_assoc, encI_snoc]; done) | (rw [stepV_snoc (by omega) ((elV_val (by omega) (by omega)).trans (valV_3 (by omega))), ← List.append_assoc, encI_snoc]; done); done) | (dsimp only; done)) subH_nil))) (subH_same rfl (subH_same rfl (subH_same rfl (subH_same rfl (subH_same rfl subH_nil)))))))
           ·try dsimp only
            exact ⟨by omega, by omega⟩
           ·try dsimp only
            omega
        ·refine wp_exit' (QP.of (hn ((_, _, _)) _ _ ?_ (by exact (subH_blk rfl (sub_cons rfl sub_nil) (subH_row rfl (by first | (dsimp only; rw [strmL_succ hx, List.take_of_length_le (by rw [stepV_len]; omega)]; done) | (rw [strmL_succ hx, List.take_of_length_le (by rw [stepV_len]; omega)]; done) | (dsimp only; done)) subH_nil))) (subH_same rfl (subH_same rfl (subH_same rfl subH_nil)))) (fun _ _ h => h))
         try dsimp only
         refine ⟨by have := (List.getElem?_eq_some_iff.1 hx).1; omega, ?_⟩
         rw [strmL_succ hx, List.length_append, stepV_len]
         omega
  ·rintro s dd hI
   refine (to_k0 (fun _ _ h => h) (hK3 _ _ _ _ _ ?_))
   clear hK3
   refine wp_seq' fun K73 hK73 => ?_
   refine wp_reg ?_
   refine ol_r (r_ld (id := 5) rfl rfl rfl sc61) rfl ?_
   refine ol_r (r_assign rfl) rfl ?_
   refine ol_nil (to_k0 (fun _ _ h => h) (hK73 _ _ _ _ _ ?_))
   clear hK73
   refine hQ.ret (rvs1 (rv_t rfl)) (fun _ _ h => h) fun w hb hs hB hkd => ?_
   have h2 := hs.ok 14 _ rfl
   rw [hlen] at h2
   exact ⟨_, _, _, rfl, hb, h2⟩
  ·exact fun t dd hI => hI.elim
end Go.Proofs.Ytfbmkepogcimlaa

/-
  CheckStream, windows, Best: program and reference.
-/

namespace Go.Proofs.Ytfbmkepogcimlaa
open Go Go.RowKit Hx
set_option linter.unusedVariables false
set_option linter.unusedSimpArgs false
set_option maxRecDepth 8000

/-! #### windows, for the function of best -/
def bestV (z : Int) (st : BestS) : List Value := [.int .i64 z, .int .i64 st.sum, .int .i64 st.at_, .bool st.found]
def bcells (z : Int) (st : BestS) : List (Nat × Value) := pairs 0 (bestV z st)
def bestR (xs : List Int) (size : Int) : BestS × Int × Int :=
  if streamR xs ≠ 0 then (⟨0, 0, false⟩, 0, streamR xs) else if inB size 1 1000000 = true then (bestK xs size.toNat xs.length, size, 0) else (⟨0, 0, false⟩, 0, 9)
end Go.Proofs.Ytfbmkepogcimlaa
