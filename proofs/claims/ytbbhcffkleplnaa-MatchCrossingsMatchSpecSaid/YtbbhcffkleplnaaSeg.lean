/-
  Segments: program and reference.
-/
import Derived.Test.YtbbhcffkleplnaaSegM
import Derived.Test.YtbbhcffkleplnaaCheck
import Derived.Test.YtbbhcffkleplnaaHw
import Derived.Test.YtbbhcffkleplnaaHv
namespace Go.Proofs.Ytbbhcffkleplnaa
open Go Go.RowKit Hx
set_option linter.unusedVariables false
set_option linter.unusedSimpArgs false
set_option maxRecDepth 8000
def encGate : Enc GateR := { size := 4, cells := fun x => [.int .i64 x.ax, .int .i64 x.ay, .int .i64 x.bx, .int .i64 x.by_], val := fun x => .agg #[.int .i64 x.ax, .int .i64 x.ay, .int .i64 x.bx, .int .i64 x.by_], len := fun _ => rfl, ones := fun _ u h => by simp at h; rcases h with rfl | rfl | rfl | rfl <;> rfl, pos := by decide, vc := fun _ => rfl }
theorem ty75 : Ty Try.prog 75 encGate := .inr ⟨ag75, fun _ => rfl⟩
theorem match_in (n a b : Int) (w : World) : Calls Try.prog 45 #[.int .i64 n, .int .i64 a, .int .i64 b] w fun e w' => e = .returned (.bool (inB n a b)) ∧ Below w.heap.size w w' := by
  refine enterQ (N := 15) (C := fun _ => True) (H := []) (B := w.heap.size) (args := [_, _, _]) Try.func45 rfl rfl rfl (Nat.le_refl _) (Sat.nil _ _) fun Q hQ => ?_
  refine wp_seq' fun K1 hK1 => ?_
  refine wp_reg ?_
  refine ol_r (r_assign rfl) rfl ?_
  refine ol_nil (to_k0 (fun _ _ h => h) (hK1 _ _ _ _ _ ?_))
  clear hK1
  refine wp_seq' fun K2 hK2 => ?_
  refine wp_reg ?_
  refine ol_r (r_move rfl) rfl ?_
  refine ol_r (r_move rfl) rfl ?_
  refine ol_r (r_geq rfl rfl) rfl ?_
  refine ol_r (r_move rfl) rfl ?_
  refine ol_split (d := 10) rfl (fun hs10 => ?_) (fun hs10 => ?_)
  ·have phs10 := hs10; try simp only [decide_eq_true_eq, decide_eq_false_iff_not, Bool.not_eq_true', Bool.not_eq_false', Bool.not_true, Bool.not_false] at phs10
   refine ol_g rfl rfl hs10 ?_
   refine ol_r (r_move rfl) rfl ?_
   refine ol_g rfl rfl hs10 ?_
   refine ol_r (r_move rfl) rfl ?_
   refine ol_g rfl rfl hs10 ?_
   refine ol_r (r_leq rfl rfl) rfl ?_
   refine ol_r (r_pickT rfl hs10 rfl) rfl ?_
   refine ol_r (r_assign rfl) rfl ?_
   refine ol_nil (to_k0 (fun _ _ h => h) (hK2 _ _ _ _ _ ?_))
   clear hK2
   refine hQ.ret (rvs1 (rv_t rfl)) (fun _ _ h => h) fun w hb hs hB hkd => ?_
   exact ⟨by simp [inB, hs10], hb⟩
  ·have phs10 := hs10; try simp only [decide_eq_true_eq, decide_eq_false_iff_not, Bool.not_eq_true', Bool.not_eq_false', Bool.not_true, Bool.not_false] at phs10
   refine ol_s rfl rfl hs10 rfl ?_
   refine ol_s rfl rfl hs10 rfl ?_
   refine ol_s rfl rfl hs10 rfl ?_
   refine ol_r (r_pickF rfl hs10 rfl) rfl ?_
   refine ol_r (r_assign rfl) rfl ?_
   refine ol_nil (to_k0 (fun _ _ h => h) (hK2 _ _ _ _ _ ?_))
   clear hK2
   refine hQ.ret (rvs1 (rv_t rfl)) (fun _ _ h => h) fun w hb hs hB hkd => ?_
   exact ⟨by simp [inB, hs10], hb⟩
theorem ref5_outside (n a b : Int) (w : World) : Calls Try.prog 48 #[.int .i64 n, .int .i64 a, .int .i64 b] w fun e w' => e = .returned (.bool (!inB n a b)) ∧ Below w.heap.size w w' := by
  refine enterQ (N := 15) (C := fun _ => True) (H := []) (B := w.heap.size) (args := [_, _, _]) Try.func48 rfl rfl rfl (Nat.le_refl _) (Sat.nil _ _) fun Q hQ => ?_
  refine wp_seq' fun K1 hK1 => ?_
  refine wp_reg ?_
  refine ol_r (r_assign rfl) rfl ?_
  refine ol_nil (to_k0 (fun _ _ h => h) (hK1 _ _ _ _ _ ?_))
  clear hK1
  refine wp_seq' fun K2 hK2 => ?_
  refine wp_reg ?_
  refine ol_r (r_move rfl) rfl ?_
  refine ol_r (r_move rfl) rfl ?_
  refine ol_r (r_lss rfl rfl) rfl ?_
  refine ol_r (r_move rfl) rfl ?_
  refine ol_split (d := 10) rfl (fun hs10 => ?_) (fun hs10 => ?_)
  ·have phs10 := hs10; try simp only [decide_eq_true_eq, decide_eq_false_iff_not, Bool.not_eq_true', Bool.not_eq_false', Bool.not_true, Bool.not_false] at phs10
   refine ol_s rfl rfl hs10 rfl ?_
   refine ol_s rfl rfl hs10 rfl ?_
   refine ol_s rfl rfl hs10 rfl ?_
   refine ol_r (r_pickT rfl hs10 rfl) rfl ?_
   refine ol_r (r_assign rfl) rfl ?_
   refine ol_nil (to_k0 (fun _ _ h => h) (hK2 _ _ _ _ _ ?_))
   clear hK2
   refine hQ.ret (rvs1 (rv_t rfl)) (fun _ _ h => h) fun w hb hs hB hkd => ?_
   exact ⟨by rw [inB_not.2 (.inl (by simpa using phs10))]; rfl, hb⟩
  ·have phs10 := hs10; try simp only [decide_eq_true_eq, decide_eq_false_iff_not, Bool.not_eq_true', Bool.not_eq_false', Bool.not_true, Bool.not_false] at phs10
   refine ol_g rfl rfl hs10 ?_
   refine ol_r (r_move rfl) rfl ?_
   refine ol_g rfl rfl hs10 ?_
   refine ol_r (r_move rfl) rfl ?_
   refine ol_g rfl rfl hs10 ?_
   refine ol_r (r_gtr rfl rfl) rfl ?_
   refine ol_r (r_pickF rfl hs10 rfl) rfl ?_
   refine ol_r (r_assign rfl) rfl ?_
   refine ol_nil (to_k0 (fun _ _ h => h) (hK2 _ _ _ _ _ ?_))
   clear hK2
   refine hQ.ret (rvs1 (rv_t rfl)) (fun _ _ h => h) fun w hb hs hB hkd => ?_
   have h2 : decide (b < n) = !inB n a b := by
     by_cases h : n ≤ b
     · rw [inB_iff.2 ⟨by omega, h⟩, decide_eq_false (by omega)]; rfl
     · rw [inB_not.2 (.inr (by omega)), decide_eq_true (by omega)]; rfl
   exact ⟨by rw [h2], hb⟩
theorem ref1_isDigit (c : Int) (w : World) : Calls Try.prog 84 #[.int .u8 c] w fun e w' => e = .returned (.bool (decide (48 ≤ c) && decide (c ≤ 57))) ∧ Below w.heap.size w w' := by
  refine enterQ (N := 9) (C := fun _ => True) (H := []) (B := w.heap.size) (args := [_]) Try.func84 rfl rfl rfl (Nat.le_refl _) (Sat.nil _ _) fun Q hQ => ?_
  refine wp_seq' fun K1 hK1 => ?_
  refine wp_reg ?_
  refine ol_r (r_assign rfl) rfl ?_
  refine ol_nil (to_k0 (fun _ _ h => h) (hK1 _ _ _ _ _ ?_))
  clear hK1
  refine wp_seq' fun K2 hK2 => ?_
  refine wp_reg ?_
  refine ol_r (r_move rfl) rfl ?_
  refine ol_r (r_geq rfl rfl) rfl ?_
  refine ol_r (r_move rfl) rfl ?_
  refine ol_split (d := 5) rfl (fun hs5 => ?_) (fun hs5 => ?_)
  ·have phs5 := hs5; try simp only [decide_eq_true_eq, decide_eq_false_iff_not, Bool.not_eq_true', Bool.not_eq_false', Bool.not_true, Bool.not_false] at phs5
   refine ol_g rfl rfl hs5 ?_
   refine ol_r (r_move rfl) rfl ?_
   refine ol_g rfl rfl hs5 ?_
   refine ol_r (r_leq rfl rfl) rfl ?_
   refine ol_r (r_pickT rfl hs5 rfl) rfl ?_
   refine ol_r (r_assign rfl) rfl ?_
   refine ol_nil (to_k0 (fun _ _ h => h) (hK2 _ _ _ _ _ ?_))
   clear hK2
   refine hQ.ret (rvs1 (rv_t rfl)) (fun _ _ h => h) fun w hb hs hB hkd => ?_
   refine ⟨?_, hb⟩
   congr 2
   first
     | (rw [decide_eq_true phs5, Bool.true_and]; done)
     | (rw [decide_eq_false (show ¬48 ≤ c by omega)]; rfl)
  ·have phs5 := hs5; try simp only [decide_eq_true_eq, decide_eq_false_iff_not, Bool.not_eq_true', Bool.not_eq_false', Bool.not_true, Bool.not_false] at phs5
   refine ol_s rfl rfl hs5 rfl ?_
   refine ol_s rfl rfl hs5 rfl ?_
   refine ol_r (r_pickF rfl hs5 rfl) rfl ?_
   refine ol_r (r_assign rfl) rfl ?_
   refine ol_nil (to_k0 (fun _ _ h => h) (hK2 _ _ _ _ _ ?_))
   clear hK2
   refine hQ.ret (rvs1 (rv_t rfl)) (fun _ _ h => h) fun w hb hs hB hkd => ?_
   refine ⟨?_, hb⟩
   congr 2
   first
     | (rw [decide_eq_true phs5, Bool.true_and]; done)
     | (rw [decide_eq_false (show ¬48 ≤ c by omega)]; rfl)
theorem ref1_IsName (q : ByteArray) (w : World) (hq0 : q.size ≤ 9223372036854775807) : Calls Try.prog 47 #[.string q] w fun e w' => e = .returned (.bool (nameB q)) ∧ Below w.heap.size w w' := by
  refine enterQ (N := 59) (C := fun _ => True) (H := []) (B := w.heap.size) (args := [_]) Try.func47 rfl rfl rfl (Nat.le_refl _) (Sat.nil _ _) fun Q hQ => ?_
  refine wp_seq' fun K1 hK1 => ?_
  refine wp_reg ?_
  refine ol_r (r_assign rfl) rfl ?_
  refine ol_nil (to_k0 (fun _ _ h => h) (hK1 _ _ _ _ _ ?_))
  clear hK1
  refine wp_seq' fun K2 hK2 => ?_
  refine wp_seq' fun K3 hK3 => ?_
  refine wp_reg ?_
  refine ol_r (r_move rfl) rfl ?_
  refine ol_r (r_lens rfl st9) rfl ?_
  refine ol_r (r_lss rfl rfl) rfl ?_
  refine ol_r (r_move rfl) rfl ?_
  refine ol_split (d := 10) rfl (fun hs10 => ?_) (fun hs10 => ?_)
  ·have phs10 := hs10; try simp only [decide_eq_true_eq, decide_eq_false_iff_not, Bool.not_eq_true', Bool.not_eq_false', Bool.not_true, Bool.not_false] at phs10
   refine ol_s rfl rfl hs10 rfl ?_
   refine ol_s rfl rfl hs10 rfl ?_
   refine ol_s rfl rfl hs10 rfl ?_
   refine ol_r (r_pickT rfl hs10 rfl) rfl ?_
   refine ol_nil (to_k0 (fun _ _ h => h) (hK3 _ _ _ _ _ ?_))
   clear hK3
   refine wp_condT rfl ?_
   refine wp_seq' fun K4 hK4 => ?_
   refine wp_reg ?_
   refine ol_r (r_assign rfl) rfl ?_
   refine ol_nil (to_k0 (fun _ _ h => h) (hK4 _ _ _ _ _ ?_))
   clear hK4
   refine hQ.ret (rvs1 (rv_t rfl)) (fun _ _ h => h) fun w hb hs hB hkd => ?_
   first
     | (refine ⟨?_, hb⟩
        have h2 : nameB q = false := by
          unfold nameB
          by_cases h1 : 1 ≤ q.size
          · rw [decide_eq_false (show ¬q.size ≤ 60 by omega), Bool.and_false, Bool.and_false]
          · rw [decide_eq_false h1, Bool.false_and, Bool.and_false]
        rw [h2]
        done)
  ·have phs10 := hs10; try simp only [decide_eq_true_eq, decide_eq_false_iff_not, Bool.not_eq_true', Bool.not_eq_false', Bool.not_true, Bool.not_false] at phs10
   refine ol_g rfl rfl hs10 ?_
   refine ol_r (r_move rfl) rfl ?_
   refine ol_g rfl rfl hs10 ?_
   refine ol_r (r_lens rfl st9) rfl ?_
   refine ol_g rfl rfl hs10 ?_
   refine ol_r (r_gtr rfl rfl) rfl ?_
   refine ol_r (r_pickF rfl hs10 rfl) rfl ?_
   refine ol_nil (to_k0 (fun _ _ h => h) (hK3 _ _ _ _ _ ?_))
   clear hK3
   refine wp_condD rfl (fun hc14 => ?_) (fun hc14 => ?_)
   ·refine wp_seq' fun K5 hK5 => ?_
    refine wp_reg ?_
    refine ol_r (r_assign rfl) rfl ?_
    refine ol_nil (to_k0 (fun _ _ h => h) (hK5 _ _ _ _ _ ?_))
    clear hK5
    refine hQ.ret (rvs1 (rv_t rfl)) (fun _ _ h => h) fun w hb hs hB hkd => ?_
    first
      | (refine ⟨?_, hb⟩
         have h2 : nameB q = false := by
           unfold nameB
           by_cases h1 : 1 ≤ q.size
           · rw [decide_eq_false (show ¬q.size ≤ 60 by omega), Bool.and_false, Bool.and_false]
           · rw [decide_eq_false h1, Bool.false_and, Bool.and_false]
         rw [h2]
         done)
   ·refine wp_skip' (to_k0 (fun _ _ h => h) (hK2 _ _ _ _ _ ?_))
    clear hK2
    refine wp_seq' fun K6 hK6 => ?_
    refine wp_seq' fun K7 hK7 => ?_
    refine wp_reg ?_
    refine ol_r (r_assign rfl) rfl ?_
    refine ol_nil (to_k0 (fun _ _ h => h) (hK7 _ _ _ _ _ ?_))
    clear hK7
    refine wp_block' ?_
    apply wp_loopM (σ := Nat) (fun s => s ≤ q.size ∧ ∀ i, i < s → nameC (byteAt q i) = true) (fun s => [(3, .int .i64 s)]) [(0, _)] (fun s => []) [] (fun s => q.size - s) (0)
    ·try dsimp only
     exact ⟨Nat.zero_le _, fun i h => by omega⟩
    ·exact (sub_cons rfl sub_nil)
    ·exact (sub_cons rfl sub_nil)
    ·exact subH_nil
    ·exact subH_nil
    ·rintro k ⟨hk, hP⟩
     intro K8 hK8
     refine wp_seq' fun K9 hK9 => ?_
     refine wp_seq' fun K10 hK10 => ?_
     refine wp_reg ?_
     refine ol_r (r_move rfl) rfl ?_
     refine ol_r (r_move rfl) rfl ?_
     refine ol_r (r_lens rfl st9) rfl ?_
     refine ol_r (r_lss rfl rfl) rfl ?_
     refine ol_nil (to_k0 (fun _ _ h => h) (hK10 _ _ _ _ _ ?_))
     clear hK10
     refine wp_condD rfl (fun hc18 => ?_) (fun hc18 => ?_)
     ·refine wp_skip' (to_k0 (fun _ _ h => h) (hK9 _ _ _ _ _ ?_))
      clear hK9
      refine wp_seq' fun K11 hK11 => ?_
      refine wp_block' ?_
      refine wp_seq' fun K12 hK12 => ?_
      refine wp_reg ?_
      refine ol_r (r_move rfl) rfl ?_
      refine ol_r (r_move rfl) rfl ?_
      refine ol_r (r_sidx rfl rfl st9 (by omega)) rfl ?_
      try simp only [Int.toNat_natCast]
      refine ol_r (r_assign rfl) rfl ?_
      refine ol_nil (to_k0 (fun _ _ h => h) (hK12 _ _ _ _ _ ?_))
      clear hK12
      refine wp_seq' fun K13 hK13 => ?_
      refine wp_reg ?_
      refine ol_r (r_move rfl) rfl ?_
      refine ol_r (r_geq rfl rfl) rfl ?_
      refine ol_r (r_move rfl) rfl ?_
      refine ol_split (d := 26) rfl (fun hs26 => ?_) (fun hs26 => ?_)
      ·have phs26 := hs26; try simp only [decide_eq_true_eq, decide_eq_false_iff_not, Bool.not_eq_true', Bool.not_eq_false', Bool.not_true, Bool.not_false] at phs26
       refine ol_g rfl rfl hs26 ?_
       refine ol_r (r_move rfl) rfl ?_
       refine ol_g rfl rfl hs26 ?_
       refine ol_r (r_leq rfl rfl) rfl ?_
       refine ol_r (r_pickT rfl hs26 rfl) rfl ?_
       refine ol_r (r_move rfl) rfl ?_
       refine ol_r (r_geq rfl rfl) rfl ?_
       refine ol_r (r_move rfl) rfl ?_
       refine ol_split (d := 32) rfl (fun hs32 => ?_) (fun hs32 => ?_)
       ·have phs32 := hs32; try simp only [decide_eq_true_eq, decide_eq_false_iff_not, Bool.not_eq_true', Bool.not_eq_false', Bool.not_true, Bool.not_false] at phs32
        refine ol_g rfl rfl hs32 ?_
        refine ol_r (r_move rfl) rfl ?_
        refine ol_g rfl rfl hs32 ?_
        refine ol_r (r_leq rfl rfl) rfl ?_
        refine ol_r (r_pickT rfl hs32 rfl) rfl ?_
        refine ol_r (r_assign rfl) rfl ?_
        refine ol_r (r_assign rfl) rfl ?_
        refine ol_nil (to_k0 (fun _ _ h => h) (hK13 _ _ _ _ _ ?_))
        clear hK13
        refine wp_seq' fun K14 hK14 => ?_
        refine wp_reg ?_
        refine ol_r (r_move rfl) rfl ?_
        refine ol_r (r_not rfl) rfl ?_
        refine ol_r (r_move rfl) rfl ?_
        refine ol_split (d := 38) rfl (fun hs38 => ?_) (fun hs38 => ?_)
        ·have phs38 := hs38; try simp only [decide_eq_true_eq, decide_eq_false_iff_not, Bool.not_eq_true', Bool.not_eq_false', Bool.not_true, Bool.not_false] at phs38
         refine ol_g rfl rfl hs38 ?_
         refine ol_r (r_move rfl) rfl ?_
         refine ol_g rfl rfl hs38 ?_
         refine ol_r (r_not rfl) rfl ?_
         refine ol_r (r_pickT rfl hs38 rfl) rfl ?_
         refine ol_r (r_move rfl) rfl ?_
         refine ol_split (d := 42) rfl (fun hs42 => ?_) (fun hs42 => ?_)
         ·have phs42 := hs42; try simp only [decide_eq_true_eq, decide_eq_false_iff_not, Bool.not_eq_true', Bool.not_eq_false', Bool.not_true, Bool.not_false] at phs42
          refine ol_g rfl rfl hs42 ?_
          refine ol_r (r_move rfl) rfl ?_
          refine ol_g rfl rfl hs42 ?_
          refine ol_call rfl rfl cb84 rfl (fun w1 hb1 hs1 hB1 => Calls.mono (ref1_isDigit _ _) ?_)
          rintro e w2 ⟨rfl, hb2⟩
          refine After.below rfl hb1 hs1 hB1 hb2 ?_
          clear hb2 hB1 hs1 hb1 w2 w1
          refine ol_g rfl rfl hs42 ?_
          refine ol_r (r_not rfl) rfl ?_
          refine ol_r (r_pickT rfl hs42 rfl) rfl ?_
          refine ol_r (r_move rfl) rfl ?_
          refine ol_split (d := 47) rfl (fun hs47 => ?_) (fun hs47 => ?_)
          ·have phs47 := hs47; try simp only [decide_eq_true_eq, decide_eq_false_iff_not, Bool.not_eq_true', Bool.not_eq_false', Bool.not_true, Bool.not_false] at phs47
           refine ol_g rfl rfl hs47 ?_
           refine ol_r (r_move rfl) rfl ?_
           refine ol_g rfl rfl hs47 ?_
           refine ol_r (r_neq rfl rfl) rfl ?_
           refine ol_r (r_pickT rfl hs47 rfl) rfl ?_
           refine ol_r (r_move rfl) rfl ?_
           refine ol_split (d := 51) rfl (fun hs51 => ?_) (fun hs51 => ?_)
           ·have phs51 := hs51; try simp only [decide_eq_true_eq, decide_eq_false_iff_not, Bool.not_eq_true', Bool.not_eq_false', Bool.not_true, Bool.not_false] at phs51
            refine ol_g rfl rfl hs51 ?_
            refine ol_r (r_move rfl) rfl ?_
            refine ol_g rfl rfl hs51 ?_
            refine ol_r (r_neq rfl rfl) rfl ?_
            refine ol_r (r_pickT rfl hs51 rfl) rfl ?_
            refine ol_r (r_move rfl) rfl ?_
            refine ol_split (d := 55) rfl (fun hs55 => ?_) (fun hs55 => ?_)
            ·have phs55 := hs55; try simp only [decide_eq_true_eq, decide_eq_false_iff_not, Bool.not_eq_true', Bool.not_eq_false', Bool.not_true, Bool.not_false] at phs55
             refine ol_g rfl rfl hs55 ?_
             refine ol_r (r_move rfl) rfl ?_
             refine ol_g rfl rfl hs55 ?_
             refine ol_r (r_neq rfl rfl) rfl ?_
             refine ol_r (r_pickT rfl hs55 rfl) rfl ?_
             refine ol_nil (to_k0 (fun _ _ h => h) (hK14 _ _ _ _ _ ?_))
             clear hK14
             refine wp_condD rfl (fun hc58 => ?_) (fun hc58 => ?_)
             ·refine wp_seq' fun K15 hK15 => ?_
              refine wp_reg ?_
              refine ol_r (r_assign rfl) rfl ?_
              refine ol_nil (to_k0 (fun _ _ h => h) (hK15 _ _ _ _ _ ?_))
              clear hK15
              refine hQ.ret (rvs1 (rv_t rfl)) (fun _ _ h => h) fun w hb hs hB hkd => ?_
              first
                | (refine ⟨?_, hb⟩
                   have h1 : nameC (byteAt q k) = false := by
                     rw [nameC_not]
                     simp only [Bool.and_eq_true, Bool.or_eq_true, Bool.and_eq_false_iff, Bool.or_eq_false_iff, decide_eq_true_eq, decide_eq_false_iff_not, Bool.not_eq_true', Bool.not_eq_false', Decidable.not_not, not_and, not_or, ne_eq] at *
                     omega
                   have h2 : nameB q = false := by unfold nameB; rw [bytesAll_not (by omega) h1]; rfl
                   rw [h2]
                   done)
             ·refine wp_skip' (to_k0 (fun _ _ h => h) (hK11 _ _ _ _ _ ?_))
              clear hK11
              refine wp_reg ?_
              refine ol_r (r_move rfl) rfl ?_
              refine ol_r (r_add rfl rfl (by omega)) rfl ?_
              refine ol_r (r_assign rfl) rfl ?_
              refine ol_nil (to_k0 (fun _ _ h => h) (hK8 (k + 1) _ _ ?_ ?_ (sub_cons rfl sub_nil) (sub_cons rfl sub_nil) (by exact subH_nil) subH_nil))
              ·try dsimp only
               refine ⟨by omega, fun i hi => ?_⟩
               by_cases h : i < k
               · exact hP i h
               · have : i = k := by omega
                 subst this
                 rw [nameC_iff]
                 simp only [Bool.and_eq_true, Bool.or_eq_true, Bool.and_eq_false_iff, Bool.or_eq_false_iff, decide_eq_true_eq, decide_eq_false_iff_not, Bool.not_eq_true', Bool.not_eq_false', Decidable.not_not, not_and, not_or, ne_eq] at *
                 omega
              ·try dsimp only
               omega
            ·have phs55 := hs55; try simp only [decide_eq_true_eq, decide_eq_false_iff_not, Bool.not_eq_true', Bool.not_eq_false', Bool.not_true, Bool.not_false] at phs55
             refine ol_s rfl rfl hs55 rfl ?_
             refine ol_s rfl rfl hs55 rfl ?_
             refine ol_r (r_pickF rfl hs55 rfl) rfl ?_
             refine ol_nil (to_k0 (fun _ _ h => h) (hK14 _ _ _ _ _ ?_))
             clear hK14
             refine wp_condF rfl ?_
             refine wp_skip' (to_k0 (fun _ _ h => h) (hK11 _ _ _ _ _ ?_))
             clear hK11
             refine wp_reg ?_
             refine ol_r (r_move rfl) rfl ?_
             refine ol_r (r_add rfl rfl (by omega)) rfl ?_
             refine ol_r (r_assign rfl) rfl ?_
             refine ol_nil (to_k0 (fun _ _ h => h) (hK8 (k + 1) _ _ ?_ ?_ (sub_cons rfl sub_nil) (sub_cons rfl sub_nil) (by exact subH_nil) subH_nil))
             ·try dsimp only
              refine ⟨by omega, fun i hi => ?_⟩
              by_cases h : i < k
              · exact hP i h
              · have : i = k := by omega
                subst this
                rw [nameC_iff]
                simp only [Bool.and_eq_true, Bool.or_eq_true, Bool.and_eq_false_iff, Bool.or_eq_false_iff, decide_eq_true_eq, decide_eq_false_iff_not, Bool.not_eq_true', Bool.not_eq_false', Decidable.not_not, not_and, not_or, ne_eq] at *
                omega
             ·try dsimp only
              omega
           ·have phs51 := hs51; try simp only [decide_eq_true_eq, decide_eq_false_iff_not, Bool.not_eq_true', Bool.not_eq_false', Bool.not_true, Bool.not_false] at phs51
            refine ol_s rfl rfl hs51 rfl ?_
            refine ol_s rfl rfl hs51 rfl ?_
            refine ol_r (r_pickF rfl hs51 rfl) rfl ?_
            refine ol_r (r_move rfl) rfl ?_
            refine ol_s rfl rfl rfl rfl ?_
            refine ol_s rfl rfl rfl rfl ?_
            refine ol_r (r_pickF rfl rfl rfl) rfl ?_
            refine ol_nil (to_k0 (fun _ _ h => h) (hK14 _ _ _ _ _ ?_))
            clear hK14
            refine wp_condF rfl ?_
            refine wp_skip' (to_k0 (fun _ _ h => h) (hK11 _ _ _ _ _ ?_))
            clear hK11
            refine wp_reg ?_
            refine ol_r (r_move rfl) rfl ?_
            refine ol_r (r_add rfl rfl (by omega)) rfl ?_
            refine ol_r (r_assign rfl) rfl ?_
            refine ol_nil (to_k0 (fun _ _ h => h) (hK8 (k + 1) _ _ ?_ ?_ (sub_cons rfl sub_nil) (sub_cons rfl sub_nil) (by exact subH_nil) subH_nil))
            ·try dsimp only
             refine ⟨by omega, fun i hi => ?_⟩
             by_cases h : i < k
             · exact hP i h
             · have : i = k := by omega
               subst this
               rw [nameC_iff]
               simp only [Bool.and_eq_true, Bool.or_eq_true, Bool.and_eq_false_iff, Bool.or_eq_false_iff, decide_eq_true_eq, decide_eq_false_iff_not, Bool.not_eq_true', Bool.not_eq_false', Decidable.not_not, not_and, not_or, ne_eq] at *
               omega
            ·try dsimp only
             omega
          ·have phs47 := hs47; try simp only [decide_eq_true_eq, decide_eq_false_iff_not, Bool.not_eq_true', Bool.not_eq_false', Bool.not_true, Bool.not_false] at phs47
           refine ol_s rfl rfl hs47 rfl ?_
           refine ol_s rfl rfl hs47 rfl ?_
           refine ol_r (r_pickF rfl hs47 rfl) rfl ?_
           refine ol_r (r_move rfl) rfl ?_
           refine ol_s rfl rfl rfl rfl ?_
           refine ol_s rfl rfl rfl rfl ?_
           refine ol_r (r_pickF rfl rfl rfl) rfl ?_
           refine ol_r (r_move rfl) rfl ?_
           refine ol_s rfl rfl rfl rfl ?_
           refine ol_s rfl rfl rfl rfl ?_
           refine ol_r (r_pickF rfl rfl rfl) rfl ?_
           refine ol_nil (to_k0 (fun _ _ h => h) (hK14 _ _ _ _ _ ?_))
           clear hK14
           refine wp_condF rfl ?_
           refine wp_skip' (to_k0 (fun _ _ h => h) (hK11 _ _ _ _ _ ?_))
           clear hK11
           refine wp_reg ?_
           refine ol_r (r_move rfl) rfl ?_
           refine ol_r (r_add rfl rfl (by omega)) rfl ?_
           refine ol_r (r_assign rfl) rfl ?_
           refine ol_nil (to_k0 (fun _ _ h => h) (hK8 (k + 1) _ _ ?_ ?_ (sub_cons rfl sub_nil) (sub_cons rfl sub_nil) (by exact subH_nil) subH_nil))
           ·try dsimp only
            refine ⟨by omega, fun i hi => ?_⟩
            by_cases h : i < k
            · exact hP i h
            · have : i = k := by omega
              subst this
              rw [nameC_iff]
              simp only [Bool.and_eq_true, Bool.or_eq_true, Bool.and_eq_false_iff, Bool.or_eq_false_iff, decide_eq_true_eq, decide_eq_false_iff_not, Bool.not_eq_true', Bool.not_eq_false', Decidable.not_not, not_and, not_or, ne_eq] at *
              omega
           ·try dsimp only
            omega
         ·have phs42 := hs42; try simp only [decide_eq_true_eq, decide_eq_false_iff_not, Bool.not_eq_true', Bool.not_eq_false', Bool.not_true, Bool.not_false] at phs42
          refine ol_s rfl rfl hs42 rfl ?_
          refine ol_s rfl rfl hs42 rfl ?_
          refine ol_s rfl rfl hs42 rfl ?_
          refine ol_r (r_pickF rfl hs42 rfl) rfl ?_
          refine ol_r (r_move rfl) rfl ?_
          refine ol_s rfl rfl rfl rfl ?_
          refine ol_s rfl rfl rfl rfl ?_
          refine ol_r (r_pickF rfl rfl rfl) rfl ?_
          refine ol_r (r_move rfl) rfl ?_
          refine ol_s rfl rfl rfl rfl ?_
          refine ol_s rfl rfl rfl rfl ?_
          refine ol_r (r_pickF rfl rfl rfl) rfl ?_
          refine ol_r (r_move rfl) rfl ?_
          refine ol_s rfl rfl rfl rfl ?_
          refine ol_s rfl rfl rfl rfl ?_
          refine ol_r (r_pickF rfl rfl rfl) rfl ?_
          refine ol_nil (to_k0 (fun _ _ h => h) (hK14 _ _ _ _ _ ?_))
          clear hK14
          refine wp_condF rfl ?_
          refine wp_skip' (to_k0 (fun _ _ h => h) (hK11 _ _ _ _ _ ?_))
          clear hK11
          refine wp_reg ?_
          refine ol_r (r_move rfl) rfl ?_
          refine ol_r (r_add rfl rfl (by omega)) rfl ?_
          refine ol_r (r_assign rfl) rfl ?_
          refine ol_nil (to_k0 (fun _ _ h => h) (hK8 (k + 1) _ _ ?_ ?_ (sub_cons rfl sub_nil) (sub_cons rfl sub_nil) (by exact subH_nil) subH_nil))
          ·try dsimp only
           refine ⟨by omega, fun i hi => ?_⟩
           by_cases h : i < k
           · exact hP i h
           · have : i = k := by omega
             subst this
             rw [nameC_iff]
             simp only [Bool.and_eq_true, Bool.or_eq_true, Bool.and_eq_false_iff, Bool.or_eq_false_iff, decide_eq_true_eq, decide_eq_false_iff_not, Bool.not_eq_true', Bool.not_eq_false', Decidable.not_not, not_and, not_or, ne_eq] at *
             omega
          ·try dsimp only
           omega
        ·have phs38 := hs38; try simp only [decide_eq_true_eq, decide_eq_false_iff_not, Bool.not_eq_true', Bool.not_eq_false', Bool.not_true, Bool.not_false] at phs38
         refine ol_s rfl rfl hs38 rfl ?_
         refine ol_s rfl rfl hs38 rfl ?_
         refine ol_r (r_pickF rfl hs38 rfl) rfl ?_
         refine ol_r (r_move rfl) rfl ?_
         refine ol_s rfl rfl rfl rfl ?_
         refine ol_s rfl rfl rfl rfl ?_
         refine ol_s rfl rfl rfl rfl ?_
         refine ol_r (r_pickF rfl rfl rfl) rfl ?_
         refine ol_r (r_move rfl) rfl ?_
         refine ol_s rfl rfl rfl rfl ?_
         refine ol_s rfl rfl rfl rfl ?_
         refine ol_r (r_pickF rfl rfl rfl) rfl ?_
         refine ol_r (r_move rfl) rfl ?_
         refine ol_s rfl rfl rfl rfl ?_
         refine ol_s rfl rfl rfl rfl ?_
         refine ol_r (r_pickF rfl rfl rfl) rfl ?_
         refine ol_r (r_move rfl) rfl ?_
         refine ol_s rfl rfl rfl rfl ?_
         refine ol_s rfl rfl rfl rfl ?_
         refine ol_r (r_pickF rfl rfl rfl) rfl ?_
         refine ol_nil (to_k0 (fun _ _ h => h) (hK14 _ _ _ _ _ ?_))
         clear hK14
         refine wp_condF rfl ?_
         refine wp_skip' (to_k0 (fun _ _ h => h) (hK11 _ _ _ _ _ ?_))
         clear hK11
         refine wp_reg ?_
         refine ol_r (r_move rfl) rfl ?_
         refine ol_r (r_add rfl rfl (by omega)) rfl ?_
         refine ol_r (r_assign rfl) rfl ?_
         refine ol_nil (to_k0 (fun _ _ h => h) (hK8 (k + 1) _ _ ?_ ?_ (sub_cons rfl sub_nil) (sub_cons rfl sub_nil) (by exact subH_nil) subH_nil))
         ·try dsimp only
          refine ⟨by omega, fun i hi => ?_⟩
          by_cases h : i < k
          · exact hP i h
          · have : i = k := by omega
            subst this
            rw [nameC_iff]
            simp only [Bool.and_eq_true, Bool.or_eq_true, Bool.and_eq_false_iff, Bool.or_eq_false_iff, decide_eq_true_eq, decide_eq_false_iff_not, Bool.not_eq_true', Bool.not_eq_false', Decidable.not_not, not_and, not_or, ne_eq] at *
            omega
         ·try dsimp only
          omega
       ·have phs32 := hs32; try simp only [decide_eq_true_eq, decide_eq_false_iff_not, Bool.not_eq_true', Bool.not_eq_false', Bool.not_true, Bool.not_false] at phs32
        refine ol_s rfl rfl hs32 rfl ?_
        refine ol_s rfl rfl hs32 rfl ?_
        refine ol_r (r_pickF rfl hs32 rfl) rfl ?_
        refine ol_r (r_assign rfl) rfl ?_
        refine ol_r (r_assign rfl) rfl ?_
        refine ol_nil (to_k0 (fun _ _ h => h) (hK13 _ _ _ _ _ ?_))
        clear hK13
        refine wp_seq' fun K16 hK16 => ?_
        refine wp_reg ?_
        refine ol_r (r_move rfl) rfl ?_
        refine ol_r (r_not rfl) rfl ?_
        refine ol_r (r_move rfl) rfl ?_
        refine ol_split (d := 38) rfl (fun hs38 => ?_) (fun hs38 => ?_)
        ·have phs38 := hs38; try simp only [decide_eq_true_eq, decide_eq_false_iff_not, Bool.not_eq_true', Bool.not_eq_false', Bool.not_true, Bool.not_false] at phs38
         refine ol_g rfl rfl hs38 ?_
         refine ol_r (r_move rfl) rfl ?_
         refine ol_g rfl rfl hs38 ?_
         refine ol_r (r_not rfl) rfl ?_
         refine ol_r (r_pickT rfl hs38 rfl) rfl ?_
         refine ol_r (r_move rfl) rfl ?_
         refine ol_g rfl rfl rfl ?_
         refine ol_r (r_move rfl) rfl ?_
         refine ol_g rfl rfl rfl ?_
         refine ol_call rfl rfl cb84 rfl (fun w1 hb1 hs1 hB1 => Calls.mono (ref1_isDigit _ _) ?_)
         rintro e w2 ⟨rfl, hb2⟩
         refine After.below rfl hb1 hs1 hB1 hb2 ?_
         clear hb2 hB1 hs1 hb1 w2 w1
         refine ol_g rfl rfl rfl ?_
         refine ol_r (r_not rfl) rfl ?_
         refine ol_r (r_pickT rfl rfl rfl) rfl ?_
         refine ol_r (r_move rfl) rfl ?_
         refine ol_split (d := 47) rfl (fun hs47 => ?_) (fun hs47 => ?_)
         ·have phs47 := hs47; try simp only [decide_eq_true_eq, decide_eq_false_iff_not, Bool.not_eq_true', Bool.not_eq_false', Bool.not_true, Bool.not_false] at phs47
          refine ol_g rfl rfl hs47 ?_
          refine ol_r (r_move rfl) rfl ?_
          refine ol_g rfl rfl hs47 ?_
          refine ol_r (r_neq rfl rfl) rfl ?_
          refine ol_r (r_pickT rfl hs47 rfl) rfl ?_
          refine ol_r (r_move rfl) rfl ?_
          refine ol_split (d := 51) rfl (fun hs51 => ?_) (fun hs51 => ?_)
          ·have phs51 := hs51; try simp only [decide_eq_true_eq, decide_eq_false_iff_not, Bool.not_eq_true', Bool.not_eq_false', Bool.not_true, Bool.not_false] at phs51
           refine ol_g rfl rfl hs51 ?_
           refine ol_r (r_move rfl) rfl ?_
           refine ol_g rfl rfl hs51 ?_
           refine ol_r (r_neq rfl rfl) rfl ?_
           refine ol_r (r_pickT rfl hs51 rfl) rfl ?_
           refine ol_r (r_move rfl) rfl ?_
           refine ol_split (d := 55) rfl (fun hs55 => ?_) (fun hs55 => ?_)
           ·have phs55 := hs55; try simp only [decide_eq_true_eq, decide_eq_false_iff_not, Bool.not_eq_true', Bool.not_eq_false', Bool.not_true, Bool.not_false] at phs55
            refine ol_g rfl rfl hs55 ?_
            refine ol_r (r_move rfl) rfl ?_
            refine ol_g rfl rfl hs55 ?_
            refine ol_r (r_neq rfl rfl) rfl ?_
            refine ol_r (r_pickT rfl hs55 rfl) rfl ?_
            refine ol_nil (to_k0 (fun _ _ h => h) (hK16 _ _ _ _ _ ?_))
            clear hK16
            refine wp_condD rfl (fun hc58 => ?_) (fun hc58 => ?_)
            ·refine wp_seq' fun K17 hK17 => ?_
             refine wp_reg ?_
             refine ol_r (r_assign rfl) rfl ?_
             refine ol_nil (to_k0 (fun _ _ h => h) (hK17 _ _ _ _ _ ?_))
             clear hK17
             refine hQ.ret (rvs1 (rv_t rfl)) (fun _ _ h => h) fun w hb hs hB hkd => ?_
             first
               | (refine ⟨?_, hb⟩
                  have h2 : nameB q = false := by
                    unfold nameB
                    by_cases h1 : 1 ≤ q.size
                    · rw [decide_eq_false (show ¬q.size ≤ 60 by omega), Bool.and_false, Bool.and_false]
                    · rw [decide_eq_false h1, Bool.false_and, Bool.and_false]
                  rw [h2]
                  done)
            ·refine wp_skip' (to_k0 (fun _ _ h => h) (hK11 _ _ _ _ _ ?_))
             clear hK11
             refine wp_reg ?_
             refine ol_r (r_move rfl) rfl ?_
             refine ol_r (r_add rfl rfl (by omega)) rfl ?_
             refine ol_r (r_assign rfl) rfl ?_
             refine ol_nil (to_k0 (fun _ _ h => h) (hK8 (k + 1) _ _ ?_ ?_ (sub_cons rfl sub_nil) (sub_cons rfl sub_nil) (by exact subH_nil) subH_nil))
             ·try dsimp only
              refine ⟨by omega, fun i hi => ?_⟩
              by_cases h : i < k
              · exact hP i h
              · have : i = k := by omega
                subst this
                rw [nameC_iff]
                simp only [Bool.and_eq_true, Bool.or_eq_true, Bool.and_eq_false_iff, Bool.or_eq_false_iff, decide_eq_true_eq, decide_eq_false_iff_not, Bool.not_eq_true', Bool.not_eq_false', Decidable.not_not, not_and, not_or, ne_eq] at *
                omega
             ·try dsimp only
              omega
           ·have phs55 := hs55; try simp only [decide_eq_true_eq, decide_eq_false_iff_not, Bool.not_eq_true', Bool.not_eq_false', Bool.not_true, Bool.not_false] at phs55
            refine ol_s rfl rfl hs55 rfl ?_
            refine ol_s rfl rfl hs55 rfl ?_
            refine ol_r (r_pickF rfl hs55 rfl) rfl ?_
            refine ol_nil (to_k0 (fun _ _ h => h) (hK16 _ _ _ _ _ ?_))
            clear hK16
            refine wp_condF rfl ?_
            refine wp_skip' (to_k0 (fun _ _ h => h) (hK11 _ _ _ _ _ ?_))
            clear hK11
            refine wp_reg ?_
            refine ol_r (r_move rfl) rfl ?_
            refine ol_r (r_add rfl rfl (by omega)) rfl ?_
            refine ol_r (r_assign rfl) rfl ?_
            refine ol_nil (to_k0 (fun _ _ h => h) (hK8 (k + 1) _ _ ?_ ?_ (sub_cons rfl sub_nil) (sub_cons rfl sub_nil) (by exact subH_nil) subH_nil))
            ·try dsimp only
             refine ⟨by omega, fun i hi => ?_⟩
             by_cases h : i < k
             · exact hP i h
             · have : i = k := by omega
               subst this
               rw [nameC_iff]
               simp only [Bool.and_eq_true, Bool.or_eq_true, Bool.and_eq_false_iff, Bool.or_eq_false_iff, decide_eq_true_eq, decide_eq_false_iff_not, Bool.not_eq_true', Bool.not_eq_false', Decidable.not_not, not_and, not_or, ne_eq] at *
               omega
            ·try dsimp only
             omega
          ·have phs51 := hs51; try simp only [decide_eq_true_eq, decide_eq_false_iff_not, Bool.not_eq_true', Bool.not_eq_false', Bool.not_true, Bool.not_false] at phs51
           refine ol_s rfl rfl hs51 rfl ?_
           refine ol_s rfl rfl hs51 rfl ?_
           refine ol_r (r_pickF rfl hs51 rfl) rfl ?_
           refine ol_r (r_move rfl) rfl ?_
           refine ol_s rfl rfl rfl rfl ?_
           refine ol_s rfl rfl rfl rfl ?_
           refine ol_r (r_pickF rfl rfl rfl) rfl ?_
           refine ol_nil (to_k0 (fun _ _ h => h) (hK16 _ _ _ _ _ ?_))
           clear hK16
           refine wp_condF rfl ?_
           refine wp_skip' (to_k0 (fun _ _ h => h) (hK11 _ _ _ _ _ ?_))
           clear hK11
           refine wp_reg ?_
           refine ol_r (r_move rfl) rfl ?_
           refine ol_r (r_add rfl rfl (by omega)) rfl ?_
           refine ol_r (r_assign rfl) rfl ?_
           refine ol_nil (to_k0 (fun _ _ h => h) (hK8 (k + 1) _ _ ?_ ?_ (sub_cons rfl sub_nil) (sub_cons rfl sub_nil) (by exact subH_nil) subH_nil))
           ·try dsimp only
            refine ⟨by omega, fun i hi => ?_⟩
            by_cases h : i < k
            · exact hP i h
            · have : i = k := by omega
              subst this
              rw [nameC_iff]
              simp only [Bool.and_eq_true, Bool.or_eq_true, Bool.and_eq_false_iff, Bool.or_eq_false_iff, decide_eq_true_eq, decide_eq_false_iff_not, Bool.not_eq_true', Bool.not_eq_false', Decidable.not_not, not_and, not_or, ne_eq] at *
              omega
           ·try dsimp only
            omega
         ·have phs47 := hs47; try simp only [decide_eq_true_eq, decide_eq_false_iff_not, Bool.not_eq_true', Bool.not_eq_false', Bool.not_true, Bool.not_false] at phs47
          refine ol_s rfl rfl hs47 rfl ?_
          refine ol_s rfl rfl hs47 rfl ?_
          refine ol_r (r_pickF rfl hs47 rfl) rfl ?_
          refine ol_r (r_move rfl) rfl ?_
          refine ol_s rfl rfl rfl rfl ?_
          refine ol_s rfl rfl rfl rfl ?_
          refine ol_r (r_pickF rfl rfl rfl) rfl ?_
          refine ol_r (r_move rfl) rfl ?_
          refine ol_s rfl rfl rfl rfl ?_
          refine ol_s rfl rfl rfl rfl ?_
          refine ol_r (r_pickF rfl rfl rfl) rfl ?_
          refine ol_nil (to_k0 (fun _ _ h => h) (hK16 _ _ _ _ _ ?_))
          clear hK16
          refine wp_condF rfl ?_
          refine wp_skip' (to_k0 (fun _ _ h => h) (hK11 _ _ _ _ _ ?_))
          clear hK11
          refine wp_reg ?_
          refine ol_r (r_move rfl) rfl ?_
          refine ol_r (r_add rfl rfl (by omega)) rfl ?_
          refine ol_r (r_assign rfl) rfl ?_
          refine ol_nil (to_k0 (fun _ _ h => h) (hK8 (k + 1) _ _ ?_ ?_ (sub_cons rfl sub_nil) (sub_cons rfl sub_nil) (by exact subH_nil) subH_nil))
          ·try dsimp only
           refine ⟨by omega, fun i hi => ?_⟩
           by_cases h : i < k
           · exact hP i h
           · have : i = k := by omega
             subst this
             rw [nameC_iff]
             simp only [Bool.and_eq_true, Bool.or_eq_true, Bool.and_eq_false_iff, Bool.or_eq_false_iff, decide_eq_true_eq, decide_eq_false_iff_not, Bool.not_eq_true', Bool.not_eq_false', Decidable.not_not, not_and, not_or, ne_eq] at *
             omega
          ·try dsimp only
           omega
        ·have phs38 := hs38; try simp only [decide_eq_true_eq, decide_eq_false_iff_not, Bool.not_eq_true', Bool.not_eq_false', Bool.not_true, Bool.not_false] at phs38
         refine ol_s rfl rfl hs38 rfl ?_
         refine ol_s rfl rfl hs38 rfl ?_
         refine ol_r (r_pickF rfl hs38 rfl) rfl ?_
         refine ol_r (r_move rfl) rfl ?_
         refine ol_s rfl rfl rfl rfl ?_
         refine ol_s rfl rfl rfl rfl ?_
         refine ol_s rfl rfl rfl rfl ?_
         refine ol_r (r_pickF rfl rfl rfl) rfl ?_
         refine ol_r (r_move rfl) rfl ?_
         refine ol_s rfl rfl rfl rfl ?_
         refine ol_s rfl rfl rfl rfl ?_
         refine ol_r (r_pickF rfl rfl rfl) rfl ?_
         refine ol_r (r_move rfl) rfl ?_
         refine ol_s rfl rfl rfl rfl ?_
         refine ol_s rfl rfl rfl rfl ?_
         refine ol_r (r_pickF rfl rfl rfl) rfl ?_
         refine ol_r (r_move rfl) rfl ?_
         refine ol_s rfl rfl rfl rfl ?_
         refine ol_s rfl rfl rfl rfl ?_
         refine ol_r (r_pickF rfl rfl rfl) rfl ?_
         refine ol_nil (to_k0 (fun _ _ h => h) (hK16 _ _ _ _ _ ?_))
         clear hK16
         refine wp_condF rfl ?_
         refine wp_skip' (to_k0 (fun _ _ h => h) (hK11 _ _ _ _ _ ?_))
         clear hK11
         refine wp_reg ?_
         refine ol_r (r_move rfl) rfl ?_
         refine ol_r (r_add rfl rfl (by omega)) rfl ?_
         refine ol_r (r_assign rfl) rfl ?_
         refine ol_nil (to_k0 (fun _ _ h => h) (hK8 (k + 1) _ _ ?_ ?_ (sub_cons rfl sub_nil) (sub_cons rfl sub_nil) (by exact subH_nil) subH_nil))
         ·try dsimp only
          refine ⟨by omega, fun i hi => ?_⟩
          by_cases h : i < k
          · exact hP i h
          · have : i = k := by omega
            subst this
            rw [nameC_iff]
            simp only [Bool.and_eq_true, Bool.or_eq_true, Bool.and_eq_false_iff, Bool.or_eq_false_iff, decide_eq_true_eq, decide_eq_false_iff_not, Bool.not_eq_true', Bool.not_eq_false', Decidable.not_not, not_and, not_or, ne_eq] at *
            omega
         ·try dsimp only
          omega
      ·have phs26 := hs26; try simp only [decide_eq_true_eq, decide_eq_false_iff_not, Bool.not_eq_true', Bool.not_eq_false', Bool.not_true, Bool.not_false] at phs26
       refine ol_s rfl rfl hs26 rfl ?_
       refine ol_s rfl rfl hs26 rfl ?_
       refine ol_r (r_pickF rfl hs26 rfl) rfl ?_
       refine ol_r (r_move rfl) rfl ?_
       refine ol_r (r_geq rfl rfl) rfl ?_
       refine ol_r (r_move rfl) rfl ?_
       refine ol_split (d := 32) rfl (fun hs32 => ?_) (fun hs32 => ?_)
       ·have phs32 := hs32; try simp only [decide_eq_true_eq, decide_eq_false_iff_not, Bool.not_eq_true', Bool.not_eq_false', Bool.not_true, Bool.not_false] at phs32
        refine ol_g rfl rfl hs32 ?_
        refine ol_r (r_move rfl) rfl ?_
        refine ol_g rfl rfl hs32 ?_
        refine ol_r (r_leq rfl rfl) rfl ?_
        refine ol_r (r_pickT rfl hs32 rfl) rfl ?_
        refine ol_r (r_assign rfl) rfl ?_
        refine ol_r (r_assign rfl) rfl ?_
        refine ol_nil (to_k0 (fun _ _ h => h) (hK13 _ _ _ _ _ ?_))
        clear hK13
        refine wp_seq' fun K18 hK18 => ?_
        refine wp_reg ?_
        refine ol_r (r_move rfl) rfl ?_
        refine ol_r (r_not rfl) rfl ?_
        refine ol_r (r_move rfl) rfl ?_
        refine ol_g rfl rfl rfl ?_
        refine ol_r (r_move rfl) rfl ?_
        refine ol_g rfl rfl rfl ?_
        refine ol_r (r_not rfl) rfl ?_
        refine ol_r (r_pickT rfl rfl rfl) rfl ?_
        refine ol_r (r_move rfl) rfl ?_
        refine ol_split (d := 42) rfl (fun hs42 => ?_) (fun hs42 => ?_)
        ·have phs42 := hs42; try simp only [decide_eq_true_eq, decide_eq_false_iff_not, Bool.not_eq_true', Bool.not_eq_false', Bool.not_true, Bool.not_false] at phs42
         refine ol_g rfl rfl hs42 ?_
         refine ol_r (r_move rfl) rfl ?_
         refine ol_g rfl rfl hs42 ?_
         refine ol_call rfl rfl cb84 rfl (fun w1 hb1 hs1 hB1 => Calls.mono (ref1_isDigit _ _) ?_)
         rintro e w2 ⟨rfl, hb2⟩
         refine After.below rfl hb1 hs1 hB1 hb2 ?_
         clear hb2 hB1 hs1 hb1 w2 w1
         refine ol_g rfl rfl hs42 ?_
         refine ol_r (r_not rfl) rfl ?_
         refine ol_r (r_pickT rfl hs42 rfl) rfl ?_
         refine ol_r (r_move rfl) rfl ?_
         refine ol_split (d := 47) rfl (fun hs47 => ?_) (fun hs47 => ?_)
         ·have phs47 := hs47; try simp only [decide_eq_true_eq, decide_eq_false_iff_not, Bool.not_eq_true', Bool.not_eq_false', Bool.not_true, Bool.not_false] at phs47
          refine ol_g rfl rfl hs47 ?_
          refine ol_r (r_move rfl) rfl ?_
          refine ol_g rfl rfl hs47 ?_
          refine ol_r (r_neq rfl rfl) rfl ?_
          refine ol_r (r_pickT rfl hs47 rfl) rfl ?_
          refine ol_r (r_move rfl) rfl ?_
          refine ol_split (d := 51) rfl (fun hs51 => ?_) (fun hs51 => ?_)
          ·have phs51 := hs51; try simp only [decide_eq_true_eq, decide_eq_false_iff_not, Bool.not_eq_true', Bool.not_eq_false', Bool.not_true, Bool.not_false] at phs51
           refine ol_g rfl rfl hs51 ?_
           refine ol_r (r_move rfl) rfl ?_
           refine ol_g rfl rfl hs51 ?_
           refine ol_r (r_neq rfl rfl) rfl ?_
           refine ol_r (r_pickT rfl hs51 rfl) rfl ?_
           refine ol_r (r_move rfl) rfl ?_
           refine ol_split (d := 55) rfl (fun hs55 => ?_) (fun hs55 => ?_)
           ·have phs55 := hs55; try simp only [decide_eq_true_eq, decide_eq_false_iff_not, Bool.not_eq_true', Bool.not_eq_false', Bool.not_true, Bool.not_false] at phs55
            refine ol_g rfl rfl hs55 ?_
            refine ol_r (r_move rfl) rfl ?_
            refine ol_g rfl rfl hs55 ?_
            refine ol_r (r_neq rfl rfl) rfl ?_
            refine ol_r (r_pickT rfl hs55 rfl) rfl ?_
            refine ol_nil (to_k0 (fun _ _ h => h) (hK18 _ _ _ _ _ ?_))
            clear hK18
            refine wp_condD rfl (fun hc58 => ?_) (fun hc58 => ?_)
            ·refine wp_seq' fun K19 hK19 => ?_
             refine wp_reg ?_
             refine ol_r (r_assign rfl) rfl ?_
             refine ol_nil (to_k0 (fun _ _ h => h) (hK19 _ _ _ _ _ ?_))
             clear hK19
             refine hQ.ret (rvs1 (rv_t rfl)) (fun _ _ h => h) fun w hb hs hB hkd => ?_
             first
               | (refine ⟨?_, hb⟩
                  have h1 : nameC (byteAt q k) = false := by
                    rw [nameC_not]
                    simp only [Bool.and_eq_true, Bool.or_eq_true, Bool.and_eq_false_iff, Bool.or_eq_false_iff, decide_eq_true_eq, decide_eq_false_iff_not, Bool.not_eq_true', Bool.not_eq_false', Decidable.not_not, not_and, not_or, ne_eq] at *
                    omega
                  have h2 : nameB q = false := by unfold nameB; rw [bytesAll_not (by omega) h1]; rfl
                  rw [h2]
                  done)
            ·refine wp_skip' (to_k0 (fun _ _ h => h) (hK11 _ _ _ _ _ ?_))
             clear hK11
             refine wp_reg ?_
             refine ol_r (r_move rfl) rfl ?_
             refine ol_r (r_add rfl rfl (by omega)) rfl ?_
             refine ol_r (r_assign rfl) rfl ?_
             refine ol_nil (to_k0 (fun _ _ h => h) (hK8 (k + 1) _ _ ?_ ?_ (sub_cons rfl sub_nil) (sub_cons rfl sub_nil) (by exact subH_nil) subH_nil))
             ·try dsimp only
              refine ⟨by omega, fun i hi => ?_⟩
              by_cases h : i < k
              · exact hP i h
              · have : i = k := by omega
                subst this
                rw [nameC_iff]
                simp only [Bool.and_eq_true, Bool.or_eq_true, Bool.and_eq_false_iff, Bool.or_eq_false_iff, decide_eq_true_eq, decide_eq_false_iff_not, Bool.not_eq_true', Bool.not_eq_false', Decidable.not_not, not_and, not_or, ne_eq] at *
                omega
             ·try dsimp only
              omega
           ·have phs55 := hs55; try simp only [decide_eq_true_eq, decide_eq_false_iff_not, Bool.not_eq_true', Bool.not_eq_false', Bool.not_true, Bool.not_false] at phs55
            refine ol_s rfl rfl hs55 rfl ?_
            refine ol_s rfl rfl hs55 rfl ?_
            refine ol_r (r_pickF rfl hs55 rfl) rfl ?_
            refine ol_nil (to_k0 (fun _ _ h => h) (hK18 _ _ _ _ _ ?_))
            clear hK18
            refine wp_condF rfl ?_
            refine wp_skip' (to_k0 (fun _ _ h => h) (hK11 _ _ _ _ _ ?_))
            clear hK11
            refine wp_reg ?_
            refine ol_r (r_move rfl) rfl ?_
            refine ol_r (r_add rfl rfl (by omega)) rfl ?_
            refine ol_r (r_assign rfl) rfl ?_
            refine ol_nil (to_k0 (fun _ _ h => h) (hK8 (k + 1) _ _ ?_ ?_ (sub_cons rfl sub_nil) (sub_cons rfl sub_nil) (by exact subH_nil) subH_nil))
            ·try dsimp only
             refine ⟨by omega, fun i hi => ?_⟩
             by_cases h : i < k
             · exact hP i h
             · have : i = k := by omega
               subst this
               rw [nameC_iff]
               simp only [Bool.and_eq_true, Bool.or_eq_true, Bool.and_eq_false_iff, Bool.or_eq_false_iff, decide_eq_true_eq, decide_eq_false_iff_not, Bool.not_eq_true', Bool.not_eq_false', Decidable.not_not, not_and, not_or, ne_eq] at *
               omega
            ·try dsimp only
             omega
          ·have phs51 := hs51; try simp only [decide_eq_true_eq, decide_eq_false_iff_not, Bool.not_eq_true', Bool.not_eq_false', Bool.not_true, Bool.not_false] at phs51
           refine ol_s rfl rfl hs51 rfl ?_
           refine ol_s rfl rfl hs51 rfl ?_
           refine ol_r (r_pickF rfl hs51 rfl) rfl ?_
           refine ol_r (r_move rfl) rfl ?_
           refine ol_s rfl rfl rfl rfl ?_
           refine ol_s rfl rfl rfl rfl ?_
           refine ol_r (r_pickF rfl rfl rfl) rfl ?_
           refine ol_nil (to_k0 (fun _ _ h => h) (hK18 _ _ _ _ _ ?_))
           clear hK18
           refine wp_condF rfl ?_
           refine wp_skip' (to_k0 (fun _ _ h => h) (hK11 _ _ _ _ _ ?_))
           clear hK11
           refine wp_reg ?_
           refine ol_r (r_move rfl) rfl ?_
           refine ol_r (r_add rfl rfl (by omega)) rfl ?_
           refine ol_r (r_assign rfl) rfl ?_
           refine ol_nil (to_k0 (fun _ _ h => h) (hK8 (k + 1) _ _ ?_ ?_ (sub_cons rfl sub_nil) (sub_cons rfl sub_nil) (by exact subH_nil) subH_nil))
           ·try dsimp only
            refine ⟨by omega, fun i hi => ?_⟩
            by_cases h : i < k
            · exact hP i h
            · have : i = k := by omega
              subst this
              rw [nameC_iff]
              simp only [Bool.and_eq_true, Bool.or_eq_true, Bool.and_eq_false_iff, Bool.or_eq_false_iff, decide_eq_true_eq, decide_eq_false_iff_not, Bool.not_eq_true', Bool.not_eq_false', Decidable.not_not, not_and, not_or, ne_eq] at *
              omega
           ·try dsimp only
            omega
         ·have phs47 := hs47; try simp only [decide_eq_true_eq, decide_eq_false_iff_not, Bool.not_eq_true', Bool.not_eq_false', Bool.not_true, Bool.not_false] at phs47
          refine ol_s rfl rfl hs47 rfl ?_
          refine ol_s rfl rfl hs47 rfl ?_
          refine ol_r (r_pickF rfl hs47 rfl) rfl ?_
          refine ol_r (r_move rfl) rfl ?_
          refine ol_s rfl rfl rfl rfl ?_
          refine ol_s rfl rfl rfl rfl ?_
          refine ol_r (r_pickF rfl rfl rfl) rfl ?_
          refine ol_r (r_move rfl) rfl ?_
          refine ol_s rfl rfl rfl rfl ?_
          refine ol_s rfl rfl rfl rfl ?_
          refine ol_r (r_pickF rfl rfl rfl) rfl ?_
          refine ol_nil (to_k0 (fun _ _ h => h) (hK18 _ _ _ _ _ ?_))
          clear hK18
          refine wp_condF rfl ?_
          refine wp_skip' (to_k0 (fun _ _ h => h) (hK11 _ _ _ _ _ ?_))
          clear hK11
          refine wp_reg ?_
          refine ol_r (r_move rfl) rfl ?_
          refine ol_r (r_add rfl rfl (by omega)) rfl ?_
          refine ol_r (r_assign rfl) rfl ?_
          refine ol_nil (to_k0 (fun _ _ h => h) (hK8 (k + 1) _ _ ?_ ?_ (sub_cons rfl sub_nil) (sub_cons rfl sub_nil) (by exact subH_nil) subH_nil))
          ·try dsimp only
           refine ⟨by omega, fun i hi => ?_⟩
           by_cases h : i < k
           · exact hP i h
           · have : i = k := by omega
             subst this
             rw [nameC_iff]
             simp only [Bool.and_eq_true, Bool.or_eq_true, Bool.and_eq_false_iff, Bool.or_eq_false_iff, decide_eq_true_eq, decide_eq_false_iff_not, Bool.not_eq_true', Bool.not_eq_false', Decidable.not_not, not_and, not_or, ne_eq] at *
             omega
          ·try dsimp only
           omega
        ·have phs42 := hs42; try simp only [decide_eq_true_eq, decide_eq_false_iff_not, Bool.not_eq_true', Bool.not_eq_false', Bool.not_true, Bool.not_false] at phs42
         refine ol_s rfl rfl hs42 rfl ?_
         refine ol_s rfl rfl hs42 rfl ?_
         refine ol_s rfl rfl hs42 rfl ?_
         refine ol_r (r_pickF rfl hs42 rfl) rfl ?_
         refine ol_r (r_move rfl) rfl ?_
         refine ol_s rfl rfl rfl rfl ?_
         refine ol_s rfl rfl rfl rfl ?_
         refine ol_r (r_pickF rfl rfl rfl) rfl ?_
         refine ol_r (r_move rfl) rfl ?_
         refine ol_s rfl rfl rfl rfl ?_
         refine ol_s rfl rfl rfl rfl ?_
         refine ol_r (r_pickF rfl rfl rfl) rfl ?_
         refine ol_r (r_move rfl) rfl ?_
         refine ol_s rfl rfl rfl rfl ?_
         refine ol_s rfl rfl rfl rfl ?_
         refine ol_r (r_pickF rfl rfl rfl) rfl ?_
         refine ol_nil (to_k0 (fun _ _ h => h) (hK18 _ _ _ _ _ ?_))
         clear hK18
         refine wp_condF rfl ?_
         refine wp_skip' (to_k0 (fun _ _ h => h) (hK11 _ _ _ _ _ ?_))
         clear hK11
         refine wp_reg ?_
         refine ol_r (r_move rfl) rfl ?_
         refine ol_r (r_add rfl rfl (by omega)) rfl ?_
         refine ol_r (r_assign rfl) rfl ?_
         refine ol_nil (to_k0 (fun _ _ h => h) (hK8 (k + 1) _ _ ?_ ?_ (sub_cons rfl sub_nil) (sub_cons rfl sub_nil) (by exact subH_nil) subH_nil))
         ·try dsimp only
          refine ⟨by omega, fun i hi => ?_⟩
          by_cases h : i < k
          · exact hP i h
          · have : i = k := by omega
            subst this
            rw [nameC_iff]
            simp only [Bool.and_eq_true, Bool.or_eq_true, Bool.and_eq_false_iff, Bool.or_eq_false_iff, decide_eq_true_eq, decide_eq_false_iff_not, Bool.not_eq_true', Bool.not_eq_false', Decidable.not_not, not_and, not_or, ne_eq] at *
            omega
         ·try dsimp only
          omega
       ·have phs32 := hs32; try simp only [decide_eq_true_eq, decide_eq_false_iff_not, Bool.not_eq_true', Bool.not_eq_false', Bool.not_true, Bool.not_false] at phs32
        refine ol_s rfl rfl hs32 rfl ?_
        refine ol_s rfl rfl hs32 rfl ?_
        refine ol_r (r_pickF rfl hs32 rfl) rfl ?_
        refine ol_r (r_assign rfl) rfl ?_
        refine ol_r (r_assign rfl) rfl ?_
        refine ol_nil (to_k0 (fun _ _ h => h) (hK13 _ _ _ _ _ ?_))
        clear hK13
        refine wp_seq' fun K20 hK20 => ?_
        refine wp_reg ?_
        refine ol_r (r_move rfl) rfl ?_
        refine ol_r (r_not rfl) rfl ?_
        refine ol_r (r_move rfl) rfl ?_
        refine ol_g rfl rfl rfl ?_
        refine ol_r (r_move rfl) rfl ?_
        refine ol_g rfl rfl rfl ?_
        refine ol_r (r_not rfl) rfl ?_
        refine ol_r (r_pickT rfl rfl rfl) rfl ?_
        refine ol_r (r_move rfl) rfl ?_
        refine ol_g rfl rfl rfl ?_
        refine ol_r (r_move rfl) rfl ?_
        refine ol_g rfl rfl rfl ?_
        refine ol_call rfl rfl cb84 rfl (fun w1 hb1 hs1 hB1 => Calls.mono (ref1_isDigit _ _) ?_)
        rintro e w2 ⟨rfl, hb2⟩
        refine After.below rfl hb1 hs1 hB1 hb2 ?_
        clear hb2 hB1 hs1 hb1 w2 w1
        refine ol_g rfl rfl rfl ?_
        refine ol_r (r_not rfl) rfl ?_
        refine ol_r (r_pickT rfl rfl rfl) rfl ?_
        refine ol_r (r_move rfl) rfl ?_
        refine ol_split (d := 47) rfl (fun hs47 => ?_) (fun hs47 => ?_)
        ·have phs47 := hs47; try simp only [decide_eq_true_eq, decide_eq_false_iff_not, Bool.not_eq_true', Bool.not_eq_false', Bool.not_true, Bool.not_false] at phs47
         refine ol_g rfl rfl hs47 ?_
         refine ol_r (r_move rfl) rfl ?_
         refine ol_g rfl rfl hs47 ?_
         refine ol_r (r_neq rfl rfl) rfl ?_
         refine ol_r (r_pickT rfl hs47 rfl) rfl ?_
         refine ol_r (r_move rfl) rfl ?_
         refine ol_split (d := 51) rfl (fun hs51 => ?_) (fun hs51 => ?_)
         ·have phs51 := hs51; try simp only [decide_eq_true_eq, decide_eq_false_iff_not, Bool.not_eq_true', Bool.not_eq_false', Bool.not_true, Bool.not_false] at phs51
          refine ol_g rfl rfl hs51 ?_
          refine ol_r (r_move rfl) rfl ?_
          refine ol_g rfl rfl hs51 ?_
          refine ol_r (r_neq rfl rfl) rfl ?_
          refine ol_r (r_pickT rfl hs51 rfl) rfl ?_
          refine ol_r (r_move rfl) rfl ?_
          refine ol_split (d := 55) rfl (fun hs55 => ?_) (fun hs55 => ?_)
          ·have phs55 := hs55; try simp only [decide_eq_true_eq, decide_eq_false_iff_not, Bool.not_eq_true', Bool.not_eq_false', Bool.not_true, Bool.not_false] at phs55
           refine ol_g rfl rfl hs55 ?_
           refine ol_r (r_move rfl) rfl ?_
           refine ol_g rfl rfl hs55 ?_
           refine ol_r (r_neq rfl rfl) rfl ?_
           refine ol_r (r_pickT rfl hs55 rfl) rfl ?_
           refine ol_nil (to_k0 (fun _ _ h => h) (hK20 _ _ _ _ _ ?_))
           clear hK20
           refine wp_condD rfl (fun hc58 => ?_) (fun hc58 => ?_)
           ·refine wp_seq' fun K21 hK21 => ?_
            refine wp_reg ?_
            refine ol_r (r_assign rfl) rfl ?_
            refine ol_nil (to_k0 (fun _ _ h => h) (hK21 _ _ _ _ _ ?_))
            clear hK21
            refine hQ.ret (rvs1 (rv_t rfl)) (fun _ _ h => h) fun w hb hs hB hkd => ?_
            first
              | (refine ⟨?_, hb⟩
                 have h1 : nameC (byteAt q k) = false := by
                   rw [nameC_not]
                   simp only [Bool.and_eq_true, Bool.or_eq_true, Bool.and_eq_false_iff, Bool.or_eq_false_iff, decide_eq_true_eq, decide_eq_false_iff_not, Bool.not_eq_true', Bool.not_eq_false', Decidable.not_not, not_and, not_or, ne_eq] at *
                   omega
                 have h2 : nameB q = false := by unfold nameB; rw [bytesAll_not (by omega) h1]; rfl
                 rw [h2]
                 done)
           ·refine wp_skip' (to_k0 (fun _ _ h => h) (hK11 _ _ _ _ _ ?_))
            clear hK11
            refine wp_reg ?_
            refine ol_r (r_move rfl) rfl ?_
            refine ol_r (r_add rfl rfl (by omega)) rfl ?_
            refine ol_r (r_assign rfl) rfl ?_
            refine ol_nil (to_k0 (fun _ _ h => h) (hK8 (k + 1) _ _ ?_ ?_ (sub_cons rfl sub_nil) (sub_cons rfl sub_nil) (by exact subH_nil) subH_nil))
            ·try dsimp only
             refine ⟨by omega, fun i hi => ?_⟩
             by_cases h : i < k
             · exact hP i h
             · have : i = k := by omega
               subst this
               rw [nameC_iff]
               simp only [Bool.and_eq_true, Bool.or_eq_true, Bool.and_eq_false_iff, Bool.or_eq_false_iff, decide_eq_true_eq, decide_eq_false_iff_not, Bool.not_eq_true', Bool.not_eq_false', Decidable.not_not, not_and, not_or, ne_eq] at *
               omega
            ·try dsimp only
             omega
          ·have phs55 := hs55; try simp only [decide_eq_true_eq, decide_eq_false_iff_not, Bool.not_eq_true', Bool.not_eq_false', Bool.not_true, Bool.not_false] at phs55
           refine ol_s rfl rfl hs55 rfl ?_
           refine ol_s rfl rfl hs55 rfl ?_
           refine ol_r (r_pickF rfl hs55 rfl) rfl ?_
           refine ol_nil (to_k0 (fun _ _ h => h) (hK20 _ _ _ _ _ ?_))
           clear hK20
           refine wp_condF rfl ?_
           refine wp_skip' (to_k0 (fun _ _ h => h) (hK11 _ _ _ _ _ ?_))
           clear hK11
           refine wp_reg ?_
           refine ol_r (r_move rfl) rfl ?_
           refine ol_r (r_add rfl rfl (by omega)) rfl ?_
           refine ol_r (r_assign rfl) rfl ?_
           refine ol_nil (to_k0 (fun _ _ h => h) (hK8 (k + 1) _ _ ?_ ?_ (sub_cons rfl sub_nil) (sub_cons rfl sub_nil) (by exact subH_nil) subH_nil))
           ·try dsimp only
            refine ⟨by omega, fun i hi => ?_⟩
            by_cases h : i < k
            · exact hP i h
            · have : i = k := by omega
              subst this
              rw [nameC_iff]
              simp only [Bool.and_eq_true, Bool.or_eq_true, Bool.and_eq_false_iff, Bool.or_eq_false_iff, decide_eq_true_eq, decide_eq_false_iff_not, Bool.not_eq_true', Bool.not_eq_false', Decidable.not_not, not_and, not_or, ne_eq] at *
              omega
           ·try dsimp only
            omega
         ·have phs51 := hs51; try simp only [decide_eq_true_eq, decide_eq_false_iff_not, Bool.not_eq_true', Bool.not_eq_false', Bool.not_true, Bool.not_false] at phs51
          refine ol_s rfl rfl hs51 rfl ?_
          refine ol_s rfl rfl hs51 rfl ?_
          refine ol_r (r_pickF rfl hs51 rfl) rfl ?_
          refine ol_r (r_move rfl) rfl ?_
          refine ol_s rfl rfl rfl rfl ?_
          refine ol_s rfl rfl rfl rfl ?_
          refine ol_r (r_pickF rfl rfl rfl) rfl ?_
          refine ol_nil (to_k0 (fun _ _ h => h) (hK20 _ _ _ _ _ ?_))
          clear hK20
          refine wp_condF rfl ?_
          refine wp_skip' (to_k0 (fun _ _ h => h) (hK11 _ _ _ _ _ ?_))
          clear hK11
          refine wp_reg ?_
          refine ol_r (r_move rfl) rfl ?_
          refine ol_r (r_add rfl rfl (by omega)) rfl ?_
          refine ol_r (r_assign rfl) rfl ?_
          refine ol_nil (to_k0 (fun _ _ h => h) (hK8 (k + 1) _ _ ?_ ?_ (sub_cons rfl sub_nil) (sub_cons rfl sub_nil) (by exact subH_nil) subH_nil))
          ·try dsimp only
           refine ⟨by omega, fun i hi => ?_⟩
           by_cases h : i < k
           · exact hP i h
           · have : i = k := by omega
             subst this
             rw [nameC_iff]
             simp only [Bool.and_eq_true, Bool.or_eq_true, Bool.and_eq_false_iff, Bool.or_eq_false_iff, decide_eq_true_eq, decide_eq_false_iff_not, Bool.not_eq_true', Bool.not_eq_false', Decidable.not_not, not_and, not_or, ne_eq] at *
             omega
          ·try dsimp only
           omega
        ·have phs47 := hs47; try simp only [decide_eq_true_eq, decide_eq_false_iff_not, Bool.not_eq_true', Bool.not_eq_false', Bool.not_true, Bool.not_false] at phs47
         refine ol_s rfl rfl hs47 rfl ?_
         refine ol_s rfl rfl hs47 rfl ?_
         refine ol_r (r_pickF rfl hs47 rfl) rfl ?_
         refine ol_r (r_move rfl) rfl ?_
         refine ol_s rfl rfl rfl rfl ?_
         refine ol_s rfl rfl rfl rfl ?_
         refine ol_r (r_pickF rfl rfl rfl) rfl ?_
         refine ol_r (r_move rfl) rfl ?_
         refine ol_s rfl rfl rfl rfl ?_
         refine ol_s rfl rfl rfl rfl ?_
         refine ol_r (r_pickF rfl rfl rfl) rfl ?_
         refine ol_nil (to_k0 (fun _ _ h => h) (hK20 _ _ _ _ _ ?_))
         clear hK20
         refine wp_condF rfl ?_
         refine wp_skip' (to_k0 (fun _ _ h => h) (hK11 _ _ _ _ _ ?_))
         clear hK11
         refine wp_reg ?_
         refine ol_r (r_move rfl) rfl ?_
         refine ol_r (r_add rfl rfl (by omega)) rfl ?_
         refine ol_r (r_assign rfl) rfl ?_
         refine ol_nil (to_k0 (fun _ _ h => h) (hK8 (k + 1) _ _ ?_ ?_ (sub_cons rfl sub_nil) (sub_cons rfl sub_nil) (by exact subH_nil) subH_nil))
         ·try dsimp only
          refine ⟨by omega, fun i hi => ?_⟩
          by_cases h : i < k
          · exact hP i h
          · have : i = k := by omega
            subst this
            rw [nameC_iff]
            simp only [Bool.and_eq_true, Bool.or_eq_true, Bool.and_eq_false_iff, Bool.or_eq_false_iff, decide_eq_true_eq, decide_eq_false_iff_not, Bool.not_eq_true', Bool.not_eq_false', Decidable.not_not, not_and, not_or, ne_eq] at *
            omega
         ·try dsimp only
          omega
     ·refine wp_exit' (to_k0 (fun _ _ h => h) (hK6 _ _ _ _ _ ?_))
      clear hK6
      refine wp_seq' fun K22 hK22 => ?_
      refine wp_reg ?_
      refine ol_r (r_assign rfl) rfl ?_
      refine ol_nil (to_k0 (fun _ _ h => h) (hK22 _ _ _ _ _ ?_))
      clear hK22
      refine hQ.ret (rvs1 (rv_t rfl)) (fun _ _ h => h) fun w hb hs hB hkd => ?_
      first
        | (refine ⟨?_, hb⟩
           have h1 : bytesAll nameC q = true := bytesAll_iff.2 fun i hi => hP i (by omega)
           unfold nameB
           rw [h1, decide_eq_true (show 1 ≤ q.size by omega), decide_eq_true (show q.size ≤ 60 by omega)]
           rfl)
theorem match_isPlace (x y : Int) (w : World) : Calls Try.prog 46 #[.agg #[.int .i64 x, .int .i64 y]] w fun e w' => e = .returned (.bool (ptB x y)) ∧ Below w.heap.size w w' := by
  refine enterQ (N := 11) (C := fun _ => True) (H := []) (B := w.heap.size) (args := [_]) Try.func46 rfl rfl rfl (Nat.le_refl _) (Sat.nil _ _) fun Q hQ => ?_
  refine wp_seq' fun K1 hK1 => ?_
  refine wp_reg ?_
  refine ol_box 1 rfl rfl rfl fun b1 => ?_
  refine ol_r (r_assign rfl) rfl ?_
  refine ol_nil (to_k0 (fun _ _ h => h) (hK1 _ _ _ _ _ ?_))
  clear hK1
  refine wp_seq' fun K2 hK2 => ?_
  refine wp_reg ?_
  refine ol_r (r_fa (o' := 0) rfl fl62_0 rfl) rfl ?_
  refine ol_r (r_ld (id := 1) rfl rfl rfl sc3) rfl ?_
  refine ol_call rfl rfl cb45 rfl (fun w1 hb1 hs1 hB1 => Calls.mono (match_in _ _ _ _) ?_)
  rintro e w2 ⟨rfl, hb2⟩
  refine After.below rfl hb1 hs1 hB1 hb2 ?_
  clear hb2 hB1 hs1 hb1 w2 w1
  refine ol_r (r_move rfl) rfl ?_
  refine ol_split (d := 6) rfl (fun hs6 => ?_) (fun hs6 => ?_)
  ·have phs6 := hs6; try simp only [decide_eq_true_eq, decide_eq_false_iff_not, Bool.not_eq_true', Bool.not_eq_false', Bool.not_true, Bool.not_false] at phs6
   refine ol_g rfl rfl hs6 ?_
   refine ol_r (r_fa (o' := 1) rfl fl62_1 rfl) rfl ?_
   refine ol_g rfl rfl hs6 ?_
   refine ol_r (r_ld (id := 1) rfl rfl rfl sc3) rfl ?_
   refine ol_g rfl rfl hs6 ?_
   refine ol_call rfl rfl cb45 rfl (fun w1 hb1 hs1 hB1 => Calls.mono (match_in _ _ _ _) ?_)
   rintro e w2 ⟨rfl, hb2⟩
   refine After.below rfl hb1 hs1 hB1 hb2 ?_
   clear hb2 hB1 hs1 hb1 w2 w1
   refine ol_r (r_pickT rfl hs6 rfl) rfl ?_
   refine ol_r (r_assign rfl) rfl ?_
   refine ol_nil (to_k0 (fun _ _ h => h) (hK2 _ _ _ _ _ ?_))
   clear hK2
   refine hQ.ret (rvs1 (rv_t rfl)) (fun _ _ h => h) fun w hb hs hB hkd => ?_
   refine ⟨?_, hb⟩
   unfold ptB
   first
     | (simp_all; done)
     | (congr 2; simp_all; done)
  ·have phs6 := hs6; try simp only [decide_eq_true_eq, decide_eq_false_iff_not, Bool.not_eq_true', Bool.not_eq_false', Bool.not_true, Bool.not_false] at phs6
   refine ol_s rfl rfl hs6 rfl ?_
   refine ol_s rfl rfl hs6 rfl ?_
   refine ol_s rfl rfl hs6 rfl ?_
   refine ol_r (r_pickF rfl hs6 rfl) rfl ?_
   refine ol_r (r_assign rfl) rfl ?_
   refine ol_nil (to_k0 (fun _ _ h => h) (hK2 _ _ _ _ _ ?_))
   clear hK2
   refine hQ.ret (rvs1 (rv_t rfl)) (fun _ _ h => h) fun w hb hs hB hkd => ?_
   refine ⟨?_, hb⟩
   unfold ptB
   first
     | (simp_all; done)
     | (congr 2; simp_all; done)
theorem ref5_isPoint (x y : Int) (w : World) : Calls Try.prog 49 #[.agg #[.int .i64 x, .int .i64 y]] w fun e w' => e = .returned (.bool (ptB x y)) ∧ Below w.heap.size w w' := by
  refine enterQ (N := 13) (C := fun _ => True) (H := []) (B := w.heap.size) (args := [_]) Try.func49 rfl rfl rfl (Nat.le_refl _) (Sat.nil _ _) fun Q hQ => ?_
  refine wp_seq' fun K1 hK1 => ?_
  refine wp_reg ?_
  refine ol_box 1 rfl rfl rfl fun b1 => ?_
  refine ol_r (r_assign rfl) rfl ?_
  refine ol_nil (to_k0 (fun _ _ h => h) (hK1 _ _ _ _ _ ?_))
  clear hK1
  refine wp_seq' fun K2 hK2 => ?_
  refine wp_reg ?_
  refine ol_r (r_fa (o' := 0) rfl fl62_0 rfl) rfl ?_
  refine ol_r (r_ld (id := 1) rfl rfl rfl sc3) rfl ?_
  refine ol_call rfl rfl cb48 rfl (fun w1 hb1 hs1 hB1 => Calls.mono (ref5_outside _ _ _ _) ?_)
  rintro e w2 ⟨rfl, hb2⟩
  refine After.below rfl hb1 hs1 hB1 hb2 ?_
  clear hb2 hB1 hs1 hb1 w2 w1
  refine ol_r (r_not rfl) rfl ?_
  refine ol_r (r_move rfl) rfl ?_
  refine ol_split (d := 7) rfl (fun hs7 => ?_) (fun hs7 => ?_)
  ·have phs7 := hs7; try simp only [decide_eq_true_eq, decide_eq_false_iff_not, Bool.not_eq_true', Bool.not_eq_false', Bool.not_true, Bool.not_false] at phs7
   refine ol_g rfl rfl hs7 ?_
   refine ol_r (r_fa (o' := 1) rfl fl62_1 rfl) rfl ?_
   refine ol_g rfl rfl hs7 ?_
   refine ol_r (r_ld (id := 1) rfl rfl rfl sc3) rfl ?_
   refine ol_g rfl rfl hs7 ?_
   refine ol_call rfl rfl cb48 rfl (fun w1 hb1 hs1 hB1 => Calls.mono (ref5_outside _ _ _ _) ?_)
   rintro e w2 ⟨rfl, hb2⟩
   refine After.below rfl hb1 hs1 hB1 hb2 ?_
   clear hb2 hB1 hs1 hb1 w2 w1
   refine ol_g rfl rfl hs7 ?_
   refine ol_r (r_not rfl) rfl ?_
   refine ol_r (r_pickT rfl hs7 rfl) rfl ?_
   refine ol_r (r_assign rfl) rfl ?_
   refine ol_nil (to_k0 (fun _ _ h => h) (hK2 _ _ _ _ _ ?_))
   clear hK2
   refine hQ.ret (rvs1 (rv_t rfl)) (fun _ _ h => h) fun w hb hs hB hkd => ?_
   refine ⟨?_, hb⟩
   unfold ptB
   first
     | (simp_all; done)
     | (congr 2; simp_all; done)
  ·have phs7 := hs7; try simp only [decide_eq_true_eq, decide_eq_false_iff_not, Bool.not_eq_true', Bool.not_eq_false', Bool.not_true, Bool.not_false] at phs7
   refine ol_s rfl rfl hs7 rfl ?_
   refine ol_s rfl rfl hs7 rfl ?_
   refine ol_s rfl rfl hs7 rfl ?_
   refine ol_s rfl rfl hs7 rfl ?_
   refine ol_r (r_pickF rfl hs7 rfl) rfl ?_
   refine ol_r (r_assign rfl) rfl ?_
   refine ol_nil (to_k0 (fun _ _ h => h) (hK2 _ _ _ _ _ ?_))
   clear hK2
   refine hQ.ret (rvs1 (rv_t rfl)) (fun _ _ h => h) fun w hb hs hB hkd => ?_
   refine ⟨?_, hb⟩
   unfold ptB
   first
     | (simp_all; done)
     | (congr 2; simp_all; done)
theorem pt_eqs {a b c d : Int} : eqs [.int .i64 a, .int .i64 b] [.int .i64 c, .int .i64 d] = (decide (a = c) && decide (b = d)) := by simp [eqs, eqV]
theorem pt_yes {a b c d : Int} (h : eqs [.int .i64 a, .int .i64 b] [.int .i64 c, .int .i64 d] = true) : a = c ∧ b = d := by rw [pt_eqs, Bool.and_eq_true, decide_eq_true_eq, decide_eq_true_eq] at h; exact h
theorem pt_no {a b c d : Int} (h : eqs [.int .i64 a, .int .i64 b] [.int .i64 c, .int .i64 d] = false) : ¬(a = c ∧ b = d) := by
  intro h2
  rw [pt_eqs, h2.1, h2.2] at h
  simp at h
theorem match_CheckSegment (nm : ByteArray) (a : Option Addr) (n c : Nat) (gs : List GateR) (w : World) (hn : nm.size ≤ 9223372036854775807) (hS : Rd encGate w.heap.size w a n c gs) :
    Calls Try.prog 15 #[.agg #[.string nm, .slice a n c]] w fun e w' => e = .returned (.int .i64 (chkSeg nm gs)) ∧ Below w.heap.size w w' := by
  have hsn := hS.len
  have hsf := hS.fit
  refine enterQ (N := 41) (C := fun _ => True) (H := []) (B := w.heap.size) (args := [_]) Try.func15 rfl rfl rfl (Nat.le_refl _) (Sat.nil _ _) fun Q hQ => ?_
  refine wp_seq' fun K1 hK1 => ?_
  refine wp_reg ?_
  refine ol_box 1 rfl rfl rfl fun b1 => ?_
  refine ol_r (r_assign rfl) rfl ?_
  refine ol_nil (to_k0 (fun _ _ h => h) (hK1 _ _ _ _ _ ?_))
  clear hK1
  refine wp_seq' fun K2 hK2 => ?_
  refine wp_block' ?_
  refine wp_seq' fun K3 hK3 => ?_
  refine wp_reg ?_
  refine ol_r (r_fa (o' := 0) rfl fl24_0 rfl) rfl ?_
  refine ol_r (r_ld (id := 1) rfl rfl rfl sc9) rfl ?_
  refine ol_call rfl rfl cb44 rfl (fun w1 hb1 hs1 hB1 => Calls.mono (quant_IsName nm _ hn) ?_)
  rintro e w2 ⟨rfl, hb2⟩
  refine After.below rfl hb1 hs1 hB1 hb2 ?_
  clear hb2 hB1 hs1 hb1 w2 w1
  refine ol_r (r_not rfl) rfl ?_
  refine ol_r (r_assign rfl) rfl ?_
  refine ol_nil (to_k0 (fun _ _ h => h) (hK3 _ _ _ _ _ ?_))
  clear hK3
  refine wp_condNB rfl (fun hc5 => ?_) (fun hc5 => ?_)
  ·refine wp_seq' fun K4 hK4 => ?_
   refine wp_reg ?_
   refine ol_r (r_assign rfl) rfl ?_
   refine ol_nil (to_k0 (fun _ _ h => h) (hK4 _ _ _ _ _ ?_))
   clear hK4
   refine hQ.ret (rvs1 (rv_t rfl)) (fun _ _ h => h) fun w hb hs hB hkd => ?_
   exact ⟨by rw [chkSeg_8 (by simpa using hc5)], hb⟩
  ·refine wp_seq' fun K5 hK5 => ?_
   refine wp_reg ?_
   refine ol_r (r_fa (o' := 1) rfl fl24_1 rfl) rfl ?_
   refine ol_r (r_ld (id := 1) rfl rfl rfl sc22) rfl ?_
   refine ol_r (r_len rfl sl22) rfl ?_
   refine ol_call rfl rfl cb45 rfl (fun w1 hb1 hs1 hB1 => Calls.mono (match_in _ _ _ _) ?_)
   rintro e w2 ⟨rfl, hb2⟩
   refine After.below rfl hb1 hs1 hB1 hb2 ?_
   clear hb2 hB1 hs1 hb1 w2 w1
   refine ol_r (r_not rfl) rfl ?_
   refine ol_r (r_assign rfl) rfl ?_
   refine ol_nil (to_k0 (fun _ _ h => h) (hK5 _ _ _ _ _ ?_))
   clear hK5
   refine wp_condNB rfl (fun hc10 => ?_) (fun hc10 => ?_)
   ·refine wp_seq' fun K6 hK6 => ?_
    refine wp_reg ?_
    refine ol_r (r_assign rfl) rfl ?_
    refine ol_nil (to_k0 (fun _ _ h => h) (hK6 _ _ _ _ _ ?_))
    clear hK6
    refine hQ.ret (rvs1 (rv_t rfl)) (fun _ _ h => h) fun w hb hs hB hkd => ?_
    exact ⟨by rw [chkSeg_3 (by simpa using hc5) (by subst hsn; simpa using hc10)], hb⟩
   ·refine wp_skip' (to_k0 (fun _ _ h => h) (hK2 _ _ _ _ _ ?_))
    clear hK2
    refine wp_seq' fun K7 hK7 => ?_
    refine wp_seq' fun K8 hK8 => ?_
    refine wp_reg ?_
    refine ol_r (r_fa (o' := 1) rfl fl24_1 rfl) rfl ?_
    refine ol_r (r_ld (id := 1) rfl rfl rfl sc22) rfl ?_
    refine ol_r (r_len rfl sl22) rfl ?_
    refine ol_r (r_move rfl) rfl ?_
    refine ol_nil (to_k0 (fun _ _ h => h) (hK8 _ _ _ _ _ ?_))
    clear hK8
    refine wp_block' ?_
    apply wp_loopM (σ := Nat) (fun s => s ≤ n ∧ chkE fG none gs = chkE fG (ahead gs s) (gs.drop s)) (fun s => [(19, .int .i64 s)]) [(17, _), (18, _)] (fun s => []) [(1, _)] (fun s => n - s) (0)
    ·try dsimp only
     exact ⟨Nat.zero_le _, chkE_start _ _⟩
    ·exact (sub_cons rfl sub_nil)
    ·exact (sub_cons rfl (sub_cons rfl sub_nil))
    ·exact subH_nil
    ·exact (subH_same rfl subH_nil)
    ·rintro k ⟨hk, hP⟩
     intro K9 hK9
     refine wp_seq' fun K10 hK10 => ?_
     refine wp_reg ?_
     refine ol_r (r_lss rfl rfl) rfl ?_
     refine ol_nil (to_k0 (fun _ _ h => h) (hK10 _ _ _ _ _ ?_))
     clear hK10
     refine wp_seq' fun K11 hK11 => ?_
     refine wp_condD rfl (fun hc20 => ?_) (fun hc20 => ?_)
     ·refine wp_skip' (to_k0 (fun _ _ h => h) (hK11 _ _ _ _ _ ?_))
      clear hK11
      refine wp_seq' fun K12 hK12 => ?_
      refine wp_block' ?_
      refine wp_seq' fun K13 hK13 => ?_
      refine wp_reg ?_
      refine ol_ixr hS rfl rfl sl22 (by omega) rfl fun x21 hx21 => ?_
      try simp only [Int.toNat_natCast] at hx21
      refine ol_r (r_ldw rfl (fun w1 hb1 hs1 hB1 => Rd.loads hS ty75 hx21 hb1)) rfl ?_
      refine ol_alloc 4 z75 rfl fun b4 => ?_
      refine ol_store (id := 4) rfl rfl rfl rfl sz75 rfl rfl (by first | decide | exact Nat.zero_lt_succ _ | simp) ?_
      refine ol_nil (to_k0 (fun _ _ h => h) (hK13 _ _ _ _ _ ?_))
      clear hK13
      refine wp_block' ?_
      refine wp_seq' fun K14 hK14 => ?_
      refine wp_reg ?_
      refine ol_r (r_fa (o' := 0) rfl fl75_0 rfl) rfl ?_
      refine ol_r (r_lda (id := 4) (n := 2) rfl rfl rfl ag62) rfl ?_
      refine ol_call rfl rfl cb46 rfl (fun w1 hb1 hs1 hB1 => Calls.mono (match_isPlace _ _ _) ?_)
      rintro e w2 ⟨rfl, hb2⟩
      refine After.below rfl hb1 hs1 hB1 hb2 ?_
      clear hb2 hB1 hs1 hb1 w2 w1
      refine ol_r (r_not rfl) rfl ?_
      refine ol_r (r_move rfl) rfl ?_
      refine ol_split (d := 28) rfl (fun hs28 => ?_) (fun hs28 => ?_)
      ·have phs28 := hs28; try simp only [decide_eq_true_eq, decide_eq_false_iff_not, Bool.not_eq_true', Bool.not_eq_false', Bool.not_true, Bool.not_false] at phs28
       refine ol_s rfl rfl hs28 rfl ?_
       refine ol_s rfl rfl hs28 rfl ?_
       refine ol_s rfl rfl hs28 rfl ?_
       refine ol_s rfl rfl hs28 rfl ?_
       refine ol_r (r_pickT rfl hs28 rfl) rfl ?_
       refine ol_r (r_assign rfl) rfl ?_
       refine ol_nil (to_k0 (fun _ _ h => h) (hK14 _ _ _ _ _ ?_))
       clear hK14
       refine wp_condT rfl ?_
       refine wp_seq' fun K15 hK15 => ?_
       refine wp_reg ?_
       refine ol_r (r_assign rfl) rfl ?_
       refine ol_nil (to_k0 (fun _ _ h => h) (hK15 _ _ _ _ _ ?_))
       clear hK15
       refine hQ.ret (rvs1 (rv_t rfl)) (fun _ _ h => h) fun w hb hs hB hkd => ?_
       have h := chkE_bad hP hx21 (fG_9 (.inl phs28)) (by simp)
       exact ⟨by rw [(chkSeg_g (by simpa using hc5) (by subst hsn; simpa using hc10)).trans h], hb⟩
      ·have phs28 := hs28; try simp only [decide_eq_true_eq, decide_eq_false_iff_not, Bool.not_eq_true', Bool.not_eq_false', Bool.not_true, Bool.not_false] at phs28
       refine ol_g rfl rfl hs28 ?_
       refine ol_r (r_fa (o' := 2) rfl fl75_1 rfl) rfl ?_
       refine ol_g rfl rfl hs28 ?_
       refine ol_r (r_lda (id := 4) (n := 2) rfl rfl rfl ag62) rfl ?_
       refine ol_g rfl rfl hs28 ?_
       refine ol_call rfl rfl cb46 rfl (fun w1 hb1 hs1 hB1 => Calls.mono (match_isPlace _ _ _) ?_)
       rintro e w2 ⟨rfl, hb2⟩
       refine After.below rfl hb1 hs1 hB1 hb2 ?_
       clear hb2 hB1 hs1 hb1 w2 w1
       refine ol_g rfl rfl hs28 ?_
       refine ol_r (r_not rfl) rfl ?_
       refine ol_r (r_pickF rfl hs28 rfl) rfl ?_
       refine ol_r (r_assign rfl) rfl ?_
       refine ol_nil (to_k0 (fun _ _ h => h) (hK14 _ _ _ _ _ ?_))
       clear hK14
       refine wp_condNB rfl (fun hc23 => ?_) (fun hc23 => ?_)
       ·refine wp_seq' fun K16 hK16 => ?_
        refine wp_reg ?_
        refine ol_r (r_assign rfl) rfl ?_
        refine ol_nil (to_k0 (fun _ _ h => h) (hK16 _ _ _ _ _ ?_))
        clear hK16
        refine hQ.ret (rvs1 (rv_t rfl)) (fun _ _ h => h) fun w hb hs hB hkd => ?_
        have h := chkE_bad hP hx21 (fG_9 (.inr hc23)) (by simp)
        exact ⟨by rw [(chkSeg_g (by simpa using hc5) (by subst hsn; simpa using hc10)).trans h], hb⟩
       ·refine wp_seq' fun K17 hK17 => ?_
        refine wp_reg ?_
        refine ol_r (r_fa (o' := 0) rfl fl75_0 rfl) rfl ?_
        refine ol_r (r_lda (id := 4) (n := 2) rfl rfl rfl ag62) rfl ?_
        refine ol_r (r_fa (o' := 2) rfl fl75_1 rfl) rfl ?_
        refine ol_r (r_lda (id := 4) (n := 2) rfl rfl rfl ag62) rfl ?_
        refine ol_r (r_eqs rfl rfl (by kernel_rfl) (fun w => run_eqs (by kernel_rfl) (by kernel_rfl) w)) rfl ?_
        refine ol_r (r_assign rfl) rfl ?_
        refine ol_nil (to_k0 (fun _ _ h => h) (hK17 _ _ _ _ _ ?_))
        clear hK17
        refine wp_cond' rfl (fun hc34 => ?_) (fun hc34 => ?_)
        ·refine wp_seq' fun K18 hK18 => ?_
         refine wp_reg ?_
         refine ol_r (r_assign rfl) rfl ?_
         refine ol_nil (to_k0 (fun _ _ h => h) (hK18 _ _ _ _ _ ?_))
         clear hK18
         refine hQ.ret (rvs1 (rv_t rfl)) (fun _ _ h => h) fun w hb hs hB hkd => ?_
         have h := chkE_bad hP hx21 (fG_2 phs28 hc23 (pt_yes hc34)) (by simp)
         exact ⟨by rw [(chkSeg_g (by simpa using hc5) (by subst hsn; simpa using hc10)).trans h], hb⟩
        ·refine wp_skip' (to_k0 (fun _ _ h => h) (hK12 _ _ _ _ _ ?_))
         clear hK12
         refine wp_reg ?_
         refine ol_r (r_add rfl rfl (by omega)) rfl ?_
         refine ol_r (r_move rfl) rfl ?_
         refine ol_nil (to_k0 (fun _ _ h => h) (hK9 (k + 1) _ _ ?_ ?_ (sub_cons rfl sub_nil) (sub_cons rfl (sub_cons rfl sub_nil)) (by exact subH_nil) (subH_same rfl subH_nil)))
         ·try dsimp only
          exact ⟨by omega, chkE_next hP hx21 (fG_0 phs28 hc23 (pt_no hc34))⟩
         ·try dsimp only
          omega
     ·refine wp_exit' (to_k0 (fun _ _ h => h) (hK7 _ _ _ _ _ ?_))
      clear hK7
      refine wp_seq' fun K19 hK19 => ?_
      refine wp_reg ?_
      refine ol_r (r_assign rfl) rfl ?_
      refine ol_nil (to_k0 (fun _ _ h => h) (hK19 _ _ _ _ _ ?_))
      clear hK19
      refine hQ.ret (rvs1 (rv_t rfl)) (fun _ _ h => h) fun w hb hs hB hkd => ?_
      exact ⟨by rw [(chkSeg_g (by simpa using hc5) (by subst hsn; simpa using hc10)).trans (chkE_end hP (by omega))], hb⟩
theorem ref5_CheckSegment (nm : ByteArray) (a : Option Addr) (n c : Nat) (gs : List GateR) (w : World) (hn : nm.size ≤ 9223372036854775807) (hS : Rd encGate w.heap.size w a n c gs) :
    Calls Try.prog 16 #[.agg #[.string nm, .slice a n c]] w fun e w' => e = .returned (.int .i64 (chkSeg nm gs)) ∧ Below w.heap.size w w' := by
  have hsn := hS.len
  have hsf := hS.fit
  refine enterQ (N := 36) (C := fun _ => True) (H := []) (B := w.heap.size) (args := [_]) Try.func16 rfl rfl rfl (Nat.le_refl _) (Sat.nil _ _) fun Q hQ => ?_
  refine wp_seq' fun K1 hK1 => ?_
  refine wp_reg ?_
  refine ol_box 1 rfl rfl rfl fun b1 => ?_
  refine ol_r (r_assign rfl) rfl ?_
  refine ol_nil (to_k0 (fun _ _ h => h) (hK1 _ _ _ _ _ ?_))
  clear hK1
  refine wp_seq' fun K2 hK2 => ?_
  refine wp_seq' fun K3 hK3 => ?_
  refine wp_reg ?_
  refine ol_r (r_fa (o' := 0) rfl fl24_0 rfl) rfl ?_
  refine ol_r (r_ld (id := 1) rfl rfl rfl sc9) rfl ?_
  refine ol_call rfl rfl cb47 rfl (fun w1 hb1 hs1 hB1 => Calls.mono (ref1_IsName nm _ hn) ?_)
  rintro e w2 ⟨rfl, hb2⟩
  refine After.below rfl hb1 hs1 hB1 hb2 ?_
  clear hb2 hB1 hs1 hb1 w2 w1
  refine ol_r (r_not rfl) rfl ?_
  refine ol_nil (to_k0 (fun _ _ h => h) (hK3 _ _ _ _ _ ?_))
  clear hK3
  refine wp_condNB rfl (fun hc8 => ?_) (fun hc8 => ?_)
  ·refine wp_seq' fun K4 hK4 => ?_
   refine wp_reg ?_
   refine ol_r (r_assign rfl) rfl ?_
   refine ol_nil (to_k0 (fun _ _ h => h) (hK4 _ _ _ _ _ ?_))
   clear hK4
   refine hQ.ret (rvs1 (rv_t rfl)) (fun _ _ h => h) fun w hb hs hB hkd => ?_
   exact ⟨by rw [chkSeg_8 (by simpa using hc8)], hb⟩
  ·refine wp_skip' (to_k0 (fun _ _ h => h) (hK2 _ _ _ _ _ ?_))
   clear hK2
   refine wp_seq' fun K5 hK5 => ?_
   refine wp_seq' fun K6 hK6 => ?_
   refine wp_reg ?_
   refine ol_r (r_fa (o' := 1) rfl fl24_1 rfl) rfl ?_
   refine ol_r (r_ld (id := 1) rfl rfl rfl sc22) rfl ?_
   refine ol_r (r_len rfl sl22) rfl ?_
   refine ol_call rfl rfl cb48 rfl (fun w1 hb1 hs1 hB1 => Calls.mono (ref5_outside _ _ _ _) ?_)
   rintro e w2 ⟨rfl, hb2⟩
   refine After.below rfl hb1 hs1 hB1 hb2 ?_
   clear hb2 hB1 hs1 hb1 w2 w1
   refine ol_nil (to_k0 (fun _ _ h => h) (hK6 _ _ _ _ _ ?_))
   clear hK6
   refine wp_condNB rfl (fun hc12 => ?_) (fun hc12 => ?_)
   ·refine wp_seq' fun K7 hK7 => ?_
    refine wp_reg ?_
    refine ol_r (r_assign rfl) rfl ?_
    refine ol_nil (to_k0 (fun _ _ h => h) (hK7 _ _ _ _ _ ?_))
    clear hK7
    refine hQ.ret (rvs1 (rv_t rfl)) (fun _ _ h => h) fun w hb hs hB hkd => ?_
    exact ⟨by rw [chkSeg_3 (by simpa using hc8) (by subst hsn; simpa using hc12)], hb⟩
   ·refine wp_skip' (to_k0 (fun _ _ h => h) (hK5 _ _ _ _ _ ?_))
    clear hK5
    refine wp_seq' fun K8 hK8 => ?_
    refine wp_seq' fun K9 hK9 => ?_
    refine wp_reg ?_
    refine ol_r (r_fa (o' := 1) rfl fl24_1 rfl) rfl ?_
    refine ol_r (r_ld (id := 1) rfl rfl rfl sc22) rfl ?_
    refine ol_r (r_len rfl sl22) rfl ?_
    refine ol_r (r_move rfl) rfl ?_
    refine ol_nil (to_k0 (fun _ _ h => h) (hK9 _ _ _ _ _ ?_))
    clear hK9
    refine wp_block' ?_
    apply wp_loopM (σ := Nat) (fun s => s ≤ n ∧ chkE fG none gs = chkE fG (ahead gs s) (gs.drop s)) (fun s => [(16, .int .i64 s)]) [(14, _), (15, _)] (fun s => []) [(1, _)] (fun s => n - s) (0)
    ·try dsimp only
     exact ⟨Nat.zero_le _, chkE_start _ _⟩
    ·exact (sub_cons rfl sub_nil)
    ·exact (sub_cons rfl (sub_cons rfl sub_nil))
    ·exact subH_nil
    ·exact (subH_same rfl subH_nil)
    ·rintro k ⟨hk, hP⟩
     intro K10 hK10
     refine wp_seq' fun K11 hK11 => ?_
     refine wp_reg ?_
     refine ol_r (r_lss rfl rfl) rfl ?_
     refine ol_nil (to_k0 (fun _ _ h => h) (hK11 _ _ _ _ _ ?_))
     clear hK11
     refine wp_seq' fun K12 hK12 => ?_
     refine wp_condD rfl (fun hc17 => ?_) (fun hc17 => ?_)
     ·refine wp_skip' (to_k0 (fun _ _ h => h) (hK12 _ _ _ _ _ ?_))
      clear hK12
      refine wp_seq' fun K13 hK13 => ?_
      refine wp_block' ?_
      refine wp_seq' fun K14 hK14 => ?_
      refine wp_reg ?_
      refine ol_ixr hS rfl rfl sl22 (by omega) rfl fun x18 hx18 => ?_
      try simp only [Int.toNat_natCast] at hx18
      refine ol_r (r_ldw rfl (fun w1 hb1 hs1 hB1 => Rd.loads hS ty75 hx18 hb1)) rfl ?_
      refine ol_alloc 4 z75 rfl fun b4 => ?_
      refine ol_store (id := 4) rfl rfl rfl rfl sz75 rfl rfl (by first | decide | exact Nat.zero_lt_succ _ | simp) ?_
      refine ol_nil (to_k0 (fun _ _ h => h) (hK14 _ _ _ _ _ ?_))
      clear hK14
      refine wp_seq' fun K15 hK15 => ?_
      refine wp_seq' fun K16 hK16 => ?_
      refine wp_reg ?_
      refine ol_r (r_fa (o' := 0) rfl fl75_0 rfl) rfl ?_
      refine ol_r (r_lda (id := 4) (n := 2) rfl rfl rfl ag62) rfl ?_
      refine ol_call rfl rfl cb49 rfl (fun w1 hb1 hs1 hB1 => Calls.mono (ref5_isPoint _ _ _) ?_)
      rintro e w2 ⟨rfl, hb2⟩
      refine After.below rfl hb1 hs1 hB1 hb2 ?_
      clear hb2 hB1 hs1 hb1 w2 w1
      refine ol_r (r_not rfl) rfl ?_
      refine ol_r (r_move rfl) rfl ?_
      refine ol_split (d := 24) rfl (fun hs24 => ?_) (fun hs24 => ?_)
      ·have phs24 := hs24; try simp only [decide_eq_true_eq, decide_eq_false_iff_not, Bool.not_eq_true', Bool.not_eq_false', Bool.not_true, Bool.not_false] at phs24
       refine ol_s rfl rfl hs24 rfl ?_
       refine ol_s rfl rfl hs24 rfl ?_
       refine ol_s rfl rfl hs24 rfl ?_
       refine ol_s rfl rfl hs24 rfl ?_
       refine ol_r (r_pickT rfl hs24 rfl) rfl ?_
       refine ol_nil (to_k0 (fun _ _ h => h) (hK16 _ _ _ _ _ ?_))
       clear hK16
       refine wp_condT rfl ?_
       refine wp_seq' fun K17 hK17 => ?_
       refine wp_reg ?_
       refine ol_r (r_assign rfl) rfl ?_
       refine ol_nil (to_k0 (fun _ _ h => h) (hK17 _ _ _ _ _ ?_))
       clear hK17
       refine hQ.ret (rvs1 (rv_t rfl)) (fun _ _ h => h) fun w hb hs hB hkd => ?_
       have h := chkE_bad hP hx18 (fG_9 (.inl phs24)) (by simp)
       exact ⟨by rw [(chkSeg_g (by simpa using hc8) (by subst hsn; simpa using hc12)).trans h], hb⟩
      ·have phs24 := hs24; try simp only [decide_eq_true_eq, decide_eq_false_iff_not, Bool.not_eq_true', Bool.not_eq_false', Bool.not_true, Bool.not_false] at phs24
       refine ol_g rfl rfl hs24 ?_
       refine ol_r (r_fa (o' := 2) rfl fl75_1 rfl) rfl ?_
       refine ol_g rfl rfl hs24 ?_
       refine ol_r (r_lda (id := 4) (n := 2) rfl rfl rfl ag62) rfl ?_
       refine ol_g rfl rfl hs24 ?_
       refine ol_call rfl rfl cb49 rfl (fun w1 hb1 hs1 hB1 => Calls.mono (ref5_isPoint _ _ _) ?_)
       rintro e w2 ⟨rfl, hb2⟩
       refine After.below rfl hb1 hs1 hB1 hb2 ?_
       clear hb2 hB1 hs1 hb1 w2 w1
       refine ol_g rfl rfl hs24 ?_
       refine ol_r (r_not rfl) rfl ?_
       refine ol_r (r_pickF rfl hs24 rfl) rfl ?_
       refine ol_nil (to_k0 (fun _ _ h => h) (hK16 _ _ _ _ _ ?_))
       clear hK16
       refine wp_condNB rfl (fun hc29 => ?_) (fun hc29 => ?_)
       ·refine wp_seq' fun K18 hK18 => ?_
        refine wp_reg ?_
        refine ol_r (r_assign rfl) rfl ?_
        refine ol_nil (to_k0 (fun _ _ h => h) (hK18 _ _ _ _ _ ?_))
        clear hK18
        refine hQ.ret (rvs1 (rv_t rfl)) (fun _ _ h => h) fun w hb hs hB hkd => ?_
        have h := chkE_bad hP hx18 (fG_9 (.inr hc29)) (by simp)
        exact ⟨by rw [(chkSeg_g (by simpa using hc8) (by subst hsn; simpa using hc12)).trans h], hb⟩
       ·refine wp_skip' (to_k0 (fun _ _ h => h) (hK15 _ _ _ _ _ ?_))
        clear hK15
        refine wp_seq' fun K19 hK19 => ?_
        refine wp_reg ?_
        refine ol_r (r_fa (o' := 0) rfl fl75_0 rfl) rfl ?_
        refine ol_r (r_lda (id := 4) (n := 2) rfl rfl rfl ag62) rfl ?_
        refine ol_r (r_fa (o' := 2) rfl fl75_1 rfl) rfl ?_
        refine ol_r (r_lda (id := 4) (n := 2) rfl rfl rfl ag62) rfl ?_
        refine ol_r (r_eqs rfl rfl (by kernel_rfl) (fun w => run_eqs (by kernel_rfl) (by kernel_rfl) w)) rfl ?_
        refine ol_nil (to_k0 (fun _ _ h => h) (hK19 _ _ _ _ _ ?_))
        clear hK19
        refine wp_cond' rfl (fun hc34 => ?_) (fun hc34 => ?_)
        ·refine wp_seq' fun K20 hK20 => ?_
         refine wp_reg ?_
         refine ol_r (r_assign rfl) rfl ?_
         refine ol_nil (to_k0 (fun _ _ h => h) (hK20 _ _ _ _ _ ?_))
         clear hK20
         refine hQ.ret (rvs1 (rv_t rfl)) (fun _ _ h => h) fun w hb hs hB hkd => ?_
         have h := chkE_bad hP hx18 (fG_2 phs24 hc29 (pt_yes hc34)) (by simp)
         exact ⟨by rw [(chkSeg_g (by simpa using hc8) (by subst hsn; simpa using hc12)).trans h], hb⟩
        ·refine wp_skip' (to_k0 (fun _ _ h => h) (hK13 _ _ _ _ _ ?_))
         clear hK13
         refine wp_reg ?_
         refine ol_r (r_add rfl rfl (by omega)) rfl ?_
         refine ol_r (r_move rfl) rfl ?_
         refine ol_nil (to_k0 (fun _ _ h => h) (hK10 (k + 1) _ _ ?_ ?_ (sub_cons rfl sub_nil) (sub_cons rfl (sub_cons rfl sub_nil)) (by exact subH_nil) (subH_same rfl subH_nil)))
         ·try dsimp only
          exact ⟨by omega, chkE_next hP hx18 (fG_0 phs24 hc29 (pt_no hc34))⟩
         ·try dsimp only
          omega
     ·refine wp_exit' (to_k0 (fun _ _ h => h) (hK8 _ _ _ _ _ ?_))
      clear hK8
      refine wp_seq' fun K21 hK21 => ?_
      refine wp_reg ?_
      refine ol_r (r_assign rfl) rfl ?_
      refine ol_nil (to_k0 (fun _ _ h => h) (hK21 _ _ _ _ _ ?_))
      clear hK21
      refine hQ.ret (rvs1 (rv_t rfl)) (fun _ _ h => h) fun w hb hs hB hkd => ?_
      exact ⟨by rw [(chkSeg_g (by simpa using hc8) (by subst hsn; simpa using hc12)).trans (chkE_end hP (by omega))], hb⟩
def bIx (n : Nat) : Nat → Int
  | 0 => (n : Int) - 1
  | k + 1 => bIx n k - 1
theorem bIx_eq (n : Nat) : ∀ k, bIx n k = (n : Int) - 1 - k
  | 0 => by rw [bIx]; omega
  | k + 1 => by rw [bIx, bIx_eq n k]; omega
theorem back_iter (B b : Nat) (w0 : World) (a : Option Addr) (n c : Nat) (gs : List GateR) (hA : Rd encGate B w0 a n c gs) :
    Iter Try.prog 82 [.pointer (some ⟨b, 0, none⟩)] (fun x : Int × GateR => [.int .i64 x.1, .agg #[.int .i64 x.2.ax, .int .i64 x.2.ay, .int .i64 x.2.bx, .int .i64 x.2.by_]]) (backP gs) (fun W => Below B w0 W ∧ (∃ T, Sat B W [(100, .blk b [(0, .slice a n c)] T)]) ∧ B ≤ W.heap.size) := by
  intro l J Jx W hRq hJb hJx hY h0
  have hsn := hA.len
  have hsf := hA.fit
  have hlen := backP_len gs
  obtain ⟨q1, ⟨T0, q2⟩, q3⟩ := hRq 0 W h0
  have hc : Blk W.heap.size W b [(0, .slice a n c)] := q2.blk (id := 100) rfl
  have hS := hA.at q1 q3
  refine enterI (n := 19) (args := [_, _]) Try.func82 rfl rfl rfl rfl fun Q hQ => ?_
  refine wp_seq' fun K1 hK1 => ?_
  refine wp_reg ?_
  refine ol_r (r_ldw rfl (fun w1 hb1 hs1 hB1 => Blk.loads (o := 0) hc hb1 sc22 rfl)) rfl ?_
  refine ol_r (r_len rfl sl22) rfl ?_
  refine ol_r (r_sub rfl rfl (by omega)) rfl ?_
  refine ol_r (r_assign rfl) rfl ?_
  refine ol_nil (to_k0 (fun _ _ h => h) (hK1 _ _ _ _ _ ?_))
  clear hK1
  refine wp_block' ?_
  refine wp_loopI (J := J) (fun k => [(3, .int .i64 (bIx n k)), (0, .func (.yield l) #[] #[]), (1, .pointer (some ⟨b, 0, none⟩))]) (fun k => k ≤ gs.length) (fun k => gs.length - k) (0) ?_ ?_ ?_ ?_
  ·try dsimp only
   omega
  ·exact (sub_cons rfl (sub_cons rfl (sub_cons rfl sub_nil)))
  ·intro w hb hB
   exact hJb 0 W w h0 hb
  ·intro k W1 hI hJ
   obtain ⟨q1, ⟨T, q2⟩, q3⟩ := hRq k W1 hJ
   have hc : Blk W1.heap.size W1 b [(0, .slice a n c)] := q2.blk (id := 100) rfl
   have hS := hA.at q1 q3
   have hix := bIx_eq n k
   intro K2 hK2
   refine wp_seq' fun K3 hK3 => ?_
   refine wp_seq' fun K4 hK4 => ?_
   refine wp_reg ?_
   refine ol_r (r_move rfl) rfl ?_
   refine ol_r (r_geq rfl rfl) rfl ?_
   refine ol_nil (to_k0 (fun _ _ h => h) (hK4 _ _ _ _ _ ?_))
   clear hK4
   refine wp_condD rfl (fun hc8 => ?_) (fun hc8 => ?_)
   ·refine wp_skip' (to_k0 (fun _ _ h => h) (hK3 _ _ _ _ _ ?_))
    clear hK3
    refine wp_seq' fun K5 hK5 => ?_
    refine wp_block' ?_
    refine wp_seq' fun K6 hK6 => ?_
    refine wp_regi rfl ?_
    refine oli_r (r_move rfl) rfl ?_
    refine oli_r (r_move rfl) rfl ?_
    refine oli_r (r_ldw rfl (fun w1 hb1 hs1 hB1 => Blk.loads (o := 0) hc hb1 sc22 rfl)) rfl ?_
    refine oli_r (r_move rfl) rfl ?_
    refine oli_ixr hS rfl rfl sl22 (by omega) rfl fun x15 hx15 => ?_
    try simp only [Int.toNat_natCast] at hx15
    refine oli_r (r_ldw rfl (fun w1 hb1 hs1 hB1 => Rd.loads hS ty75 hx15 hb1)) rfl ?_
    have h15 : gs[gs.length - 1 - k]? = some x15 := by rw [← hx15]; congr 1; omega
    refine oli_yield rfl rfl rfl rfl rfl (fun w1 hb1 hs1 hB1 => ?_)
    obtain ⟨fn, tm, asg, bo, hy, hR⟩ := hY k (bIx n k, x15) w1 (backP_get (by omega) h15 (by omega)) (hJb k W1 w1 hJ hb1)
    refine ⟨fn, tm, asg, bo, hy, hR.mono ?_⟩
    intro e w2 he
    obtain ⟨bb, rfl, hT, hF⟩ : ∃ bb, e = .returned (.bool bb) ∧ (bb = true → J (k + 1) w2) ∧ (bb = false → Jx w2) := by
      rcases he with ⟨rfl, h⟩ | ⟨rfl, h⟩
      · exact ⟨true, rfl, fun _ => h, fun h => by cases h⟩
      · exact ⟨false, rfl, fun h => (by cases h), fun _ => h⟩
    refine ⟨_, rfl, ?_⟩
    refine oli_r (r_not rfl) rfl ?_
    refine oli_nil (to_k0 (fun _ _ h => h) (hK6 _ _ _ _ _ ?_))
    clear hK6
    refine wp_condNB rfl (fun hc18 => ?_) (fun hc18 => ?_)
    ·refine hQ.ret (fun _ _ h => h) fun w hb hs hB => ?_
     exact .inr (hJx _ _ (hF hc18) hb)
    ·refine wp_skip' (to_k0 (fun _ _ h => h) (hK5 _ _ _ _ _ ?_))
     clear hK5
     refine wp_reg ?_
     refine ol_r (r_move rfl) rfl ?_
     refine ol_r (r_sub rfl rfl (by omega)) rfl ?_
     refine ol_r (r_assign rfl) rfl ?_
     refine ol_nil (to_k0 (fun _ _ h => h) (hK2 (k + 1) _ _ _ _ ?_ ?_ (by exact (sub_cons rfl (sub_cons rfl (sub_cons rfl sub_nil)))) ?_))
     ·try dsimp only
      omega
     ·try dsimp only
      omega
     ·intro w hb hB
      exact hJb (k + 1) _ w (hT hc18) hb
   ·refine wp_exit' (hQ.fall (fun _ _ h => h) fun w hb hs hB => ?_)
    have hk : k = (backP gs).length := by omega
    exact .inl (hk ▸ hJb k _ w hJ hb)
theorem slices_Backward (a : Option Addr) (n c : Nat) (gs : List GateR) (w : World) (hA : Rd encGate w.heap.size w a n c gs) :
    Calls Try.prog 43 #[.slice a n c] w fun e w' => ∃ b T, e = .returned (.func (.func 82) #[] #[.pointer (some ⟨b, 0, none⟩)]) ∧ Below w.heap.size w w' ∧ Sat w.heap.size w' [(1001, .blk b [(0, .slice a n c)] T)] := by
  refine enterQ (N := 4) (C := fun _ => True) (H := []) (B := w.heap.size) (args := [_]) Try.func43 rfl rfl rfl (Nat.le_refl _) (Sat.nil _ _) fun Q hQ => ?_
  refine wp_seq' fun K1 hK1 => ?_
  refine wp_reg ?_
  refine ol_box 1 rfl rfl rfl fun b1 => ?_
  refine ol_r (r_assign rfl) rfl ?_
  refine ol_nil (to_k0 (fun _ _ h => h) (hK1 _ _ _ _ _ ?_))
  clear hK1
  refine wp_seq' fun K2 hK2 => ?_
  refine wp_reg ?_
  refine ol_r (r_func rfl) rfl ?_
  refine ol_r (r_assign rfl) rfl ?_
  refine ol_nil (to_k0 (fun _ _ h => h) (hK2 _ _ _ _ _ ?_))
  clear hK2
  refine hQ.ret (rvs1 (rv_t rfl)) (fun _ _ h => h) fun w hb hs hB hkd => ?_
  exact ⟨_, _, rfl, hb, hs.one 1 1001 rfl ⟨rfl, rfl, Sub.out (sub_cons rfl sub_nil)⟩⟩
theorem match_Turned (nm : ByteArray) (a : Option Addr) (n c : Nat) (gs : List GateR) (w : World) (hn : nm.size ≤ 9223372036854775807) (hS : Rd encGate w.heap.size w a n c gs) :
    Calls Try.prog 13 #[.agg #[.string nm, .slice a n c]] w fun e w' => ∃ b m k, e = .returned (.tuple #[.agg #[.string (turnR nm gs).1, .slice b m k], .int .i64 (turnR nm gs).2.2]) ∧ Fresh encGate 75 w w' b m k (turnR nm gs).2.1 := by
  have hsn := hS.len
  have hsf := hS.fit
  have hbl := backP_len gs
  refine enterQ (N := 33) (C := fun _ => True) (H := []) (B := w.heap.size) (args := [_]) Try.func13 rfl rfl rfl (Nat.le_refl _) (Sat.nil _ _) fun Q hQ => ?_
  refine wp_seq' fun K1 hK1 => ?_
  refine wp_reg ?_
  refine ol_box 1 rfl rfl rfl fun b1 => ?_
  refine ol_alloc 2 z24 rfl fun b2 => ?_
  refine ol_r (r_assign rfl) rfl ?_
  refine ol_nil (to_k0 (fun _ _ h => h) (hK1 _ _ _ _ _ ?_))
  clear hK1
  refine wp_seq' fun K2 hK2 => ?_
  refine wp_seq' fun K3 hK3 => ?_
  refine wp_reg ?_
  refine ol_r (r_lda (id := 1) (n := 2) rfl rfl rfl ag24) rfl ?_
  refine ol_call rfl rfl cb15 rfl (fun w1 hb1 hs1 hB1 => Calls.mono (match_CheckSegment nm _ _ _ gs _ hn (hS.at hb1 hB1)) ?_)
  rintro e w2 ⟨rfl, hb2⟩
  refine After.below rfl hb1 hs1 hB1 hb2 ?_
  clear hb2 hB1 hs1 hb1 w2 w1
  refine ol_r (r_assign rfl) rfl ?_
  refine ol_nil (to_k0 (fun _ _ h => h) (hK3 _ _ _ _ _ ?_))
  clear hK3
  refine wp_seq' fun K4 hK4 => ?_
  refine wp_reg ?_
  refine ol_r (r_move rfl) rfl ?_
  refine ol_r (r_neq rfl rfl) rfl ?_
  refine ol_nil (to_k0 (fun _ _ h => h) (hK4 _ _ _ _ _ ?_))
  clear hK4
  refine wp_condD rfl (fun hc11 => ?_) (fun hc11 => ?_)
  ·refine wp_seq' fun K5 hK5 => ?_
   refine wp_reg ?_
   refine ol_r (r_build rfl (fun _ => bd24 _)) rfl ?_
   refine ol_r (r_move rfl) rfl ?_
   refine ol_store (id := 2) rfl rfl rfl rfl sz24 rfl rfl (by first | decide | exact Nat.zero_lt_succ _ | simp) ?_
   refine ol_r (r_assign rfl) rfl ?_
   refine ol_nil (to_k0 (fun _ _ h => h) (hK5 _ _ _ _ _ ?_))
   clear hK5
   refine hQ.ret (rvs2 (rv_c (id := 2) (n := 2) rfl rfl ag24 rfl) (rv_t rfl)) (fun _ _ h => h) fun w hb hs hB hkd => ?_
   have h := turnR_e hc11
   exact ⟨none, 0, 0, by rw [h]; try rfl, by rw [h]; exact Fresh.nil hb⟩
  ·refine wp_skip' (to_k0 (fun _ _ h => h) (hK2 _ _ _ _ _ ?_))
   clear hK2
   refine wp_seq' fun K6 hK6 => ?_
   refine wp_reg ?_
   refine ol_r (r_fa (o' := 0) rfl fl24_0 rfl) rfl ?_
   refine ol_r (r_ld (id := 1) rfl rfl rfl sc9) rfl ?_
   refine ol_r (r_build rfl (fun _ => bd24_0 _ _)) rfl ?_
   refine ol_alloc 5 z24 rfl fun b5 => ?_
   refine ol_store (id := 5) rfl rfl rfl rfl sz24 rfl rfl (by first | decide | exact Nat.zero_lt_succ _ | simp) ?_
   refine ol_nil (to_k0 (fun _ _ h => h) (hK6 _ _ _ _ _ ?_))
   clear hK6
   refine wp_seq' fun K7 hK7 => ?_
   refine wp_seq' fun K8 hK8 => ?_
   refine wp_reg ?_
   have hok := segOk (Decidable.not_not.1 hc11)
   have hl50 := hok.len
   refine ol_nilrow 60 75 4 ?_
   refine ol_r (r_fa (o' := 1) rfl fl24_1 rfl) rfl ?_
   refine ol_r (r_ld (id := 1) rfl rfl rfl sc22) rfl ?_
   refine ol_call rfl rfl cb43 rfl (fun w1 hb1 hs1 hB1 => ?_)
   refine Calls.mono (slices_Backward _ _ _ gs _ (hS.at hb1 hB1)) ?_
   rintro e w2 ⟨b0, T0, rfl, hb2, hs2⟩
   refine After.more rfl hb1 hs1 hB1 hb2 hs2 ?_
   clear hs2 hb2 hB1 hs1 hb1 w2 w1
   refine ol_nil (to_k0 (fun _ _ h => h) (hK8 _ _ _ _ _ ?_))
   clear hK8
   refine wp_block' ?_
   refine wp_rf (σ := Option Addr × Nat) (τ := Unit) (encs := fun x : Int × GateR => [.int .i64 x.1, .agg #[.int .i64 x.2.ax, .int .i64 x.2.ay, .int .i64 x.2.bx, .int .i64 x.2.by_]]) (zs := backP gs) rfl cb82 (back_iter _ b0 _ _ _ _ gs hS) (by rfl) (by rfl) (by rfl) (fun _ => rfl) (fun k s => k ≤ gs.length) (fun k s => [(5, .blk b5 [(0, .string nm), (1, .slice s.1 k s.2)] 24), (60, .row s.1 k s.2 (encGate.enc (turnK gs k)) 75 4)]) [(1, _), (2, _), (1001, _)] (fun t => False) (fun t => []) ((_, _)) ?_ (by exact (subH_blk rfl (sub_cons rfl (sub_cons rfl sub_nil)) (subH_row rfl (by rfl) subH_nil))) (subH_same rfl (subH_same rfl (subH_same rfl subH_nil))) ?_ ?_ ?_ ?_
   ·try dsimp only
    omega
   ·intro k s W hI hbW hsW hBW
    exact ⟨hbW, ⟨_, hsW.one 1001 100 rfl (Ent.le_refl _)⟩, hBW⟩
   ·rintro k x ⟨oa, oc⟩ B0 W hx hI hbW hBW hB0
    have hxx := backP_inv hx
    dsimp only at hI ⊢
    intro Ka9 hKa9
    simp only [alp]
    refine wp_reg ?_
    refine ol_alloc 7 z75 rfl fun b7 => ?_
    refine ol_store (id := 7) rfl rfl rfl rfl sz75 rfl rfl (by first | decide | exact Nat.zero_lt_succ _ | simp) ?_
    refine ol_nil (to_k0 (fun _ _ h => h) (hKa9 _ _ fun Wb R hbw hBw hn hr => ?_))
    refine wp_block' ?_
    refine wp_reg ?_
    refine ol_r (r_fa (o' := 1) rfl fl24_1 rfl) rfl ?_
    refine ol_r (r_ld (id := 5) rfl rfl rfl sc22) rfl ?_
    refine ol_r (r_fa (o' := 2) rfl fl75_1 rfl) rfl ?_
    refine ol_r (r_lda (id := 7) (n := 2) rfl rfl rfl ag62) rfl ?_
    refine ol_r (r_fa (o' := 0) rfl fl75_0 rfl) rfl ?_
    refine ol_r (r_lda (id := 7) (n := 2) rfl rfl rfl ag62) rfl ?_
    refine ol_r (r_build rfl (fun _ => bd75_0_1 _ _ _ _ _)) rfl ?_
    refine ol_bs1 29 rfl rfl rw22 rfl rfl rfl fun a29 => ?_
    refine ol_append1 (id := 60) (id2 := 29) rfl rfl rfl rfl rfl rw22 (by omega) rfl fun a30 c30 => ?_
    refine ol_r (r_fa (o' := 1) rfl fl24_1 rfl) rfl ?_
    refine ol_store (id := 5) rfl rfl rfl rfl sz22 rfl rfl (by first | decide | exact Nat.zero_lt_succ _ | simp) ?_
    refine ol_nil (QP.of (hn ((_, _)) _ _ ?_ (by exact (subH_blk rfl (sub_cons rfl (sub_cons rfl sub_nil)) (subH_row rfl (by rw [turnK_succ hxx.1 hxx.2, Enc.enc_append]; rfl) subH_nil))) (subH_same rfl (subH_same rfl (subH_same rfl subH_nil)))) (fun _ _ h => h))
    try dsimp only
    omega
   ·rintro s dd hI
    refine (to_k0 (fun _ _ h => h) (hK7 _ _ _ _ _ ?_))
    clear hK7
    refine wp_seq' fun K10 hK10 => ?_
    refine wp_reg ?_
    refine ol_r (r_lda (id := 5) (n := 2) rfl rfl rfl ag24) rfl ?_
    refine ol_store (id := 2) rfl rfl rfl rfl sz24 rfl rfl (by first | decide | exact Nat.zero_lt_succ _ | simp) ?_
    refine ol_r (r_assign rfl) rfl ?_
    refine ol_nil (to_k0 (fun _ _ h => h) (hK10 _ _ _ _ _ ?_))
    clear hK10
    refine hQ.ret (rvs2 (rv_c (id := 2) (n := 2) rfl rfl ag24 rfl) (rv_t rfl)) (fun _ _ h => h) fun w hb hs hB hkd => ?_
    have h := turnR_0 (Decidable.not_not.1 hc11)
    have h6 := hs.ok 60 _ rfl
    rw [turnK_all (by omega)] at h6
    exact ⟨_, _, _, by rw [h], hb, by rw [h]; exact h6⟩
   ·exact fun t dd hI => hI.elim
theorem ref5_Turned (nm : ByteArray) (a : Option Addr) (n c : Nat) (gs : List GateR) (w : World) (hn : nm.size ≤ 9223372036854775807) (hS : Rd encGate w.heap.size w a n c gs) :
    Calls Try.prog 14 #[.agg #[.string nm, .slice a n c]] w fun e w' => ∃ b m k, e = .returned (.tuple #[.agg #[.string (turnR nm gs).1, .slice b m k], .int .i64 (turnR nm gs).2.2]) ∧ Fresh encGate 75 w w' b m k (turnR nm gs).2.1 := by
  have hsn := hS.len
  have hsf := hS.fit
  refine enterQ (N := 43) (C := fun _ => True) (H := []) (B := w.heap.size) (args := [_]) Try.func14 rfl rfl rfl (Nat.le_refl _) (Sat.nil _ _) fun Q hQ => ?_
  refine wp_seq' fun K1 hK1 => ?_
  refine wp_reg ?_
  refine ol_box 1 rfl rfl rfl fun b1 => ?_
  refine ol_alloc 2 z24 rfl fun b2 => ?_
  refine ol_r (r_assign rfl) rfl ?_
  refine ol_nil (to_k0 (fun _ _ h => h) (hK1 _ _ _ _ _ ?_))
  clear hK1
  refine wp_seq' fun K2 hK2 => ?_
  refine wp_seq' fun K3 hK3 => ?_
  refine wp_reg ?_
  refine ol_r (r_lda (id := 1) (n := 2) rfl rfl rfl ag24) rfl ?_
  refine ol_call rfl rfl cb16 rfl (fun w1 hb1 hs1 hB1 => Calls.mono (ref5_CheckSegment nm _ _ _ gs _ hn (hS.at hb1 hB1)) ?_)
  rintro e w2 ⟨rfl, hb2⟩
  refine After.below rfl hb1 hs1 hB1 hb2 ?_
  clear hb2 hB1 hs1 hb1 w2 w1
  refine ol_r (r_assign rfl) rfl ?_
  refine ol_nil (to_k0 (fun _ _ h => h) (hK3 _ _ _ _ _ ?_))
  clear hK3
  refine wp_seq' fun K4 hK4 => ?_
  refine wp_reg ?_
  refine ol_r (r_move rfl) rfl ?_
  refine ol_r (r_neq rfl rfl) rfl ?_
  refine ol_nil (to_k0 (fun _ _ h => h) (hK4 _ _ _ _ _ ?_))
  clear hK4
  refine wp_condD rfl (fun hc10 => ?_) (fun hc10 => ?_)
  ·refine wp_seq' fun K5 hK5 => ?_
   refine wp_reg ?_
   refine ol_r (r_build rfl (fun _ => bd24 _)) rfl ?_
   refine ol_r (r_move rfl) rfl ?_
   refine ol_store (id := 2) rfl rfl rfl rfl sz24 rfl rfl (by first | decide | exact Nat.zero_lt_succ _ | simp) ?_
   refine ol_r (r_assign rfl) rfl ?_
   refine ol_nil (to_k0 (fun _ _ h => h) (hK5 _ _ _ _ _ ?_))
   clear hK5
   refine hQ.ret (rvs2 (rv_c (id := 2) (n := 2) rfl rfl ag24 rfl) (rv_t rfl)) (fun _ _ h => h) fun w hb hs hB hkd => ?_
   have h := turnR_e hc10
   exact ⟨none, 0, 0, by rw [h]; try rfl, by rw [h]; exact Fresh.nil hb⟩
  ·refine wp_skip' (to_k0 (fun _ _ h => h) (hK2 _ _ _ _ _ ?_))
   clear hK2
   refine wp_seq' fun K6 hK6 => ?_
   refine wp_reg ?_
   refine ol_r (r_fa (o' := 0) rfl fl24_0 rfl) rfl ?_
   refine ol_r (r_ld (id := 1) rfl rfl rfl sc9) rfl ?_
   refine ol_r (r_build rfl (fun _ => bd24_0 _ _)) rfl ?_
   refine ol_alloc 5 z24 rfl fun b5 => ?_
   refine ol_store (id := 5) rfl rfl rfl rfl sz24 rfl rfl (by first | decide | exact Nat.zero_lt_succ _ | simp) ?_
   refine ol_nil (to_k0 (fun _ _ h => h) (hK6 _ _ _ _ _ ?_))
   clear hK6
   refine wp_seq' fun K7 hK7 => ?_
   refine wp_seq' fun K8 hK8 => ?_
   refine wp_reg ?_
   have hok := segOk (Decidable.not_not.1 hc10)
   have hl50 := hok.len
   refine ol_nilrow 60 75 4 ?_
   refine ol_r (r_fa (o' := 1) rfl fl24_1 rfl) rfl ?_
   refine ol_r (r_ld (id := 1) rfl rfl rfl sc22) rfl ?_
   refine ol_r (r_len rfl sl22) rfl ?_
   refine ol_r (r_sub rfl rfl (by omega)) rfl ?_
   refine ol_r (r_assign rfl) rfl ?_
   refine ol_nil (to_k0 (fun _ _ h => h) (hK8 _ _ _ _ _ ?_))
   clear hK8
   refine wp_block' ?_
   apply wp_loopM (σ := Nat × Option Addr × Nat) (fun s => s.1 ≤ gs.length) (fun s => [(6, .int .i64 (bIx n s.1))]) [(1, _), (2, _), (3, _), (5, _)] (fun s => [(5, .blk b5 [(0, .string nm), (1, .slice s.2.1 s.1 s.2.2)] 24), (60, .row s.2.1 s.1 s.2.2 (encGate.enc (turnK gs s.1)) 75 4)]) [(1, _), (2, _)] (fun s => gs.length - s.1) ((0, none, 0))
   ·try dsimp only
    exact Nat.zero_le _
   ·exact (sub_cons rfl sub_nil)
   ·exact (sub_cons rfl (sub_cons rfl (sub_cons rfl (sub_cons rfl sub_nil))))
   ·exact (subH_blk rfl (sub_cons rfl (sub_cons rfl sub_nil)) (subH_row rfl (by dsimp only; rfl) subH_nil))
   ·exact (subH_same rfl (subH_same rfl subH_nil))
   ·rintro ⟨k, oa, oc⟩ hk
    dsimp only at hk ⊢
    have hix := bIx_eq n k
    intro K9 hK9
    refine wp_seq' fun K10 hK10 => ?_
    refine wp_seq' fun K11 hK11 => ?_
    refine wp_reg ?_
    refine ol_r (r_move rfl) rfl ?_
    refine ol_r (r_geq rfl rfl) rfl ?_
    refine ol_nil (to_k0 (fun _ _ h => h) (hK11 _ _ _ _ _ ?_))
    clear hK11
    refine wp_condD rfl (fun hc21 => ?_) (fun hc21 => ?_)
    ·refine wp_skip' (to_k0 (fun _ _ h => h) (hK10 _ _ _ _ _ ?_))
     clear hK10
     refine wp_seq' fun K12 hK12 => ?_
     refine wp_block' ?_
     refine wp_rega [(999, [(1, _), (2, _)]), (18, [(5, _)]), (16, [(60, _)])] (by kernel_rfl) ⟨.inr (subH_same rfl (subH_same rfl subH_nil)), ⟨.inr (subH_same rfl subH_nil), ⟨.inr (subH_same rfl subH_nil), trivial⟩⟩⟩ ?_
     refine aq_r 0 999 rfl (by kernel_rfl) (by kernel_rfl) (by kernel_rfl) (.head _) (by kernel_rfl) (by kernel_rfl) rfl (r_fa (o' := 1) rfl fl24_1 rfl) ?_
     refine aq_r 1 18 rfl (by kernel_rfl) (by kernel_rfl) (by kernel_rfl) (.tail _ (.head _)) (by kernel_rfl) (by kernel_rfl) rfl (r_ld (id := 5) rfl rfl rfl sc22) ?_
     refine aq_r 2 999 rfl (by kernel_rfl) (by kernel_rfl) (by kernel_rfl) (.head _) (by kernel_rfl) (by kernel_rfl) rfl (r_fa (o' := 1) rfl fl24_1 rfl) ?_
     refine aq_r 3 999 rfl (by kernel_rfl) (by kernel_rfl) (by kernel_rfl) (.head _) (by kernel_rfl) (by kernel_rfl) rfl (r_ld (id := 1) rfl rfl rfl sc22) ?_
     refine aq_r 4 999 rfl (by kernel_rfl) (by kernel_rfl) (by kernel_rfl) (.head _) (by kernel_rfl) (by kernel_rfl) rfl (r_move rfl) ?_
     refine aq_ixr 5 999 rfl (by kernel_rfl) (by kernel_rfl) (by kernel_rfl) (.head _) (by kernel_rfl) (by kernel_rfl) rfl hS rfl rfl sl22 (by omega) fun x29 hx29 => ?_
     try simp only [Int.toNat_natCast] at hx29
     refine aq_r 6 999 rfl (by kernel_rfl) (by kernel_rfl) (by kernel_rfl) (.head _) (by kernel_rfl) (by kernel_rfl) rfl (r_faw rfl (ix_some hS (by omega)) fl75_1) ?_
     refine aq_r 7 999 rfl (by kernel_rfl) (by kernel_rfl) (by kernel_rfl) (.head _) (by kernel_rfl) (by kernel_rfl) rfl (r_ldw rfl (fun w1 hb1 hs1 hB1 => Rd.loadsFA (o := 2) (m := 2) hS ag62 hx29 hb1 rfl rfl)) ?_
     refine aq_r 8 999 rfl (by kernel_rfl) (by kernel_rfl) (by kernel_rfl) (.head _) (by kernel_rfl) (by kernel_rfl) rfl (r_fa (o' := 1) rfl fl24_1 rfl) ?_
     refine aq_r 9 999 rfl (by kernel_rfl) (by kernel_rfl) (by kernel_rfl) (.head _) (by kernel_rfl) (by kernel_rfl) rfl (r_ld (id := 1) rfl rfl rfl sc22) ?_
     refine aq_r 10 999 rfl (by kernel_rfl) (by kernel_rfl) (by kernel_rfl) (.head _) (by kernel_rfl) (by kernel_rfl) rfl (r_move rfl) ?_
     refine aq_ixr 11 999 rfl (by kernel_rfl) (by kernel_rfl) (by kernel_rfl) (.head _) (by kernel_rfl) (by kernel_rfl) rfl hS rfl rfl sl22 (by omega) fun x35 hx35 => ?_
     try simp only [Int.toNat_natCast] at hx35
     obtain rfl : x29 = x35 := Option.some.inj (hx29.symm.trans hx35)
     refine aq_r 12 999 rfl (by kernel_rfl) (by kernel_rfl) (by kernel_rfl) (.head _) (by kernel_rfl) (by kernel_rfl) rfl (r_faw rfl (ix_some hS (by omega)) fl75_0) ?_
     refine aq_r 13 999 rfl (by kernel_rfl) (by kernel_rfl) (by kernel_rfl) (.head _) (by kernel_rfl) (by kernel_rfl) rfl (r_ldw rfl (fun w1 hb1 hs1 hB1 => Rd.loadsFA (o := 0) (m := 2) hS ag62 hx35 hb1 rfl rfl)) ?_
     refine aq_r 14 999 rfl (by kernel_rfl) (by kernel_rfl) (by kernel_rfl) (.head _) (by kernel_rfl) (by kernel_rfl) rfl (r_build rfl (fun _ => bd75_0_1 _ _ _ _ _)) ?_
     refine aq_one (i := 15) (by kernel_rfl) rfl fun K13 hK13 => ?_
     refine ol_bs1 39 rfl rfl rw22 rfl rfl rfl fun a39 => ?_
     refine ol_nil (to_k0 (fun _ _ h => h) (hK13 _ _ ⟨.inr (by repeat' first | exact subH_nil | refine subH_same rfl ?_ | (refine subH_blk rfl (by repeat' first | exact sub_nil | refine sub_cons rfl ?_) ?_)), ⟨.inr (by repeat' first | exact subH_nil | refine subH_same rfl ?_ | (refine subH_blk rfl (by repeat' first | exact sub_nil | refine sub_cons rfl ?_) ?_)), ⟨.inr (by repeat' first | exact subH_nil | refine subH_same rfl ?_ | (refine subH_blk rfl (by repeat' first | exact sub_nil | refine sub_cons rfl ?_) ?_)), trivial⟩⟩⟩ ?_))
     clear hK13
     refine aq_one (i := 16) (by kernel_rfl) rfl fun K14 hK14 => ?_
     refine ol_append1 (id := 60) (id2 := 39) rfl rfl rfl rfl rfl rw22 (by omega) rfl fun a40 c40 => ?_
     refine ol_nil (to_k0 (fun _ _ h => h) (hK14 _ _ ⟨.inr (by repeat' first | exact subH_nil | refine subH_same rfl ?_ | (refine subH_blk rfl (by repeat' first | exact sub_nil | refine sub_cons rfl ?_) ?_)), ⟨.inr (by repeat' first | exact subH_nil | refine subH_same rfl ?_ | (refine subH_blk rfl (by repeat' first | exact sub_nil | refine sub_cons rfl ?_) ?_)), ⟨.inl (by kernel_rfl), trivial⟩⟩⟩ ?_))
     clear hK14
     refine aq_r 17 999 rfl (by kernel_rfl) (by kernel_rfl) (by kernel_rfl) (.head _) (by kernel_rfl) (by kernel_rfl) rfl (r_fa (o' := 1) rfl fl24_1 rfl) ?_
     refine aq_one (i := 18) (by kernel_rfl) rfl fun K15 hK15 => ?_
     refine ol_store (id := 5) rfl rfl rfl rfl sz22 rfl rfl (by first | decide | exact Nat.zero_lt_succ _ | simp) ?_
     refine ol_nil (to_k0 (fun _ _ h => h) (hK15 _ _ ⟨.inr (by repeat' first | exact subH_nil | refine subH_same rfl ?_ | (refine subH_blk rfl (by repeat' first | exact sub_nil | refine sub_cons rfl ?_) ?_)), ⟨.inl (by kernel_rfl), ⟨.inl (by kernel_rfl), trivial⟩⟩⟩ ?_))
     clear hK15
     refine aq_done (by kernel_rfl) ?_
     refine (to_k0 (fun _ _ h => h) (hK12 _ _ _ _ _ ?_))
     clear hK12
     refine wp_reg ?_
     refine ol_r (r_move rfl) rfl ?_
     refine ol_r (r_sub rfl rfl (by omega)) rfl ?_
     refine ol_r (r_assign rfl) rfl ?_
     refine ol_nil (to_k0 (fun _ _ h => h) (hK9 ((k + 1, _, _)) _ _ ?_ ?_ (sub_cons rfl sub_nil) (sub_cons rfl (sub_cons rfl (sub_cons rfl (sub_cons rfl sub_nil)))) (by exact (subH_blk rfl (sub_cons rfl (sub_cons rfl sub_nil)) (subH_row rfl (by dsimp only; rw [turnK_succ (g := x29) (by omega) (by rw [← hx29]; congr 1; omega), Enc.enc_append]; rfl) subH_nil))) (subH_same rfl (subH_same rfl subH_nil))))
     ·try dsimp only
      omega
     ·try dsimp only
      omega
    ·refine wp_exit' (to_k0 (fun _ _ h => h) (hK7 _ _ _ _ _ ?_))
     clear hK7
     refine wp_seq' fun K16 hK16 => ?_
     refine wp_reg ?_
     refine ol_r (r_lda (id := 5) (n := 2) rfl rfl rfl ag24) rfl ?_
     refine ol_store (id := 2) rfl rfl rfl rfl sz24 rfl rfl (by first | decide | exact Nat.zero_lt_succ _ | simp) ?_
     refine ol_r (r_assign rfl) rfl ?_
     refine ol_nil (to_k0 (fun _ _ h => h) (hK16 _ _ _ _ _ ?_))
     clear hK16
     refine hQ.ret (rvs2 (rv_c (id := 2) (n := 2) rfl rfl ag24 rfl) (rv_t rfl)) (fun _ _ h => h) fun w hb hs hB hkd => ?_
     have h := turnR_0 (Decidable.not_not.1 hc10)
     have h6 := hs.ok 60 _ rfl
     rw [turnK_all (by omega)] at h6
     exact ⟨_, _, _, by rw [h], hb, by rw [h]; exact h6⟩
theorem equal_gate_same (a b : Option Addr) (n c1 c2 : Nat) (xs : List GateR) (w : World) (hx : Rd encGate w.heap.size w a n c1 xs) (hy : Rd encGate w.heap.size w b n c2 xs) :
    Calls Try.prog 50 #[.slice a n c1, .slice b n c2] w fun e w' => e = .returned (.bool true) ∧ Below w.heap.size w w' := by
  have hn := hx.len
  have hfit := hx.fit
  refine enterQ (N := 26) (C := fun _ => True) (H := []) (B := w.heap.size) (args := [_, _]) Try.func50 rfl rfl rfl (Nat.le_refl _) (Sat.nil _ _) fun Q hQ => ?_
  refine wp_seq' fun K1 hK1 => ?_
  refine wp_reg ?_
  refine ol_r (r_assign rfl) rfl ?_
  refine ol_nil (to_k0 (fun _ _ h => h) (hK1 _ _ _ _ _ ?_))
  clear hK1
  refine wp_seq' fun K2 hK2 => ?_
  refine wp_seq' fun K3 hK3 => ?_
  refine wp_reg ?_
  refine ol_r (r_move rfl) rfl ?_
  refine ol_r (r_len rfl sl22) rfl ?_
  refine ol_r (r_move rfl) rfl ?_
  refine ol_r (r_len rfl sl22) rfl ?_
  refine ol_r (r_neq rfl rfl) rfl ?_
  refine ol_nil (to_k0 (fun _ _ h => h) (hK3 _ _ _ _ _ ?_))
  clear hK3
  refine wp_condD rfl (fun hc10 => ?_) (fun hc10 => ?_)
  ·exfalso
   exact hc10 rfl
  ·refine wp_skip' (to_k0 (fun _ _ h => h) (hK2 _ _ _ _ _ ?_))
   clear hK2
   refine wp_seq' fun K4 hK4 => ?_
   refine wp_seq' fun K5 hK5 => ?_
   refine wp_reg ?_
   refine ol_r (r_move rfl) rfl ?_
   refine ol_r (r_len rfl sl22) rfl ?_
   refine ol_r (r_move rfl) rfl ?_
   refine ol_nil (to_k0 (fun _ _ h => h) (hK5 _ _ _ _ _ ?_))
   clear hK5
   refine wp_block' ?_
   apply wp_loopM (σ := Nat) (fun s => s ≤ n) (fun s => [(13, .int .i64 s)]) [(0, _), (1, _), (12, _)] (fun s => []) [] (fun s => n - s) (0)
   ·try dsimp only
    exact Nat.zero_le _
   ·exact (sub_cons rfl sub_nil)
   ·exact (sub_cons rfl (sub_cons rfl (sub_cons rfl sub_nil)))
   ·exact subH_nil
   ·exact subH_nil
   ·rintro k hk
    intro K6 hK6
    refine wp_seq' fun K7 hK7 => ?_
    refine wp_reg ?_
    refine ol_r (r_lss rfl rfl) rfl ?_
    refine ol_nil (to_k0 (fun _ _ h => h) (hK7 _ _ _ _ _ ?_))
    clear hK7
    refine wp_seq' fun K8 hK8 => ?_
    refine wp_condD rfl (fun hc14 => ?_) (fun hc14 => ?_)
    ·refine wp_skip' (to_k0 (fun _ _ h => h) (hK8 _ _ _ _ _ ?_))
     clear hK8
     refine wp_seq' fun K9 hK9 => ?_
     refine wp_block' ?_
     refine wp_seq' fun K10 hK10 => ?_
     refine wp_reg ?_
     refine ol_r (r_move rfl) rfl ?_
     refine ol_r (r_assign rfl) rfl ?_
     refine ol_nil (to_k0 (fun _ _ h => h) (hK10 _ _ _ _ _ ?_))
     clear hK10
     refine wp_seq' fun K11 hK11 => ?_
     refine wp_regq (by kernel_rfl) (by kernel_rfl) ?_
     refine ql_r (r_move rfl) rfl ?_
     refine ql_r (r_move rfl) rfl ?_
     refine ql_ixr hx rfl rfl sl22 (by omega) rfl fun x18 hx18 => ?_
     try simp only [Int.toNat_natCast] at hx18
     refine ql_r (r_ldw rfl (fun w1 hb1 hs1 hB1 => Rd.loads hx ty75 hx18 hb1)) rfl ?_
     refine ql_r (r_move rfl) rfl ?_
     refine ql_r (r_move rfl) rfl ?_
     refine ql_ixr hy rfl rfl sl22 (by omega) rfl fun x22 hx22 => ?_
     try simp only [Int.toNat_natCast] at hx22
     obtain rfl : x18 = x22 := Option.some.inj (hx18.symm.trans hx22)
     refine ql_r (r_ldw rfl (fun w1 hb1 hs1 hB1 => Rd.loads hy ty75 hx22 hb1)) rfl ?_
     refine ql_r (r_nes rfl rfl (by kernel_rfl) (fun w => run_eqsG (by kernel_rfl) (by kernel_rfl) w)) rfl ?_
     refine ql_nil (to_k0 (fun _ _ h => h) (hK11 _ _ _ _ _ ?_))
     clear hK11
     refine wp_condNB rfl (fun hc24 => ?_) (fun hc24 => ?_)
     ·refine wp_seq' fun K12 hK12 => ?_
      refine wp_reg ?_
      refine ol_r (r_assign rfl) rfl ?_
      refine ol_nil (to_k0 (fun _ _ h => h) (hK12 _ _ _ _ _ ?_))
      clear hK12
      refine hQ.ret (rvs1 (rv_t rfl)) (fun _ _ h => h) fun w hb hs hB hkd => ?_
      first
        | (exfalso; simp [eqs, eqV] at hc24; done)
     ·refine wp_skip' (to_k0 (fun _ _ h => h) (hK9 _ _ _ _ _ ?_))
      clear hK9
      refine wp_reg ?_
      refine ol_r (r_add rfl rfl (by omega)) rfl ?_
      refine ol_r (r_move rfl) rfl ?_
      refine ol_nil (to_k0 (fun _ _ h => h) (hK6 (k + 1) _ _ ?_ ?_ (sub_cons rfl sub_nil) (sub_cons rfl (sub_cons rfl (sub_cons rfl sub_nil))) (by exact subH_nil) subH_nil))
      ·try dsimp only
       omega
      ·try dsimp only
       omega
    ·refine wp_exit' (to_k0 (fun _ _ h => h) (hK4 _ _ _ _ _ ?_))
     clear hK4
     refine wp_seq' fun K13 hK13 => ?_
     refine wp_reg ?_
     refine ol_r (r_assign rfl) rfl ?_
     refine ol_nil (to_k0 (fun _ _ h => h) (hK13 _ _ _ _ _ ?_))
     clear hK13
     refine hQ.ret (rvs1 (rv_t rfl)) (fun _ _ h => h) fun w hb hs hB hkd => ?_
     first
       | exact ⟨rfl, hb⟩
theorem law5_same (nm : ByteArray) (a b : Option Addr) (n c1 c2 : Nat) (xs : List GateR) (w : World) (hx : Rd encGate w.heap.size w a n c1 xs) (hy : Rd encGate w.heap.size w b n c2 xs) :
    Calls Try.prog 17 #[.agg #[.string nm, .slice a n c1], .agg #[.string nm, .slice b n c2]] w fun e w' => e = .returned (.bool true) ∧ Below w.heap.size w w' := by
  refine enterQ (N := 17) (C := fun _ => True) (H := []) (B := w.heap.size) (args := [_, _]) Try.func17 rfl rfl rfl (Nat.le_refl _) (Sat.nil _ _) fun Q hQ => ?_
  refine wp_seq' fun K1 hK1 => ?_
  refine wp_reg ?_
  refine ol_box 2 rfl rfl rfl fun b2 => ?_
  refine ol_box 3 rfl rfl rfl fun b3 => ?_
  refine ol_r (r_assign rfl) rfl ?_
  refine ol_nil (to_k0 (fun _ _ h => h) (hK1 _ _ _ _ _ ?_))
  clear hK1
  refine wp_seq' fun K2 hK2 => ?_
  refine wp_reg ?_
  refine ol_r (r_fa (o' := 0) rfl fl24_0 rfl) rfl ?_
  refine ol_r (r_ld (id := 2) rfl rfl rfl sc9) rfl ?_
  refine ol_r (r_fa (o' := 0) rfl fl24_0 rfl) rfl ?_
  refine ol_r (r_ld (id := 3) rfl rfl rfl sc9) rfl ?_
  refine ol_r (r_seql rfl rfl) rfl ?_
  refine ol_r (r_move rfl) rfl ?_
  refine ol_split (d := 10) rfl (fun hs10 => ?_) (fun hs10 => ?_)
  ·have phs10 := hs10; try simp only [decide_eq_true_eq, decide_eq_false_iff_not, Bool.not_eq_true', Bool.not_eq_false', Bool.not_true, Bool.not_false] at phs10
   refine ol_g rfl rfl hs10 ?_
   refine ol_r (r_fa (o' := 1) rfl fl24_1 rfl) rfl ?_
   refine ol_g rfl rfl hs10 ?_
   refine ol_r (r_ld (id := 2) rfl rfl rfl sc22) rfl ?_
   refine ol_g rfl rfl hs10 ?_
   refine ol_r (r_fa (o' := 1) rfl fl24_1 rfl) rfl ?_
   refine ol_g rfl rfl hs10 ?_
   refine ol_r (r_ld (id := 3) rfl rfl rfl sc22) rfl ?_
   refine ol_g rfl rfl hs10 ?_
   refine ol_call rfl rfl cb50 rfl (fun w1 hb1 hs1 hB1 => Calls.mono (equal_gate_same _ _ _ _ _ xs _ (hx.at hb1 hB1) (hy.at hb1 hB1)) ?_)
   rintro e w2 ⟨rfl, hb2⟩
   refine After.below rfl hb1 hs1 hB1 hb2 ?_
   clear hb2 hB1 hs1 hb1 w2 w1
   refine ol_r (r_pickT rfl hs10 rfl) rfl ?_
   refine ol_r (r_assign rfl) rfl ?_
   refine ol_nil (to_k0 (fun _ _ h => h) (hK2 _ _ _ _ _ ?_))
   clear hK2
   refine hQ.ret (rvs1 (rv_t rfl)) (fun _ _ h => h) fun w hb hs hB hkd => ?_
   first
     | exact ⟨rfl, hb⟩
  ·have phs10 := hs10; try simp only [decide_eq_true_eq, decide_eq_false_iff_not, Bool.not_eq_true', Bool.not_eq_false', Bool.not_true, Bool.not_false] at phs10
   refine ol_s rfl rfl hs10 rfl ?_
   refine ol_s rfl rfl hs10 rfl ?_
   refine ol_s rfl rfl hs10 rfl ?_
   refine ol_s rfl rfl hs10 rfl ?_
   refine ol_s rfl rfl hs10 rfl ?_
   refine ol_r (r_pickF rfl hs10 rfl) rfl ?_
   refine ol_r (r_assign rfl) rfl ?_
   refine ol_nil (to_k0 (fun _ _ h => h) (hK2 _ _ _ _ _ ?_))
   clear hK2
   refine hQ.ret (rvs1 (rv_t rfl)) (fun _ _ h => h) fun w hb hs hB hkd => ?_
   first
     | (exfalso; unfold sEq at hs10; simp at hs10; done)
end Go.Proofs.Ytbbhcffkleplnaa
