/-
  Reach: program and reference; LoadPredictMatchesSpec, LoadLongerIsSlower.
-/
import Derived.Test.YtamlldedmhkobaaRace3
namespace Go.Proofs.Ytamlldedmhkobaa
open Go Go.RowKit Hx
set_option linter.unusedVariables false
set_option linter.unusedSimpArgs false
set_option maxRecDepth 8000
theorem reach_step (a : Option Addr) (n cap : Nat) (xs : List RaceR) (secs sl x : Int) (b3 b5 b4 : Nat) (w : World) (hl : Rd encRace w.heap.size w a n cap xs) (hok : RacesOk xs) (hs : 0 ≤ sl ∧ sl ≤ 200) (hx : 0 ≤ x ∧ x < 10000000)
    (h3 : Blk w.heap.size w b3 [(0, .slice a n cap)]) (h5 : Blk w.heap.size w b5 [(0, .int .i64 sl)]) (h4 : Blk w.heap.size w b4 [(0, .int .i64 secs)]) :
    Calls Try.prog 84 ([Value.int .i64 x] ++ [Value.pointer (some ⟨b3, 0, none⟩), Value.pointer (some ⟨b5, 0, none⟩), Value.pointer (some ⟨b4, 0, none⟩)]).toArray w fun e w' => e = .returned (.bool (decide (secs < predL sl (x + 1) none xs))) ∧ Below w.heap.size w w' := by
  refine enterQ (N := 13) (C := fun _ => True) (H := []) (B := w.heap.size) (args := [_, _, _, _]) Try.func84 rfl rfl rfl (Nat.le_refl _) (Sat.nil _ _) fun Q hQ => ?_
  refine wp_seq' fun K1 hK1 => ?_
  refine wp_reg ?_
  refine ol_r (r_assign rfl) rfl ?_
  refine ol_nil (to_k0 (fun _ _ h => h) (hK1 _ _ _ _ _ ?_))
  clear hK1
  refine wp_seq' fun K2 hK2 => ?_
  refine wp_regq (by kernel_rfl) (by kernel_rfl) ?_
  refine ql_r (r_ldw rfl (fun w1 hb1 hs1 hB1 => Blk.loads (o := 0) h3 hb1 sc71 rfl)) rfl ?_
  refine ql_r (r_move rfl) rfl ?_
  refine ql_r (r_add rfl rfl (by omega)) rfl ?_
  refine ql_r (r_ldw rfl (fun w1 hb1 hs1 hB1 => Blk.loads (o := 0) h5 hb1 sc3 rfl)) rfl ?_
  refine ql_call rfl rfl cb82 rfl (fun w1 hb1 hs1 hB1 => load_predict _ _ _ xs (x + 1) sl _ (hl.at hb1 hB1) hok (by omega) hs) ?_
  refine ql_r (r_ldw rfl (fun w1 hb1 hs1 hB1 => Blk.loads (o := 0) h4 hb1 sc3 rfl)) rfl ?_
  refine ql_r (r_gtr rfl rfl) rfl ?_
  refine ql_r (r_assign rfl) rfl ?_
  refine ql_nil (to_k0 (fun _ _ h => h) (hK2 _ _ _ _ _ ?_))
  clear hK2
  refine hQ.ret (rvs1 (rv_t rfl)) (fun _ _ h => h) fun w hb hs hB hkd => ?_
  exact ⟨rfl, hb⟩
theorem load_Reach (a : Option Addr) (n cap : Nat) (xs : List RaceR) (secs sl : Int) (w : World) (hl : Rd encRace w.heap.size w a n cap xs) :
    Calls Try.prog 51 #[.slice a n cap, .int .i64 secs, .int .i64 sl] w fun e w' => e = .returned (.tuple #[.int .i64 (reachR xs secs sl).1, .int .i64 (reachR xs secs sl).2]) ∧ Below w.heap.size w w' := by
  refine enterQ (N := 23) (C := fun _ => True) (H := []) (B := w.heap.size) (args := [_, _, _]) Try.func51 rfl rfl rfl (Nat.le_refl _) (Sat.nil _ _) fun Q hQ => ?_
  refine wp_seq' fun K1 hK1 => ?_
  refine wp_reg ?_
  refine ol_box 3 rfl rfl rfl fun b3 => ?_
  refine ol_box 4 rfl rfl rfl fun b4 => ?_
  refine ol_box 5 rfl rfl rfl fun b5 => ?_
  refine ol_r (r_assign rfl) rfl ?_
  refine ol_r (r_assign rfl) rfl ?_
  refine ol_nil (to_k0 (fun _ _ h => h) (hK1 _ _ _ _ _ ?_))
  clear hK1
  refine wp_seq' fun K2 hK2 => ?_
  refine wp_seq' fun K3 hK3 => ?_
  refine wp_regq (by kernel_rfl) (by kernel_rfl) ?_
  refine ql_r (r_ld (id := 3) rfl rfl rfl sc71) rfl ?_
  refine ql_r (r_ld (id := 4) rfl rfl rfl sc3) rfl ?_
  refine ql_call rfl rfl cb67 rfl (fun w1 hb1 hs1 hB1 => load_in _ _ _ _) ?_
  refine ql_r (r_ld (id := 5) rfl rfl rfl sc3) rfl ?_
  refine ql_call rfl rfl cb81 rfl (fun w1 hb1 hs1 hB1 => load_checkSlower _ _ _ xs _ _ _ (hl.at hb1 hB1)) ?_
  refine ql_r (r_assign rfl) rfl ?_
  refine ql_nil (to_k0 (fun _ _ h => h) (hK3 _ _ _ _ _ ?_))
  clear hK3
  refine wp_seq' fun K4 hK4 => ?_
  refine wp_reg ?_
  refine ol_r (r_move rfl) rfl ?_
  refine ol_r (r_neq rfl rfl) rfl ?_
  refine ol_nil (to_k0 (fun _ _ h => h) (hK4 _ _ _ _ _ ?_))
  clear hK4
  first | refine wp_condD rfl (fun hc16 => ?_) (fun hc16 => ?_) | refine wp_condN rfl (fun hc16 => ?_) (fun hc16 => ?_) | refine wp_condNB rfl (fun hc16 => ?_) (fun hc16 => ?_) | refine wp_cond' rfl (fun hc16 => ?_) (fun hc16 => ?_)
  ·refine wp_seq' fun K5 hK5 => ?_
   refine wp_reg ?_
   refine ol_r (r_move rfl) rfl ?_
   refine ol_r (r_assign rfl) rfl ?_
   refine ol_r (r_assign rfl) rfl ?_
   refine ol_nil (to_k0 (fun _ _ h => h) (hK5 _ _ _ _ _ ?_))
   clear hK5
   refine hQ.ret (rvs2 (rv_t rfl) (rv_t rfl)) (fun _ _ h => h) fun w hb hs hB hkd => ?_
   by_cases h0 : racesR xs = 0
   · have h9 : ¬((1 ≤ secs ∧ secs ≤ 1000000000) ∧ (0 ≤ sl ∧ sl ≤ 200)) := fun h => hc16 (by unfold slowR; rw [if_neg (fun h2 => h2 h0), if_neg (fun h2 => by rcases h2 with h2 | h2; rw [inB_iff.2 h.1] at h2; cases h2; exact h2 h.2)])
     have h8 : slowR xs (inB secs 1 1000000000) sl = 9 := by unfold slowR at hc16 ⊢; rw [if_neg (fun h2 => h2 h0)] at hc16 ⊢; by_cases h : inB secs 1 1000000000 = false ∨ ¬(0 ≤ sl ∧ sl ≤ 200); rw [if_pos h]; rw [if_neg h] at hc16; exact absurd rfl hc16
     exact ⟨by rw [reachR_9 h0 h9, h8], hb⟩
   · exact ⟨by rw [reachR_e h0]; unfold slowR; rw [if_pos h0], hb⟩
  ·refine wp_skip' (to_k0 (fun _ _ h => h) (hK2 _ _ _ _ _ ?_))
   clear hK2
   refine wp_seq' fun K6 hK6 => ?_
   refine wp_reg ?_
   have h0 : racesR xs = 0 := by
     by_cases h : racesR xs = 0
     · exact h
     · unfold slowR at hc16; rw [if_pos h] at hc16; exact absurd h hc16
   have hin : (1 ≤ secs ∧ secs ≤ 1000000000) ∧ (0 ≤ sl ∧ sl ≤ 200) := by
     by_cases h : inB secs 1 1000000000 = false ∨ ¬(0 ≤ sl ∧ sl ≤ 200)
     · unfold slowR at hc16; rw [if_neg (fun h2 => h2 h0), if_pos h] at hc16; exact absurd (show ¬((9 : Int) = 0) by omega) hc16
     · refine ⟨?_, ?_⟩
       · by_cases h1 : inB secs 1 1000000000 = true
         · exact inB_iff.1 h1
         · exact absurd (.inl (by simpa using h1)) h
       · by_cases h1 : 0 ≤ sl ∧ sl ≤ 200
         · exact h1
         · exact absurd (.inr h1) h
   have hok := racesOk h0
   refine ol_r (r_func rfl) rfl ?_
   refine ol_call rfl rfl cb69 rfl (fun w1 hb1 hs1 hB1 => ?_)
   refine Calls.mono (search_any 10000000 84 [Value.pointer (some ⟨b3, 0, none⟩), Value.pointer (some ⟨b5, 0, none⟩), Value.pointer (some ⟨b4, 0, none⟩)] (fun n => decide (secs < predL sl (n + 1) none xs)) _ (by omega) cb84 (fun x w' x0 x1 h1 h2 => reach_step a n cap xs secs sl x b3 b5 b4 w' (hl.at (hb1.trans (h1.mono hB1)) (Nat.le_trans hB1 h2)) hok hin.2 ⟨x0, x1⟩ ((hs1.blk (id := 3) rfl).at h1 h2) ((hs1.blk (id := 5) rfl).at h1 h2) ((hs1.blk (id := 4) rfl).at h1 h2))) ?_
   rintro e w2 ⟨m, rfl, hm1, hm2, hm3, hb2⟩
   refine After.below rfl hb1 hs1 hB1 hb2 ?_
   clear hb2 hB1 hs1 hb1 w2 w1
   have hIs : IsReach xs secs sl m := by
     refine ⟨by omega, hm1, fun h1 => ?_, fun h1 => ?_⟩
     · rcases hm2 with h | h
       · omega
       · have := of_decide_eq_false h
         rw [show (m : Int) - 1 + 1 = m by omega] at this
         omega
     · rcases hm3 with h | h
       · omega
       · exact of_decide_eq_true h
   have hres := reachR_m h0 hin hIs
   refine ol_r (r_assign rfl) rfl ?_
   refine ol_nil (to_k0 (fun _ _ h => h) (hK6 _ _ _ _ _ ?_))
   clear hK6
   refine wp_seq' fun K7 hK7 => ?_
   refine wp_seq' fun K8 hK8 => ?_
   refine wp_reg ?_
   refine ol_r (r_move rfl) rfl ?_
   refine ol_r (r_eql rfl rfl) rfl ?_
   refine ol_nil (to_k0 (fun _ _ h => h) (hK8 _ _ _ _ _ ?_))
   clear hK8
   first | refine wp_condD rfl (fun hc21 => ?_) (fun hc21 => ?_) | refine wp_condN rfl (fun hc21 => ?_) (fun hc21 => ?_) | refine wp_condNB rfl (fun hc21 => ?_) (fun hc21 => ?_) | refine wp_cond' rfl (fun hc21 => ?_) (fun hc21 => ?_)
   ·refine wp_seq' fun K9 hK9 => ?_
    refine wp_reg ?_
    refine ol_r (r_assign rfl) rfl ?_
    refine ol_r (r_assign rfl) rfl ?_
    refine ol_nil (to_k0 (fun _ _ h => h) (hK9 _ _ _ _ _ ?_))
    clear hK9
    refine hQ.ret (rvs2 (rv_t rfl) (rv_t rfl)) (fun _ _ h => h) fun w hb hs hB hkd => ?_
    exact ⟨by rw [hres, if_pos hc21], hb⟩
   ·refine wp_skip' (to_k0 (fun _ _ h => h) (hK7 _ _ _ _ _ ?_))
    clear hK7
    refine wp_seq' fun K10 hK10 => ?_
    refine wp_reg ?_
    refine ol_r (r_move rfl) rfl ?_
    refine ol_r (r_assign rfl) rfl ?_
    refine ol_r (r_assign rfl) rfl ?_
    refine ol_nil (to_k0 (fun _ _ h => h) (hK10 _ _ _ _ _ ?_))
    clear hK10
    refine hQ.ret (rvs2 (rv_t rfl) (rv_t rfl)) (fun _ _ h => h) fun w hb hs hB hkd => ?_
    exact ⟨by rw [hres, if_neg hc21], hb⟩
theorem ref_Reach (a : Option Addr) (n cap : Nat) (xs : List RaceR) (secs sl : Int) (w : World) (hl : Rd encRace w.heap.size w a n cap xs) :
    Calls Try.prog 52 #[.slice a n cap, .int .i64 secs, .int .i64 sl] w fun e w' => e = .returned (.tuple #[.int .i64 (reachR xs secs sl).1, .int .i64 (reachR xs secs sl).2]) ∧ Below w.heap.size w w' := by
  refine enterQ (N := 46) (C := fun _ => True) (H := []) (B := w.heap.size) (args := [_, _, _]) Try.func52 rfl rfl rfl (Nat.le_refl _) (Sat.nil _ _) fun Q hQ => ?_
  refine wp_seq' fun K1 hK1 => ?_
  refine wp_reg ?_
  refine ol_r (r_assign rfl) rfl ?_
  refine ol_r (r_assign rfl) rfl ?_
  refine ol_nil (to_k0 (fun _ _ h => h) (hK1 _ _ _ _ _ ?_))
  clear hK1
  refine wp_seq' fun K2 hK2 => ?_
  refine wp_seq' fun K3 hK3 => ?_
  refine wp_reg ?_
  refine ol_r (r_move rfl) rfl ?_
  refine ol_call rfl rfl cb54 rfl (fun w1 hb1 hs1 hB1 => Calls.mono (ref_CheckRaces _ _ _ xs _ (hl.at hb1 hB1)) ?_)
  rintro e w2 ⟨rfl, hb2⟩
  refine After.below rfl hb1 hs1 hB1 hb2 ?_
  clear hb2 hB1 hs1 hb1 w2 w1
  refine ol_r (r_assign rfl) rfl ?_
  refine ol_nil (to_k0 (fun _ _ h => h) (hK3 _ _ _ _ _ ?_))
  clear hK3
  refine wp_seq' fun K4 hK4 => ?_
  refine wp_reg ?_
  refine ol_r (r_move rfl) rfl ?_
  refine ol_r (r_neq rfl rfl) rfl ?_
  refine ol_nil (to_k0 (fun _ _ h => h) (hK4 _ _ _ _ _ ?_))
  clear hK4
  first | refine wp_condD rfl (fun hc15 => ?_) (fun hc15 => ?_) | refine wp_condN rfl (fun hc15 => ?_) (fun hc15 => ?_) | refine wp_condNB rfl (fun hc15 => ?_) (fun hc15 => ?_) | refine wp_cond' rfl (fun hc15 => ?_) (fun hc15 => ?_)
  ·refine wp_seq' fun K5 hK5 => ?_
   refine wp_reg ?_
   refine ol_r (r_move rfl) rfl ?_
   refine ol_r (r_assign rfl) rfl ?_
   refine ol_r (r_assign rfl) rfl ?_
   refine ol_nil (to_k0 (fun _ _ h => h) (hK5 _ _ _ _ _ ?_))
   clear hK5
   refine hQ.ret (rvs2 (rv_t rfl) (rv_t rfl)) (fun _ _ h => h) fun w hb hs hB hkd => ?_
   exact ⟨by rw [reachR_e hc15], hb⟩
  ·refine wp_skip' (to_k0 (fun _ _ h => h) (hK2 _ _ _ _ _ ?_))
   clear hK2
   refine wp_seq' fun K6 hK6 => ?_
   refine wp_seq' fun K7 hK7 => ?_
   refine wp_reg ?_
   refine ol_r (r_move rfl) rfl ?_
   refine ol_call rfl rfl cb62 rfl (fun w1 hb1 hs1 hB1 => Calls.mono (ref_outside _ _ _ _) ?_)
   rintro e w2 ⟨rfl, hb2⟩
   refine After.below rfl hb1 hs1 hB1 hb2 ?_
   clear hb2 hB1 hs1 hb1 w2 w1
   refine ol_r (r_move rfl) rfl ?_
   refine ol_split (d := 19) rfl (fun hs19 => ?_) (fun hs19 => ?_)
   ·have phs19 := hs19; try simp only [decide_eq_true_eq, decide_eq_false_iff_not, Bool.not_eq_true', Bool.not_eq_false', Bool.not_true, Bool.not_false] at phs19
    refine ol_s rfl rfl hs19 rfl ?_
    refine ol_s rfl rfl hs19 rfl ?_
    refine ol_r (r_pickT rfl hs19 rfl) rfl ?_
    refine ol_nil (to_k0 (fun _ _ h => h) (hK7 _ _ _ _ _ ?_))
    clear hK7
    refine wp_condT rfl ?_
    refine wp_seq' fun K8 hK8 => ?_
    refine wp_reg ?_
    refine ol_r (r_assign rfl) rfl ?_
    refine ol_r (r_assign rfl) rfl ?_
    refine ol_nil (to_k0 (fun _ _ h => h) (hK8 _ _ _ _ _ ?_))
    clear hK8
    refine hQ.ret (rvs2 (rv_t rfl) (rv_t rfl)) (fun _ _ h => h) fun w hb hs hB hkd => ?_
    exact ⟨by rw [reachR_9 (Decidable.not_not.1 hc15) (fun h => by have := inB_iff.2 h.1; rw [this] at hs19; cases hs19)], hb⟩
   ·have phs19 := hs19; try simp only [decide_eq_true_eq, decide_eq_false_iff_not, Bool.not_eq_true', Bool.not_eq_false', Bool.not_true, Bool.not_false] at phs19
    refine ol_g rfl rfl hs19 ?_
    refine ol_r (r_move rfl) rfl ?_
    refine ol_g rfl rfl hs19 ?_
    refine ol_call rfl rfl cb62 rfl (fun w1 hb1 hs1 hB1 => Calls.mono (ref_outside _ _ _ _) ?_)
    rintro e w2 ⟨rfl, hb2⟩
    refine After.below rfl hb1 hs1 hB1 hb2 ?_
    clear hb2 hB1 hs1 hb1 w2 w1
    refine ol_r (r_pickF rfl hs19 rfl) rfl ?_
    refine ol_nil (to_k0 (fun _ _ h => h) (hK7 _ _ _ _ _ ?_))
    clear hK7
    first | refine wp_condD rfl (fun hc22 => ?_) (fun hc22 => ?_) | refine wp_condN rfl (fun hc22 => ?_) (fun hc22 => ?_) | refine wp_condNB rfl (fun hc22 => ?_) (fun hc22 => ?_) | refine wp_cond' rfl (fun hc22 => ?_) (fun hc22 => ?_)
    ·refine wp_seq' fun K9 hK9 => ?_
     refine wp_reg ?_
     refine ol_r (r_assign rfl) rfl ?_
     refine ol_r (r_assign rfl) rfl ?_
     refine ol_nil (to_k0 (fun _ _ h => h) (hK9 _ _ _ _ _ ?_))
     clear hK9
     refine hQ.ret (rvs2 (rv_t rfl) (rv_t rfl)) (fun _ _ h => h) fun w hb hs hB hkd => ?_
     exact ⟨by rw [reachR_9 (Decidable.not_not.1 hc15) (fun h => by have := inB_iff.2 h.2; rw [this] at hc22; cases hc22)], hb⟩
    ·refine wp_skip' (to_k0 (fun _ _ h => h) (hK6 _ _ _ _ _ ?_))
     clear hK6
     refine wp_seq' fun K10 hK10 => ?_
     refine wp_seq' fun K11 hK11 => ?_
     refine wp_reg ?_
     have h0 : racesR xs = 0 := Decidable.not_not.1 hc15
     have hin : (1 ≤ secs ∧ secs ≤ 1000000000) ∧ (0 ≤ sl ∧ sl ≤ 200) := ⟨inB_iff.1 (by simpa using hs19), inB_iff.1 (by simpa using hc22)⟩
     have hok := racesOk h0
     refine ol_r (r_move rfl) rfl ?_
     refine ol_r (r_move rfl) rfl ?_
     refine ol_call rfl rfl cb83 rfl (fun w1 hb1 hs1 hB1 => Calls.mono (ref_predict _ _ _ xs 1 sl _ (hl.at hb1 hB1) hok (by omega) hin.2) ?_)
     rintro e w2 ⟨rfl, hb2⟩
     refine After.below rfl hb1 hs1 hB1 hb2 ?_
     clear hb2 hB1 hs1 hb1 w2 w1
     refine ol_r (r_move rfl) rfl ?_
     refine ol_r (r_gtr rfl rfl) rfl ?_
     refine ol_nil (to_k0 (fun _ _ h => h) (hK11 _ _ _ _ _ ?_))
     clear hK11
     first | refine wp_condD rfl (fun hc27 => ?_) (fun hc27 => ?_) | refine wp_condN rfl (fun hc27 => ?_) (fun hc27 => ?_) | refine wp_condNB rfl (fun hc27 => ?_) (fun hc27 => ?_) | refine wp_cond' rfl (fun hc27 => ?_) (fun hc27 => ?_)
     ·refine wp_seq' fun K12 hK12 => ?_
      refine wp_reg ?_
      refine ol_r (r_assign rfl) rfl ?_
      refine ol_r (r_assign rfl) rfl ?_
      refine ol_nil (to_k0 (fun _ _ h => h) (hK12 _ _ _ _ _ ?_))
      clear hK12
      refine hQ.ret (rvs2 (rv_t rfl) (rv_t rfl)) (fun _ _ h => h) fun w hb hs hB hkd => ?_
      have hIs : IsReach xs secs sl 0 := ⟨by omega, by omega, fun h => by omega, fun _ => by rw [Int.zero_add]; exact hc27⟩
      exact ⟨by rw [reachR_m h0 hin hIs]; rfl, hb⟩
     ·refine wp_skip' (to_k0 (fun _ _ h => h) (hK10 _ _ _ _ _ ?_))
      clear hK10
      refine wp_seq' fun K13 hK13 => ?_
      refine wp_reg ?_
      refine ol_r (r_assign rfl) rfl ?_
      refine ol_r (r_assign rfl) rfl ?_
      refine ol_nil (to_k0 (fun _ _ h => h) (hK13 _ _ _ _ _ ?_))
      clear hK13
      refine wp_seq' fun K14 hK14 => ?_
      refine wp_block' ?_
      apply wp_loopM (σ := Int × Int) (fun s => 1 ≤ s.1 ∧ s.1 ≤ s.2 ∧ s.2 ≤ 10000000 ∧ predL sl s.1 none xs ≤ secs ∧ (s.2 < 10000000 → secs < predL sl (s.2 + 1) none xs)) (fun s => [(9, .int .i64 s.1), (10, .int .i64 s.2)]) [(0, _), (1, _), (2, _), (6, _), (7, _)] (fun s => []) [] (fun s => (s.2 - s.1).toNat) ((1, 10000000))
      ·try dsimp only
       exact ⟨by omega, by omega, by omega, by omega, fun h => by omega⟩
      ·exact (sub_cons rfl (sub_cons rfl sub_nil))
      ·exact (sub_cons rfl (sub_cons rfl (sub_cons rfl (sub_cons rfl (sub_cons rfl sub_nil)))))
      ·exact subH_nil
      ·exact subH_nil
      ·rintro ⟨i, j⟩ ⟨h1, h2, h3, h4, h5⟩
       dsimp only at h1 h2 h3 h4 h5 ⊢
       intro K15 hK15
       refine wp_seq' fun K16 hK16 => ?_
       refine wp_seq' fun K17 hK17 => ?_
       refine wp_reg ?_
       refine ol_r (r_move rfl) rfl ?_
       refine ol_r (r_move rfl) rfl ?_
       refine ol_r (r_lss rfl rfl) rfl ?_
       refine ol_nil (to_k0 (fun _ _ h => h) (hK17 _ _ _ _ _ ?_))
       clear hK17
       first | refine wp_condD rfl (fun hc30 => ?_) (fun hc30 => ?_) | refine wp_condN rfl (fun hc30 => ?_) (fun hc30 => ?_) | refine wp_condNB rfl (fun hc30 => ?_) (fun hc30 => ?_) | refine wp_cond' rfl (fun hc30 => ?_) (fun hc30 => ?_)
       ·refine wp_skip' (to_k0 (fun _ _ h => h) (hK16 _ _ _ _ _ ?_))
        clear hK16
        refine wp_block' ?_
        refine wp_seq' fun K18 hK18 => ?_
        refine wp_reg ?_
        refine ol_r (r_move rfl) rfl ?_
        refine ol_r (r_move rfl) rfl ?_
        refine ol_r (r_add rfl rfl (by omega)) rfl ?_
        refine ol_r (r_add rfl rfl (by omega)) rfl ?_
        first | refine ol_r (r_quo rfl rfl (by omega)) rfl ?_ | refine ol_r (r_tquo rfl rfl (by omega)) rfl ?_
        refine ol_r (r_assign rfl) rfl ?_
        refine ol_nil (to_k0 (fun _ _ h => h) (hK18 _ _ _ _ _ ?_))
        clear hK18
        refine wp_seq' fun K19 hK19 => ?_
        refine wp_reg ?_
        refine ol_r (r_move rfl) rfl ?_
        refine ol_r (r_move rfl) rfl ?_
        refine ol_r (r_move rfl) rfl ?_
        refine ol_call rfl rfl cb83 rfl (fun w1 hb1 hs1 hB1 => Calls.mono (ref_predict _ _ _ xs _ sl _ (hl.at hb1 hB1) hok (by omega) hin.2) ?_)
        rintro e w2 ⟨rfl, hb2⟩
        refine After.below rfl hb1 hs1 hB1 hb2 ?_
        clear hb2 hB1 hs1 hb1 w2 w1
        refine ol_r (r_move rfl) rfl ?_
        refine ol_r (r_leq rfl rfl) rfl ?_
        refine ol_nil (to_k0 (fun _ _ h => h) (hK19 _ _ _ _ _ ?_))
        clear hK19
        first | refine wp_condD rfl (fun hc41 => ?_) (fun hc41 => ?_) | refine wp_condN rfl (fun hc41 => ?_) (fun hc41 => ?_) | refine wp_condNB rfl (fun hc41 => ?_) (fun hc41 => ?_) | refine wp_cond' rfl (fun hc41 => ?_) (fun hc41 => ?_)
        ·refine wp_reg ?_
         refine ol_r (r_move rfl) rfl ?_
         refine ol_r (r_assign rfl) rfl ?_
         refine ol_nil (to_k0 (fun _ _ h => h) (hK15 ((_, _)) _ _ ?_ ?_ (sub_cons rfl (sub_cons rfl sub_nil)) (sub_cons rfl (sub_cons rfl (sub_cons rfl (sub_cons rfl (sub_cons rfl sub_nil))))) (by exact subH_nil) subH_nil))
         ·try dsimp only
          first
            | exact ⟨by omega, by omega, by omega, hc41, h5⟩
            | exact ⟨by omega, by omega, by omega, h4, fun _ => by rw [Int.sub_add_cancel]; omega⟩
         ·try dsimp only
          omega
        ·refine wp_reg ?_
         refine ol_r (r_move rfl) rfl ?_
         refine ol_r (r_sub rfl rfl (by omega)) rfl ?_
         refine ol_r (r_assign rfl) rfl ?_
         refine ol_nil (to_k0 (fun _ _ h => h) (hK15 ((_, _)) _ _ ?_ ?_ (sub_cons rfl (sub_cons rfl sub_nil)) (sub_cons rfl (sub_cons rfl (sub_cons rfl (sub_cons rfl (sub_cons rfl sub_nil))))) (by exact subH_nil) subH_nil))
         ·try dsimp only
          first
            | exact ⟨by omega, by omega, by omega, hc41, h5⟩
            | exact ⟨by omega, by omega, by omega, h4, fun _ => by rw [Int.sub_add_cancel]; omega⟩
         ·try dsimp only
          omega
       ·refine wp_exit' (to_k0 (fun _ _ h => h) (hK14 _ _ _ _ _ ?_))
        clear hK14
        refine wp_seq' fun K20 hK20 => ?_
        refine wp_reg ?_
        refine ol_r (r_move rfl) rfl ?_
        refine ol_r (r_assign rfl) rfl ?_
        refine ol_r (r_assign rfl) rfl ?_
        refine ol_nil (to_k0 (fun _ _ h => h) (hK20 _ _ _ _ _ ?_))
        clear hK20
        refine hQ.ret (rvs2 (rv_t rfl) (rv_t rfl)) (fun _ _ h => h) fun w hb hs hB hkd => ?_
        have hij : i = j := by omega
        subst hij
        have hIs : IsReach xs secs sl i := ⟨by omega, h3, fun _ => h4, h5⟩
        exact ⟨by rw [reachR_m h0 hin hIs, if_neg (by omega)], hb⟩
theorem law_predict (a : Option Addr) (n cap : Nat) (xs : List RaceR) (x secs sl : Int) (w : World) (hl : Rd encRace w.heap.size w a n cap xs) :
    Calls Try.prog 9 #[.slice a n cap, .int .i64 x, .int .i64 secs, .int .i64 sl] w fun e w' => e = .returned (.bool true) ∧ Below w.heap.size w w' := by
  refine enterQ (N := 73) (C := fun _ => True) (H := []) (B := w.heap.size) (args := [_, _, _, _]) Try.func9 rfl rfl rfl (Nat.le_refl _) (Sat.nil _ _) fun Q hQ => ?_
  refine wp_seq' fun K1 hK1 => ?_
  refine wp_reg ?_
  refine ol_r (r_assign rfl) rfl ?_
  refine ol_nil (to_k0 (fun _ _ h => h) (hK1 _ _ _ _ _ ?_))
  clear hK1
  refine wp_seq' fun K2 hK2 => ?_
  refine wp_reg ?_
  refine ol_r (r_move rfl) rfl ?_
  refine ol_r (r_move rfl) rfl ?_
  refine ol_r (r_move rfl) rfl ?_
  refine ol_call rfl rfl cb49 rfl (fun w1 hb1 hs1 hB1 => Calls.mono (load_Predict _ _ _ xs x sl _ (hl.at hb1 hB1)) ?_)
  rintro e w2 ⟨rfl, hb2⟩
  refine After.below rfl hb1 hs1 hB1 hb2 ?_
  clear hb2 hB1 hs1 hb1 w2 w1
  refine ol_r (r_move rfl) rfl ?_
  refine ol_r (r_extract rfl rfl) rfl ?_
  refine ol_r (r_extract rfl rfl) rfl ?_
  refine ol_r (r_assign rfl) rfl ?_
  refine ol_r (r_assign rfl) rfl ?_
  refine ol_nil (to_k0 (fun _ _ h => h) (hK2 _ _ _ _ _ ?_))
  clear hK2
  refine wp_seq' fun K3 hK3 => ?_
  refine wp_reg ?_
  refine ol_r (r_move rfl) rfl ?_
  refine ol_r (r_move rfl) rfl ?_
  refine ol_r (r_move rfl) rfl ?_
  refine ol_call rfl rfl cb50 rfl (fun w1 hb1 hs1 hB1 => Calls.mono (ref_Predict _ _ _ xs x sl _ (hl.at hb1 hB1)) ?_)
  rintro e w2 ⟨rfl, hb2⟩
  refine After.below rfl hb1 hs1 hB1 hb2 ?_
  clear hb2 hB1 hs1 hb1 w2 w1
  refine ol_r (r_move rfl) rfl ?_
  refine ol_r (r_extract rfl rfl) rfl ?_
  refine ol_r (r_extract rfl rfl) rfl ?_
  refine ol_r (r_assign rfl) rfl ?_
  refine ol_r (r_assign rfl) rfl ?_
  refine ol_nil (to_k0 (fun _ _ h => h) (hK3 _ _ _ _ _ ?_))
  clear hK3
  refine wp_seq' fun K4 hK4 => ?_
  refine wp_reg ?_
  refine ol_r (r_move rfl) rfl ?_
  refine ol_r (r_move rfl) rfl ?_
  refine ol_r (r_move rfl) rfl ?_
  refine ol_call rfl rfl cb51 rfl (fun w1 hb1 hs1 hB1 => Calls.mono (load_Reach _ _ _ xs secs sl _ (hl.at hb1 hB1)) ?_)
  rintro e w2 ⟨rfl, hb2⟩
  refine After.below rfl hb1 hs1 hB1 hb2 ?_
  clear hb2 hB1 hs1 hb1 w2 w1
  refine ol_r (r_move rfl) rfl ?_
  refine ol_r (r_extract rfl rfl) rfl ?_
  refine ol_r (r_extract rfl rfl) rfl ?_
  refine ol_r (r_assign rfl) rfl ?_
  refine ol_r (r_assign rfl) rfl ?_
  refine ol_nil (to_k0 (fun _ _ h => h) (hK4 _ _ _ _ _ ?_))
  clear hK4
  refine wp_seq' fun K5 hK5 => ?_
  refine wp_reg ?_
  refine ol_r (r_move rfl) rfl ?_
  refine ol_r (r_move rfl) rfl ?_
  refine ol_r (r_move rfl) rfl ?_
  refine ol_call rfl rfl cb52 rfl (fun w1 hb1 hs1 hB1 => Calls.mono (ref_Reach _ _ _ xs secs sl _ (hl.at hb1 hB1)) ?_)
  rintro e w2 ⟨rfl, hb2⟩
  refine After.below rfl hb1 hs1 hB1 hb2 ?_
  clear hb2 hB1 hs1 hb1 w2 w1
  refine ol_r (r_move rfl) rfl ?_
  refine ol_r (r_extract rfl rfl) rfl ?_
  refine ol_r (r_extract rfl rfl) rfl ?_
  refine ol_r (r_assign rfl) rfl ?_
  refine ol_r (r_assign rfl) rfl ?_
  refine ol_nil (to_k0 (fun _ _ h => h) (hK5 _ _ _ _ _ ?_))
  clear hK5
  refine wp_seq' fun K6 hK6 => ?_
  refine wp_reg ?_
  refine ol_r (r_move rfl) rfl ?_
  refine ol_call rfl rfl cb53 rfl (fun w1 hb1 hs1 hB1 => Calls.mono (load_CheckRaces _ _ _ xs _ (hl.at hb1 hB1)) ?_)
  rintro e w2 ⟨rfl, hb2⟩
  refine After.below rfl hb1 hs1 hB1 hb2 ?_
  clear hb2 hB1 hs1 hb1 w2 w1
  refine ol_r (r_move rfl) rfl ?_
  refine ol_call rfl rfl cb54 rfl (fun w1 hb1 hs1 hB1 => Calls.mono (ref_CheckRaces _ _ _ xs _ (hl.at hb1 hB1)) ?_)
  rintro e w2 ⟨rfl, hb2⟩
  refine After.below rfl hb1 hs1 hB1 hb2 ?_
  clear hb2 hB1 hs1 hb1 w2 w1
  refine ol_r (r_eql rfl rfl) rfl ?_
  refine ol_r (r_move rfl) rfl ?_
  refine ol_split (d := 50) rfl (fun hs50 => ?_) (fun hs50 => ?_)
  ·have phs50 := hs50; try simp only [decide_eq_true_eq, decide_eq_false_iff_not, Bool.not_eq_true', Bool.not_eq_false', Bool.not_true, Bool.not_false] at phs50
   refine ol_g rfl rfl hs50 ?_
   refine ol_r (r_move rfl) rfl ?_
   refine ol_g rfl rfl hs50 ?_
   refine ol_r (r_move rfl) rfl ?_
   refine ol_g rfl rfl hs50 ?_
   refine ol_r (r_eql rfl rfl) rfl ?_
   refine ol_r (r_pickT rfl hs50 rfl) rfl ?_
   refine ol_r (r_move rfl) rfl ?_
   refine ol_split (d := 55) rfl (fun hs55 => ?_) (fun hs55 => ?_)
   ·have phs55 := hs55; try simp only [decide_eq_true_eq, decide_eq_false_iff_not, Bool.not_eq_true', Bool.not_eq_false', Bool.not_true, Bool.not_false] at phs55
    refine ol_g rfl rfl hs55 ?_
    refine ol_r (r_move rfl) rfl ?_
    refine ol_g rfl rfl hs55 ?_
    refine ol_r (r_move rfl) rfl ?_
    refine ol_g rfl rfl hs55 ?_
    refine ol_r (r_eql rfl rfl) rfl ?_
    refine ol_r (r_pickT rfl hs55 rfl) rfl ?_
    refine ol_r (r_move rfl) rfl ?_
    refine ol_split (d := 60) rfl (fun hs60 => ?_) (fun hs60 => ?_)
    ·have phs60 := hs60; try simp only [decide_eq_true_eq, decide_eq_false_iff_not, Bool.not_eq_true', Bool.not_eq_false', Bool.not_true, Bool.not_false] at phs60
     refine ol_g rfl rfl hs60 ?_
     refine ol_r (r_move rfl) rfl ?_
     refine ol_g rfl rfl hs60 ?_
     refine ol_r (r_move rfl) rfl ?_
     refine ol_g rfl rfl hs60 ?_
     refine ol_r (r_eql rfl rfl) rfl ?_
     refine ol_r (r_pickT rfl hs60 rfl) rfl ?_
     refine ol_r (r_move rfl) rfl ?_
     refine ol_split (d := 65) rfl (fun hs65 => ?_) (fun hs65 => ?_)
     ·have phs65 := hs65; try simp only [decide_eq_true_eq, decide_eq_false_iff_not, Bool.not_eq_true', Bool.not_eq_false', Bool.not_true, Bool.not_false] at phs65
      refine ol_g rfl rfl hs65 ?_
      refine ol_r (r_move rfl) rfl ?_
      refine ol_g rfl rfl hs65 ?_
      refine ol_r (r_move rfl) rfl ?_
      refine ol_g rfl rfl hs65 ?_
      refine ol_r (r_eql rfl rfl) rfl ?_
      refine ol_r (r_pickT rfl hs65 rfl) rfl ?_
      refine ol_r (r_move rfl) rfl ?_
      refine ol_split (d := 70) rfl (fun hs70 => ?_) (fun hs70 => ?_)
      ·have phs70 := hs70; try simp only [decide_eq_true_eq, decide_eq_false_iff_not, Bool.not_eq_true', Bool.not_eq_false', Bool.not_true, Bool.not_false] at phs70
       refine ol_g rfl rfl hs70 ?_
       refine ol_call rfl rfl cb14 rfl (fun w1 hb1 hs1 hB1 => Calls.mono (load_told _) ?_)
       rintro e w2 ⟨rfl, hb2⟩
       refine After.below rfl hb1 hs1 hB1 hb2 ?_
       clear hb2 hB1 hs1 hb1 w2 w1
       refine ol_r (r_pickT rfl hs70 rfl) rfl ?_
       refine ol_r (r_assign rfl) rfl ?_
       refine ol_nil (to_k0 (fun _ _ h => h) (hK6 _ _ _ _ _ ?_))
       clear hK6
       refine hQ.ret (rvs1 (rv_t rfl)) (fun _ _ h => h) fun w hb hs hB hkd => ?_
       first
         | exact ⟨rfl, hb⟩
         | (exfalso; omega)
         | (exfalso; simp_all; done)
      ·have phs70 := hs70; try simp only [decide_eq_true_eq, decide_eq_false_iff_not, Bool.not_eq_true', Bool.not_eq_false', Bool.not_true, Bool.not_false] at phs70
       refine ol_s rfl rfl hs70 rfl ?_
       refine ol_r (r_pickF rfl hs70 rfl) rfl ?_
       refine ol_r (r_assign rfl) rfl ?_
       refine ol_nil (to_k0 (fun _ _ h => h) (hK6 _ _ _ _ _ ?_))
       clear hK6
       refine hQ.ret (rvs1 (rv_t rfl)) (fun _ _ h => h) fun w hb hs hB hkd => ?_
       first
         | exact ⟨rfl, hb⟩
         | (exfalso; omega)
         | (exfalso; simp_all; done)
     ·have phs65 := hs65; try simp only [decide_eq_true_eq, decide_eq_false_iff_not, Bool.not_eq_true', Bool.not_eq_false', Bool.not_true, Bool.not_false] at phs65
      refine ol_s rfl rfl hs65 rfl ?_
      refine ol_s rfl rfl hs65 rfl ?_
      refine ol_s rfl rfl hs65 rfl ?_
      refine ol_r (r_pickF rfl hs65 rfl) rfl ?_
      refine ol_r (r_move rfl) rfl ?_
      refine ol_s rfl rfl rfl rfl ?_
      refine ol_r (r_pickF rfl rfl rfl) rfl ?_
      refine ol_r (r_assign rfl) rfl ?_
      refine ol_nil (to_k0 (fun _ _ h => h) (hK6 _ _ _ _ _ ?_))
      clear hK6
      refine hQ.ret (rvs1 (rv_t rfl)) (fun _ _ h => h) fun w hb hs hB hkd => ?_
      first
        | exact ⟨rfl, hb⟩
        | (exfalso; omega)
        | (exfalso; simp_all; done)
    ·have phs60 := hs60; try simp only [decide_eq_true_eq, decide_eq_false_iff_not, Bool.not_eq_true', Bool.not_eq_false', Bool.not_true, Bool.not_false] at phs60
     refine ol_s rfl rfl hs60 rfl ?_
     refine ol_s rfl rfl hs60 rfl ?_
     refine ol_s rfl rfl hs60 rfl ?_
     refine ol_r (r_pickF rfl hs60 rfl) rfl ?_
     refine ol_r (r_move rfl) rfl ?_
     refine ol_s rfl rfl rfl rfl ?_
     refine ol_s rfl rfl rfl rfl ?_
     refine ol_s rfl rfl rfl rfl ?_
     refine ol_r (r_pickF rfl rfl rfl) rfl ?_
     refine ol_r (r_move rfl) rfl ?_
     refine ol_s rfl rfl rfl rfl ?_
     refine ol_r (r_pickF rfl rfl rfl) rfl ?_
     refine ol_r (r_assign rfl) rfl ?_
     refine ol_nil (to_k0 (fun _ _ h => h) (hK6 _ _ _ _ _ ?_))
     clear hK6
     refine hQ.ret (rvs1 (rv_t rfl)) (fun _ _ h => h) fun w hb hs hB hkd => ?_
     first
       | exact ⟨rfl, hb⟩
       | (exfalso; omega)
       | (exfalso; simp_all; done)
   ·have phs55 := hs55; try simp only [decide_eq_true_eq, decide_eq_false_iff_not, Bool.not_eq_true', Bool.not_eq_false', Bool.not_true, Bool.not_false] at phs55
    refine ol_s rfl rfl hs55 rfl ?_
    refine ol_s rfl rfl hs55 rfl ?_
    refine ol_s rfl rfl hs55 rfl ?_
    refine ol_r (r_pickF rfl hs55 rfl) rfl ?_
    refine ol_r (r_move rfl) rfl ?_
    refine ol_s rfl rfl rfl rfl ?_
    refine ol_s rfl rfl rfl rfl ?_
    refine ol_s rfl rfl rfl rfl ?_
    refine ol_r (r_pickF rfl rfl rfl) rfl ?_
    refine ol_r (r_move rfl) rfl ?_
    refine ol_s rfl rfl rfl rfl ?_
    refine ol_s rfl rfl rfl rfl ?_
    refine ol_s rfl rfl rfl rfl ?_
    refine ol_r (r_pickF rfl rfl rfl) rfl ?_
    refine ol_r (r_move rfl) rfl ?_
    refine ol_s rfl rfl rfl rfl ?_
    refine ol_r (r_pickF rfl rfl rfl) rfl ?_
    refine ol_r (r_assign rfl) rfl ?_
    refine ol_nil (to_k0 (fun _ _ h => h) (hK6 _ _ _ _ _ ?_))
    clear hK6
    refine hQ.ret (rvs1 (rv_t rfl)) (fun _ _ h => h) fun w hb hs hB hkd => ?_
    first
      | exact ⟨rfl, hb⟩
      | (exfalso; omega)
      | (exfalso; simp_all; done)
  ·have phs50 := hs50; try simp only [decide_eq_true_eq, decide_eq_false_iff_not, Bool.not_eq_true', Bool.not_eq_false', Bool.not_true, Bool.not_false] at phs50
   refine ol_s rfl rfl hs50 rfl ?_
   refine ol_s rfl rfl hs50 rfl ?_
   refine ol_s rfl rfl hs50 rfl ?_
   refine ol_r (r_pickF rfl hs50 rfl) rfl ?_
   refine ol_r (r_move rfl) rfl ?_
   refine ol_s rfl rfl rfl rfl ?_
   refine ol_s rfl rfl rfl rfl ?_
   refine ol_s rfl rfl rfl rfl ?_
   refine ol_r (r_pickF rfl rfl rfl) rfl ?_
   refine ol_r (r_move rfl) rfl ?_
   refine ol_s rfl rfl rfl rfl ?_
   refine ol_s rfl rfl rfl rfl ?_
   refine ol_s rfl rfl rfl rfl ?_
   refine ol_r (r_pickF rfl rfl rfl) rfl ?_
   refine ol_r (r_move rfl) rfl ?_
   refine ol_s rfl rfl rfl rfl ?_
   refine ol_s rfl rfl rfl rfl ?_
   refine ol_s rfl rfl rfl rfl ?_
   refine ol_r (r_pickF rfl rfl rfl) rfl ?_
   refine ol_r (r_move rfl) rfl ?_
   refine ol_s rfl rfl rfl rfl ?_
   refine ol_r (r_pickF rfl rfl rfl) rfl ?_
   refine ol_r (r_assign rfl) rfl ?_
   refine ol_nil (to_k0 (fun _ _ h => h) (hK6 _ _ _ _ _ ?_))
   clear hK6
   refine hQ.ret (rvs1 (rv_t rfl)) (fun _ _ h => h) fun w hb hs hB hkd => ?_
   first
     | exact ⟨rfl, hb⟩
     | (exfalso; omega)
     | (exfalso; simp_all; done)
theorem law_slower (a : Option Addr) (n cap : Nat) (xs : List RaceR) (p q secs sl : Int) (w : World) (hl : Rd encRace w.heap.size w a n cap xs) :
    Calls Try.prog 10 #[.slice a n cap, .int .i64 p, .int .i64 q, .int .i64 secs, .int .i64 sl] w fun e w' => e = .returned (.bool true) ∧ Below w.heap.size w w' := by
  refine enterQ (N := 111) (C := fun _ => True) (H := []) (B := w.heap.size) (args := [_, _, _, _, _]) Try.func10 rfl rfl rfl (Nat.le_refl _) (Sat.nil _ _) fun Q hQ => ?_
  refine wp_seq' fun K1 hK1 => ?_
  refine wp_reg ?_
  refine ol_r (r_assign rfl) rfl ?_
  refine ol_nil (to_k0 (fun _ _ h => h) (hK1 _ _ _ _ _ ?_))
  clear hK1
  refine wp_seq' fun K2 hK2 => ?_
  refine wp_reg ?_
  refine ol_r (r_move rfl) rfl ?_
  refine ol_r (r_move rfl) rfl ?_
  refine ol_r (r_move rfl) rfl ?_
  refine ol_call rfl rfl cb49 rfl (fun w1 hb1 hs1 hB1 => Calls.mono (load_Predict _ _ _ xs p sl _ (hl.at hb1 hB1)) ?_)
  rintro e w2 ⟨rfl, hb2⟩
  refine After.below rfl hb1 hs1 hB1 hb2 ?_
  clear hb2 hB1 hs1 hb1 w2 w1
  refine ol_r (r_move rfl) rfl ?_
  refine ol_r (r_extract rfl rfl) rfl ?_
  refine ol_r (r_extract rfl rfl) rfl ?_
  refine ol_r (r_assign rfl) rfl ?_
  refine ol_r (r_assign rfl) rfl ?_
  refine ol_nil (to_k0 (fun _ _ h => h) (hK2 _ _ _ _ _ ?_))
  clear hK2
  refine wp_seq' fun K3 hK3 => ?_
  refine wp_reg ?_
  refine ol_r (r_move rfl) rfl ?_
  refine ol_r (r_move rfl) rfl ?_
  refine ol_r (r_move rfl) rfl ?_
  refine ol_call rfl rfl cb49 rfl (fun w1 hb1 hs1 hB1 => Calls.mono (load_Predict _ _ _ xs q sl _ (hl.at hb1 hB1)) ?_)
  rintro e w2 ⟨rfl, hb2⟩
  refine After.below rfl hb1 hs1 hB1 hb2 ?_
  clear hb2 hB1 hs1 hb1 w2 w1
  refine ol_r (r_move rfl) rfl ?_
  refine ol_r (r_extract rfl rfl) rfl ?_
  refine ol_r (r_extract rfl rfl) rfl ?_
  refine ol_r (r_assign rfl) rfl ?_
  refine ol_r (r_assign rfl) rfl ?_
  refine ol_nil (to_k0 (fun _ _ h => h) (hK3 _ _ _ _ _ ?_))
  clear hK3
  refine wp_seq' fun K4 hK4 => ?_
  refine wp_seq' fun K5 hK5 => ?_
  refine wp_reg ?_
  refine ol_r (r_move rfl) rfl ?_
  refine ol_r (r_neq rfl rfl) rfl ?_
  refine ol_r (r_move rfl) rfl ?_
  refine ol_split (d := 37) rfl (fun hs37 => ?_) (fun hs37 => ?_)
  ·have phs37 := hs37; try simp only [decide_eq_true_eq, decide_eq_false_iff_not, Bool.not_eq_true', Bool.not_eq_false', Bool.not_true, Bool.not_false] at phs37
   refine ol_s rfl rfl hs37 rfl ?_
   refine ol_s rfl rfl hs37 rfl ?_
   refine ol_r (r_pickT rfl hs37 rfl) rfl ?_
   refine ol_nil (to_k0 (fun _ _ h => h) (hK5 _ _ _ _ _ ?_))
   clear hK5
   refine wp_condT rfl ?_
   refine wp_seq' fun K6 hK6 => ?_
   refine wp_reg ?_
   refine ol_r (r_move rfl) rfl ?_
   refine ol_r (r_move rfl) rfl ?_
   refine ol_r (r_move rfl) rfl ?_
   refine ol_call rfl rfl cb50 rfl (fun w1 hb1 hs1 hB1 => Calls.mono (ref_Predict _ _ _ xs p sl _ (hl.at hb1 hB1)) ?_)
   rintro e w2 ⟨rfl, hb2⟩
   refine After.below rfl hb1 hs1 hB1 hb2 ?_
   clear hb2 hB1 hs1 hb1 w2 w1
   refine ol_r (r_move rfl) rfl ?_
   refine ol_r (r_extract rfl rfl) rfl ?_
   refine ol_r (r_extract rfl rfl) rfl ?_
   refine ol_r (r_assign rfl) rfl ?_
   refine ol_r (r_assign rfl) rfl ?_
   refine ol_nil (to_k0 (fun _ _ h => h) (hK6 _ _ _ _ _ ?_))
   clear hK6
   refine wp_seq' fun K7 hK7 => ?_
   refine wp_reg ?_
   refine ol_r (r_move rfl) rfl ?_
   refine ol_r (r_move rfl) rfl ?_
   refine ol_r (r_eql rfl rfl) rfl ?_
   refine ol_r (r_move rfl) rfl ?_
   refine ol_split (d := 51) rfl (fun hs51 => ?_) (fun hs51 => ?_)
   ·have phs51 := hs51; try simp only [decide_eq_true_eq, decide_eq_false_iff_not, Bool.not_eq_true', Bool.not_eq_false', Bool.not_true, Bool.not_false] at phs51
    refine ol_g rfl rfl hs51 ?_
    refine ol_call rfl rfl cb14 rfl (fun w1 hb1 hs1 hB1 => Calls.mono (load_told _) ?_)
    rintro e w2 ⟨rfl, hb2⟩
    refine After.below rfl hb1 hs1 hB1 hb2 ?_
    clear hb2 hB1 hs1 hb1 w2 w1
    refine ol_r (r_pickT rfl hs51 rfl) rfl ?_
    refine ol_r (r_assign rfl) rfl ?_
    refine ol_nil (to_k0 (fun _ _ h => h) (hK7 _ _ _ _ _ ?_))
    clear hK7
    refine hQ.ret (rvs1 (rv_t rfl)) (fun _ _ h => h) fun w hb hs hB hkd => ?_
    first
      | exact ⟨rfl, hb⟩
      | (exfalso; exact phs51 trivial)
      | (exfalso; exact phs81 trivial)
      | (exfalso
         have h1 := predL_mono pin.2 phs57 xs none (fun _ h => by cases h) hok.ord
         omega)
      | (exfalso; omega)
   ·have phs51 := hs51; try simp only [decide_eq_true_eq, decide_eq_false_iff_not, Bool.not_eq_true', Bool.not_eq_false', Bool.not_true, Bool.not_false] at phs51
    refine ol_s rfl rfl hs51 rfl ?_
    refine ol_r (r_pickF rfl hs51 rfl) rfl ?_
    refine ol_r (r_assign rfl) rfl ?_
    refine ol_nil (to_k0 (fun _ _ h => h) (hK7 _ _ _ _ _ ?_))
    clear hK7
    refine hQ.ret (rvs1 (rv_t rfl)) (fun _ _ h => h) fun w hb hs hB hkd => ?_
    first
      | exact ⟨rfl, hb⟩
      | (exfalso; exact phs51 trivial)
      | (exfalso; exact phs81 trivial)
      | (exfalso
         have h1 := predL_mono pin.2 phs57 xs none (fun _ h => by cases h) hok.ord
         omega)
      | (exfalso; omega)
  ·have phs37 := hs37; try simp only [decide_eq_true_eq, decide_eq_false_iff_not, Bool.not_eq_true', Bool.not_eq_false', Bool.not_true, Bool.not_false] at phs37
   refine ol_g rfl rfl hs37 ?_
   refine ol_r (r_move rfl) rfl ?_
   refine ol_g rfl rfl hs37 ?_
   refine ol_r (r_neq rfl rfl) rfl ?_
   refine ol_r (r_pickF rfl hs37 rfl) rfl ?_
   refine ol_nil (to_k0 (fun _ _ h => h) (hK5 _ _ _ _ _ ?_))
   clear hK5
   first | refine wp_condD rfl (fun hc40 => ?_) (fun hc40 => ?_) | refine wp_condN rfl (fun hc40 => ?_) (fun hc40 => ?_) | refine wp_condNB rfl (fun hc40 => ?_) (fun hc40 => ?_) | refine wp_cond' rfl (fun hc40 => ?_) (fun hc40 => ?_)
   ·refine wp_seq' fun K8 hK8 => ?_
    refine wp_reg ?_
    refine ol_r (r_move rfl) rfl ?_
    refine ol_r (r_move rfl) rfl ?_
    refine ol_r (r_move rfl) rfl ?_
    refine ol_call rfl rfl cb50 rfl (fun w1 hb1 hs1 hB1 => Calls.mono (ref_Predict _ _ _ xs p sl _ (hl.at hb1 hB1)) ?_)
    rintro e w2 ⟨rfl, hb2⟩
    refine After.below rfl hb1 hs1 hB1 hb2 ?_
    clear hb2 hB1 hs1 hb1 w2 w1
    refine ol_r (r_move rfl) rfl ?_
    refine ol_r (r_extract rfl rfl) rfl ?_
    refine ol_r (r_extract rfl rfl) rfl ?_
    refine ol_r (r_assign rfl) rfl ?_
    refine ol_r (r_assign rfl) rfl ?_
    refine ol_nil (to_k0 (fun _ _ h => h) (hK8 _ _ _ _ _ ?_))
    clear hK8
    refine wp_seq' fun K9 hK9 => ?_
    refine wp_reg ?_
    refine ol_r (r_move rfl) rfl ?_
    refine ol_r (r_move rfl) rfl ?_
    refine ol_r (r_eql rfl rfl) rfl ?_
    refine ol_r (r_move rfl) rfl ?_
    refine ol_split (d := 51) rfl (fun hs51 => ?_) (fun hs51 => ?_)
    ·have phs51 := hs51; try simp only [decide_eq_true_eq, decide_eq_false_iff_not, Bool.not_eq_true', Bool.not_eq_false', Bool.not_true, Bool.not_false] at phs51
     refine ol_g rfl rfl hs51 ?_
     refine ol_call rfl rfl cb14 rfl (fun w1 hb1 hs1 hB1 => Calls.mono (load_told _) ?_)
     rintro e w2 ⟨rfl, hb2⟩
     refine After.below rfl hb1 hs1 hB1 hb2 ?_
     clear hb2 hB1 hs1 hb1 w2 w1
     refine ol_r (r_pickT rfl hs51 rfl) rfl ?_
     refine ol_r (r_assign rfl) rfl ?_
     refine ol_nil (to_k0 (fun _ _ h => h) (hK9 _ _ _ _ _ ?_))
     clear hK9
     refine hQ.ret (rvs1 (rv_t rfl)) (fun _ _ h => h) fun w hb hs hB hkd => ?_
     first
       | exact ⟨rfl, hb⟩
       | (exfalso; exact phs51 trivial)
       | (exfalso; exact phs81 trivial)
       | (exfalso
          have h1 := predL_mono pin.2 phs57 xs none (fun _ h => by cases h) hok.ord
          omega)
       | (exfalso; omega)
    ·have phs51 := hs51; try simp only [decide_eq_true_eq, decide_eq_false_iff_not, Bool.not_eq_true', Bool.not_eq_false', Bool.not_true, Bool.not_false] at phs51
     refine ol_s rfl rfl hs51 rfl ?_
     refine ol_r (r_pickF rfl hs51 rfl) rfl ?_
     refine ol_r (r_assign rfl) rfl ?_
     refine ol_nil (to_k0 (fun _ _ h => h) (hK9 _ _ _ _ _ ?_))
     clear hK9
     refine hQ.ret (rvs1 (rv_t rfl)) (fun _ _ h => h) fun w hb hs hB hkd => ?_
     first
       | exact ⟨rfl, hb⟩
       | (exfalso; exact phs51 trivial)
       | (exfalso; exact phs81 trivial)
       | (exfalso
          have h1 := predL_mono pin.2 phs57 xs none (fun _ h => by cases h) hok.ord
          omega)
       | (exfalso; omega)
   ·refine wp_skip' (to_k0 (fun _ _ h => h) (hK4 _ _ _ _ _ ?_))
    clear hK4
    refine wp_seq' fun K10 hK10 => ?_
    refine wp_seq' fun K11 hK11 => ?_
    refine wp_reg ?_
    obtain ⟨p0, pin, pv⟩ := predR_inv (Decidable.not_not.1 phs37)
    obtain ⟨_, qin, qv⟩ := predR_inv (Decidable.not_not.1 hc40)
    have hok := racesOk p0
    refine ol_r (r_move rfl) rfl ?_
    refine ol_r (r_move rfl) rfl ?_
    refine ol_r (r_leq rfl rfl) rfl ?_
    refine ol_r (r_move rfl) rfl ?_
    refine ol_split (d := 57) rfl (fun hs57 => ?_) (fun hs57 => ?_)
    ·have phs57 := hs57; try simp only [decide_eq_true_eq, decide_eq_false_iff_not, Bool.not_eq_true', Bool.not_eq_false', Bool.not_true, Bool.not_false] at phs57
     refine ol_g rfl rfl hs57 ?_
     refine ol_r (r_move rfl) rfl ?_
     refine ol_g rfl rfl hs57 ?_
     refine ol_r (r_move rfl) rfl ?_
     refine ol_g rfl rfl hs57 ?_
     refine ol_r (r_gtr rfl rfl) rfl ?_
     refine ol_r (r_pickT rfl hs57 rfl) rfl ?_
     refine ol_nil (to_k0 (fun _ _ h => h) (hK11 _ _ _ _ _ ?_))
     clear hK11
     first | refine wp_condD rfl (fun hc61 => ?_) (fun hc61 => ?_) | refine wp_condN rfl (fun hc61 => ?_) (fun hc61 => ?_) | refine wp_condNB rfl (fun hc61 => ?_) (fun hc61 => ?_) | refine wp_cond' rfl (fun hc61 => ?_) (fun hc61 => ?_)
     ·refine wp_seq' fun K12 hK12 => ?_
      refine wp_reg ?_
      refine ol_r (r_assign rfl) rfl ?_
      refine ol_nil (to_k0 (fun _ _ h => h) (hK12 _ _ _ _ _ ?_))
      clear hK12
      refine hQ.ret (rvs1 (rv_t rfl)) (fun _ _ h => h) fun w hb hs hB hkd => ?_
      first
        | exact ⟨rfl, hb⟩
        | (exfalso; exact phs51 trivial)
        | (exfalso; exact phs81 trivial)
        | (exfalso
           have h1 := predL_mono pin.2 phs57 xs none (fun _ h => by cases h) hok.ord
           omega)
        | (exfalso; omega)
     ·refine wp_skip' (to_k0 (fun _ _ h => h) (hK10 _ _ _ _ _ ?_))
      clear hK10
      refine wp_seq' fun K13 hK13 => ?_
      refine wp_reg ?_
      refine ol_r (r_move rfl) rfl ?_
      refine ol_r (r_move rfl) rfl ?_
      refine ol_r (r_move rfl) rfl ?_
      refine ol_call rfl rfl cb51 rfl (fun w1 hb1 hs1 hB1 => Calls.mono (load_Reach _ _ _ xs secs sl _ (hl.at hb1 hB1)) ?_)
      rintro e w2 ⟨rfl, hb2⟩
      refine After.below rfl hb1 hs1 hB1 hb2 ?_
      clear hb2 hB1 hs1 hb1 w2 w1
      refine ol_r (r_move rfl) rfl ?_
      refine ol_r (r_extract rfl rfl) rfl ?_
      refine ol_r (r_extract rfl rfl) rfl ?_
      refine ol_r (r_assign rfl) rfl ?_
      refine ol_r (r_assign rfl) rfl ?_
      refine ol_nil (to_k0 (fun _ _ h => h) (hK13 _ _ _ _ _ ?_))
      clear hK13
      refine wp_seq' fun K14 hK14 => ?_
      refine wp_seq' fun K15 hK15 => ?_
      refine wp_reg ?_
      refine ol_r (r_move rfl) rfl ?_
      refine ol_r (r_neq rfl rfl) rfl ?_
      refine ol_nil (to_k0 (fun _ _ h => h) (hK15 _ _ _ _ _ ?_))
      clear hK15
      first | refine wp_condD rfl (fun hc70 => ?_) (fun hc70 => ?_) | refine wp_condN rfl (fun hc70 => ?_) (fun hc70 => ?_) | refine wp_condNB rfl (fun hc70 => ?_) (fun hc70 => ?_) | refine wp_cond' rfl (fun hc70 => ?_) (fun hc70 => ?_)
      ·refine wp_seq' fun K16 hK16 => ?_
       refine wp_reg ?_
       refine ol_r (r_move rfl) rfl ?_
       refine ol_r (r_move rfl) rfl ?_
       refine ol_r (r_move rfl) rfl ?_
       refine ol_call rfl rfl cb52 rfl (fun w1 hb1 hs1 hB1 => Calls.mono (ref_Reach _ _ _ xs secs sl _ (hl.at hb1 hB1)) ?_)
       rintro e w2 ⟨rfl, hb2⟩
       refine After.below rfl hb1 hs1 hB1 hb2 ?_
       clear hb2 hB1 hs1 hb1 w2 w1
       refine ol_r (r_move rfl) rfl ?_
       refine ol_r (r_extract rfl rfl) rfl ?_
       refine ol_r (r_extract rfl rfl) rfl ?_
       refine ol_r (r_assign rfl) rfl ?_
       refine ol_r (r_assign rfl) rfl ?_
       refine ol_nil (to_k0 (fun _ _ h => h) (hK16 _ _ _ _ _ ?_))
       clear hK16
       refine wp_seq' fun K17 hK17 => ?_
       refine wp_reg ?_
       refine ol_r (r_move rfl) rfl ?_
       refine ol_r (r_move rfl) rfl ?_
       refine ol_r (r_eql rfl rfl) rfl ?_
       refine ol_r (r_move rfl) rfl ?_
       refine ol_split (d := 81) rfl (fun hs81 => ?_) (fun hs81 => ?_)
       ·have phs81 := hs81; try simp only [decide_eq_true_eq, decide_eq_false_iff_not, Bool.not_eq_true', Bool.not_eq_false', Bool.not_true, Bool.not_false] at phs81
        refine ol_g rfl rfl hs81 ?_
        refine ol_call rfl rfl cb14 rfl (fun w1 hb1 hs1 hB1 => Calls.mono (load_told _) ?_)
        rintro e w2 ⟨rfl, hb2⟩
        refine After.below rfl hb1 hs1 hB1 hb2 ?_
        clear hb2 hB1 hs1 hb1 w2 w1
        refine ol_r (r_pickT rfl hs81 rfl) rfl ?_
        refine ol_r (r_assign rfl) rfl ?_
        refine ol_nil (to_k0 (fun _ _ h => h) (hK17 _ _ _ _ _ ?_))
        clear hK17
        refine hQ.ret (rvs1 (rv_t rfl)) (fun _ _ h => h) fun w hb hs hB hkd => ?_
        first
          | exact ⟨rfl, hb⟩
          | (exfalso; exact phs51 trivial)
          | (exfalso; exact phs81 trivial)
          | (exfalso
             have h1 := predL_mono pin.2 phs57 xs none (fun _ h => by cases h) hok.ord
             omega)
          | (exfalso; omega)
       ·have phs81 := hs81; try simp only [decide_eq_true_eq, decide_eq_false_iff_not, Bool.not_eq_true', Bool.not_eq_false', Bool.not_true, Bool.not_false] at phs81
        refine ol_s rfl rfl hs81 rfl ?_
        refine ol_r (r_pickF rfl hs81 rfl) rfl ?_
        refine ol_r (r_assign rfl) rfl ?_
        refine ol_nil (to_k0 (fun _ _ h => h) (hK17 _ _ _ _ _ ?_))
        clear hK17
        refine hQ.ret (rvs1 (rv_t rfl)) (fun _ _ h => h) fun w hb hs hB hkd => ?_
        first
          | exact ⟨rfl, hb⟩
          | (exfalso; exact phs51 trivial)
          | (exfalso; exact phs81 trivial)
          | (exfalso
             have h1 := predL_mono pin.2 phs57 xs none (fun _ h => by cases h) hok.ord
             omega)
          | (exfalso; omega)
      ·refine wp_skip' (to_k0 (fun _ _ h => h) (hK14 _ _ _ _ _ ?_))
       clear hK14
       refine wp_seq' fun K18 hK18 => ?_
       refine wp_reg ?_
       obtain ⟨_, rin, hW1, hI⟩ := reachR_inv (Decidable.not_not.1 hc70)
       have hw0 := predR_0 (x := (reachR xs secs sl).1) p0 ⟨⟨hW1, hI.2.1⟩, pin.2⟩
       have hw2 : (predR xs (reachR xs secs sl).1 sl).2 = 0 := by rw [hw0]
       have hw1 : (predR xs (reachR xs secs sl).1 sl).1 ≤ secs := by rw [hw0]; exact hI.2.2.1 hW1
       have hq : (reachR xs secs sl).1 < q → secs < (predR xs q sl).1 := fun h => by
         rw [qv]
         have h1 := predL_mono pin.2 (show (reachR xs secs sl).1 + 1 ≤ q by omega) xs none (fun _ h => by cases h) hok.ord
         have h2 := hI.2.2.2 (by omega)
         omega
       refine ol_r (r_move rfl) rfl ?_
       refine ol_r (r_move rfl) rfl ?_
       refine ol_r (r_move rfl) rfl ?_
       refine ol_call rfl rfl cb49 rfl (fun w1 hb1 hs1 hB1 => Calls.mono (load_Predict _ _ _ xs (reachR xs secs sl).1 sl _ (hl.at hb1 hB1)) ?_)
       rintro e w2 ⟨rfl, hb2⟩
       refine After.below rfl hb1 hs1 hB1 hb2 ?_
       clear hb2 hB1 hs1 hb1 w2 w1
       refine ol_r (r_move rfl) rfl ?_
       refine ol_r (r_extract rfl rfl) rfl ?_
       refine ol_r (r_extract rfl rfl) rfl ?_
       refine ol_r (r_assign rfl) rfl ?_
       refine ol_r (r_assign rfl) rfl ?_
       refine ol_nil (to_k0 (fun _ _ h => h) (hK18 _ _ _ _ _ ?_))
       clear hK18
       refine wp_seq' fun K19 hK19 => ?_
       refine wp_reg ?_
       refine ol_r (r_move rfl) rfl ?_
       refine ol_r (r_eql rfl rfl) rfl ?_
       refine ol_r (r_move rfl) rfl ?_
       refine ol_split (d := 93) rfl (fun hs93 => ?_) (fun hs93 => ?_)
       ·have phs93 := hs93; try simp only [decide_eq_true_eq, decide_eq_false_iff_not, Bool.not_eq_true', Bool.not_eq_false', Bool.not_true, Bool.not_false] at phs93
        refine ol_g rfl rfl hs93 ?_
        refine ol_r (r_move rfl) rfl ?_
        refine ol_g rfl rfl hs93 ?_
        refine ol_r (r_move rfl) rfl ?_
        refine ol_g rfl rfl hs93 ?_
        refine ol_r (r_leq rfl rfl) rfl ?_
        refine ol_r (r_pickT rfl hs93 rfl) rfl ?_
        refine ol_r (r_move rfl) rfl ?_
        refine ol_split (d := 98) rfl (fun hs98 => ?_) (fun hs98 => ?_)
        ·have phs98 := hs98; try simp only [decide_eq_true_eq, decide_eq_false_iff_not, Bool.not_eq_true', Bool.not_eq_false', Bool.not_true, Bool.not_false] at phs98
         refine ol_g rfl rfl hs98 ?_
         refine ol_r (r_move rfl) rfl ?_
         refine ol_g rfl rfl hs98 ?_
         refine ol_r (r_move rfl) rfl ?_
         refine ol_g rfl rfl hs98 ?_
         refine ol_r (r_leq rfl rfl) rfl ?_
         refine ol_g rfl rfl hs98 ?_
         refine ol_r (r_move rfl) rfl ?_
         refine ol_split (d := 102) rfl (fun hs102 => ?_) (fun hs102 => ?_)
         ·have phs102 := hs102; try simp only [decide_eq_true_eq, decide_eq_false_iff_not, Bool.not_eq_true', Bool.not_eq_false', Bool.not_true, Bool.not_false] at phs102
          refine ol_s rfl rfl hs102 rfl ?_
          refine ol_s rfl rfl hs102 rfl ?_
          refine ol_s rfl rfl hs102 rfl ?_
          refine ol_g rfl rfl hs98 ?_
          refine ol_r (r_pickT rfl hs102 rfl) rfl ?_
          refine ol_r (r_pickT rfl hs98 rfl) rfl ?_
          refine ol_r (r_move rfl) rfl ?_
          refine ol_g rfl rfl rfl ?_
          refine ol_call rfl rfl cb14 rfl (fun w1 hb1 hs1 hB1 => Calls.mono (load_told _) ?_)
          rintro e w2 ⟨rfl, hb2⟩
          refine After.below rfl hb1 hs1 hB1 hb2 ?_
          clear hb2 hB1 hs1 hb1 w2 w1
          refine ol_r (r_pickT rfl rfl rfl) rfl ?_
          refine ol_r (r_assign rfl) rfl ?_
          refine ol_nil (to_k0 (fun _ _ h => h) (hK19 _ _ _ _ _ ?_))
          clear hK19
          refine hQ.ret (rvs1 (rv_t rfl)) (fun _ _ h => h) fun w hb hs hB hkd => ?_
          first
            | exact ⟨rfl, hb⟩
            | (exfalso; exact phs51 trivial)
            | (exfalso; exact phs81 trivial)
            | (exfalso
               have h1 := predL_mono pin.2 phs57 xs none (fun _ h => by cases h) hok.ord
               omega)
            | (exfalso; omega)
         ·have phs102 := hs102; try simp only [decide_eq_true_eq, decide_eq_false_iff_not, Bool.not_eq_true', Bool.not_eq_false', Bool.not_true, Bool.not_false] at phs102
          refine ol_g rfl rfl hs102 ?_
          refine ol_r (r_move rfl) rfl ?_
          refine ol_g rfl rfl hs102 ?_
          refine ol_r (r_move rfl) rfl ?_
          refine ol_g rfl rfl hs102 ?_
          refine ol_r (r_gtr rfl rfl) rfl ?_
          refine ol_g rfl rfl hs98 ?_
          refine ol_r (r_pickF rfl hs102 rfl) rfl ?_
          refine ol_r (r_pickT rfl hs98 rfl) rfl ?_
          refine ol_r (r_move rfl) rfl ?_
          refine ol_split (d := 108) rfl (fun hs108 => ?_) (fun hs108 => ?_)
          ·have phs108 := hs108; try simp only [decide_eq_true_eq, decide_eq_false_iff_not, Bool.not_eq_true', Bool.not_eq_false', Bool.not_true, Bool.not_false] at phs108
           refine ol_g rfl rfl hs108 ?_
           refine ol_call rfl rfl cb14 rfl (fun w1 hb1 hs1 hB1 => Calls.mono (load_told _) ?_)
           rintro e w2 ⟨rfl, hb2⟩
           refine After.below rfl hb1 hs1 hB1 hb2 ?_
           clear hb2 hB1 hs1 hb1 w2 w1
           refine ol_r (r_pickT rfl hs108 rfl) rfl ?_
           refine ol_r (r_assign rfl) rfl ?_
           refine ol_nil (to_k0 (fun _ _ h => h) (hK19 _ _ _ _ _ ?_))
           clear hK19
           refine hQ.ret (rvs1 (rv_t rfl)) (fun _ _ h => h) fun w hb hs hB hkd => ?_
           first
             | exact ⟨rfl, hb⟩
             | (exfalso; exact phs51 trivial)
             | (exfalso; exact phs81 trivial)
             | (exfalso
                have h1 := predL_mono pin.2 phs57 xs none (fun _ h => by cases h) hok.ord
                omega)
             | (exfalso; omega)
          ·have phs108 := hs108; try simp only [decide_eq_true_eq, decide_eq_false_iff_not, Bool.not_eq_true', Bool.not_eq_false', Bool.not_true, Bool.not_false] at phs108
           refine ol_s rfl rfl hs108 rfl ?_
           refine ol_r (r_pickF rfl hs108 rfl) rfl ?_
           refine ol_r (r_assign rfl) rfl ?_
           refine ol_nil (to_k0 (fun _ _ h => h) (hK19 _ _ _ _ _ ?_))
           clear hK19
           refine hQ.ret (rvs1 (rv_t rfl)) (fun _ _ h => h) fun w hb hs hB hkd => ?_
           first
             | exact ⟨rfl, hb⟩
             | (exfalso; exact phs51 trivial)
             | (exfalso; exact phs81 trivial)
             | (exfalso
                have h1 := predL_mono pin.2 phs57 xs none (fun _ h => by cases h) hok.ord
                omega)
             | (exfalso; omega)
        ·have phs98 := hs98; try simp only [decide_eq_true_eq, decide_eq_false_iff_not, Bool.not_eq_true', Bool.not_eq_false', Bool.not_true, Bool.not_false] at phs98
         refine ol_s rfl rfl hs98 rfl ?_
         refine ol_s rfl rfl hs98 rfl ?_
         refine ol_s rfl rfl hs98 rfl ?_
         refine ol_s rfl rfl hs98 rfl ?_
         refine ol_u rfl rfl rfl ?_
         refine ol_u rfl rfl rfl ?_
         refine ol_u rfl rfl rfl ?_
         refine ol_s rfl rfl hs98 rfl ?_
         refine ol_r (r_pickF rfl hs98 rfl) rfl ?_
         refine ol_r (r_move rfl) rfl ?_
         refine ol_s rfl rfl rfl rfl ?_
         refine ol_r (r_pickF rfl rfl rfl) rfl ?_
         refine ol_r (r_assign rfl) rfl ?_
         refine ol_nil (to_k0 (fun _ _ h => h) (hK19 _ _ _ _ _ ?_))
         clear hK19
         refine hQ.ret (rvs1 (rv_t rfl)) (fun _ _ h => h) fun w hb hs hB hkd => ?_
         first
           | exact ⟨rfl, hb⟩
           | (exfalso; exact phs51 trivial)
           | (exfalso; exact phs81 trivial)
           | (exfalso
              have h1 := predL_mono pin.2 phs57 xs none (fun _ h => by cases h) hok.ord
              omega)
           | (exfalso; omega)
       ·have phs93 := hs93; try simp only [decide_eq_true_eq, decide_eq_false_iff_not, Bool.not_eq_true', Bool.not_eq_false', Bool.not_true, Bool.not_false] at phs93
        refine ol_s rfl rfl hs93 rfl ?_
        refine ol_s rfl rfl hs93 rfl ?_
        refine ol_s rfl rfl hs93 rfl ?_
        refine ol_r (r_pickF rfl hs93 rfl) rfl ?_
        refine ol_r (r_move rfl) rfl ?_
        refine ol_s rfl rfl rfl rfl ?_
        refine ol_s rfl rfl rfl rfl ?_
        refine ol_s rfl rfl rfl rfl ?_
        refine ol_s rfl rfl rfl rfl ?_
        refine ol_u rfl rfl rfl ?_
        refine ol_u rfl rfl rfl ?_
        refine ol_u rfl rfl rfl ?_
        refine ol_s rfl rfl rfl rfl ?_
        refine ol_r (r_pickF rfl rfl rfl) rfl ?_
        refine ol_r (r_move rfl) rfl ?_
        refine ol_s rfl rfl rfl rfl ?_
        refine ol_r (r_pickF rfl rfl rfl) rfl ?_
        refine ol_r (r_assign rfl) rfl ?_
        refine ol_nil (to_k0 (fun _ _ h => h) (hK19 _ _ _ _ _ ?_))
        clear hK19
        refine hQ.ret (rvs1 (rv_t rfl)) (fun _ _ h => h) fun w hb hs hB hkd => ?_
        first
          | exact ⟨rfl, hb⟩
          | (exfalso; exact phs51 trivial)
          | (exfalso; exact phs81 trivial)
          | (exfalso
             have h1 := predL_mono pin.2 phs57 xs none (fun _ h => by cases h) hok.ord
             omega)
          | (exfalso; omega)
    ·have phs57 := hs57; try simp only [decide_eq_true_eq, decide_eq_false_iff_not, Bool.not_eq_true', Bool.not_eq_false', Bool.not_true, Bool.not_false] at phs57
     refine ol_s rfl rfl hs57 rfl ?_
     refine ol_s rfl rfl hs57 rfl ?_
     refine ol_s rfl rfl hs57 rfl ?_
     refine ol_r (r_pickF rfl hs57 rfl) rfl ?_
     refine ol_nil (to_k0 (fun _ _ h => h) (hK11 _ _ _ _ _ ?_))
     clear hK11
     refine wp_condF rfl ?_
     refine wp_skip' (to_k0 (fun _ _ h => h) (hK10 _ _ _ _ _ ?_))
     clear hK10
     refine wp_seq' fun K20 hK20 => ?_
     refine wp_reg ?_
     refine ol_r (r_move rfl) rfl ?_
     refine ol_r (r_move rfl) rfl ?_
     refine ol_r (r_move rfl) rfl ?_
     refine ol_call rfl rfl cb51 rfl (fun w1 hb1 hs1 hB1 => Calls.mono (load_Reach _ _ _ xs secs sl _ (hl.at hb1 hB1)) ?_)
     rintro e w2 ⟨rfl, hb2⟩
     refine After.below rfl hb1 hs1 hB1 hb2 ?_
     clear hb2 hB1 hs1 hb1 w2 w1
     refine ol_r (r_move rfl) rfl ?_
     refine ol_r (r_extract rfl rfl) rfl ?_
     refine ol_r (r_extract rfl rfl) rfl ?_
     refine ol_r (r_assign rfl) rfl ?_
     refine ol_r (r_assign rfl) rfl ?_
     refine ol_nil (to_k0 (fun _ _ h => h) (hK20 _ _ _ _ _ ?_))
     clear hK20
     refine wp_seq' fun K21 hK21 => ?_
     refine wp_seq' fun K22 hK22 => ?_
     refine wp_reg ?_
     refine ol_r (r_move rfl) rfl ?_
     refine ol_r (r_neq rfl rfl) rfl ?_
     refine ol_nil (to_k0 (fun _ _ h => h) (hK22 _ _ _ _ _ ?_))
     clear hK22
     first | refine wp_condD rfl (fun hc70 => ?_) (fun hc70 => ?_) | refine wp_condN rfl (fun hc70 => ?_) (fun hc70 => ?_) | refine wp_condNB rfl (fun hc70 => ?_) (fun hc70 => ?_) | refine wp_cond' rfl (fun hc70 => ?_) (fun hc70 => ?_)
     ·refine wp_seq' fun K23 hK23 => ?_
      refine wp_reg ?_
      refine ol_r (r_move rfl) rfl ?_
      refine ol_r (r_move rfl) rfl ?_
      refine ol_r (r_move rfl) rfl ?_
      refine ol_call rfl rfl cb52 rfl (fun w1 hb1 hs1 hB1 => Calls.mono (ref_Reach _ _ _ xs secs sl _ (hl.at hb1 hB1)) ?_)
      rintro e w2 ⟨rfl, hb2⟩
      refine After.below rfl hb1 hs1 hB1 hb2 ?_
      clear hb2 hB1 hs1 hb1 w2 w1
      refine ol_r (r_move rfl) rfl ?_
      refine ol_r (r_extract rfl rfl) rfl ?_
      refine ol_r (r_extract rfl rfl) rfl ?_
      refine ol_r (r_assign rfl) rfl ?_
      refine ol_r (r_assign rfl) rfl ?_
      refine ol_nil (to_k0 (fun _ _ h => h) (hK23 _ _ _ _ _ ?_))
      clear hK23
      refine wp_seq' fun K24 hK24 => ?_
      refine wp_reg ?_
      refine ol_r (r_move rfl) rfl ?_
      refine ol_r (r_move rfl) rfl ?_
      refine ol_r (r_eql rfl rfl) rfl ?_
      refine ol_r (r_move rfl) rfl ?_
      refine ol_split (d := 81) rfl (fun hs81 => ?_) (fun hs81 => ?_)
      ·have phs81 := hs81; try simp only [decide_eq_true_eq, decide_eq_false_iff_not, Bool.not_eq_true', Bool.not_eq_false', Bool.not_true, Bool.not_false] at phs81
       refine ol_g rfl rfl hs81 ?_
       refine ol_call rfl rfl cb14 rfl (fun w1 hb1 hs1 hB1 => Calls.mono (load_told _) ?_)
       rintro e w2 ⟨rfl, hb2⟩
       refine After.below rfl hb1 hs1 hB1 hb2 ?_
       clear hb2 hB1 hs1 hb1 w2 w1
       refine ol_r (r_pickT rfl hs81 rfl) rfl ?_
       refine ol_r (r_assign rfl) rfl ?_
       refine ol_nil (to_k0 (fun _ _ h => h) (hK24 _ _ _ _ _ ?_))
       clear hK24
       refine hQ.ret (rvs1 (rv_t rfl)) (fun _ _ h => h) fun w hb hs hB hkd => ?_
       first
         | exact ⟨rfl, hb⟩
         | (exfalso; exact phs51 trivial)
         | (exfalso; exact phs81 trivial)
         | (exfalso
            have h1 := predL_mono pin.2 phs57 xs none (fun _ h => by cases h) hok.ord
            omega)
         | (exfalso; omega)
      ·have phs81 := hs81; try simp only [decide_eq_true_eq, decide_eq_false_iff_not, Bool.not_eq_true', Bool.not_eq_false', Bool.not_true, Bool.not_false] at phs81
       refine ol_s rfl rfl hs81 rfl ?_
       refine ol_r (r_pickF rfl hs81 rfl) rfl ?_
       refine ol_r (r_assign rfl) rfl ?_
       refine ol_nil (to_k0 (fun _ _ h => h) (hK24 _ _ _ _ _ ?_))
       clear hK24
       refine hQ.ret (rvs1 (rv_t rfl)) (fun _ _ h => h) fun w hb hs hB hkd => ?_
       first
         | exact ⟨rfl, hb⟩
         | (exfalso; exact phs51 trivial)
         | (exfalso; exact phs81 trivial)
         | (exfalso
            have h1 := predL_mono pin.2 phs57 xs none (fun _ h => by cases h) hok.ord
            omega)
         | (exfalso; omega)
     ·refine wp_skip' (to_k0 (fun _ _ h => h) (hK21 _ _ _ _ _ ?_))
      clear hK21
      refine wp_seq' fun K25 hK25 => ?_
      refine wp_reg ?_
      obtain ⟨_, rin, hW1, hI⟩ := reachR_inv (Decidable.not_not.1 hc70)
      have hw0 := predR_0 (x := (reachR xs secs sl).1) p0 ⟨⟨hW1, hI.2.1⟩, pin.2⟩
      have hw2 : (predR xs (reachR xs secs sl).1 sl).2 = 0 := by rw [hw0]
      have hw1 : (predR xs (reachR xs secs sl).1 sl).1 ≤ secs := by rw [hw0]; exact hI.2.2.1 hW1
      have hq : (reachR xs secs sl).1 < q → secs < (predR xs q sl).1 := fun h => by
        rw [qv]
        have h1 := predL_mono pin.2 (show (reachR xs secs sl).1 + 1 ≤ q by omega) xs none (fun _ h => by cases h) hok.ord
        have h2 := hI.2.2.2 (by omega)
        omega
      refine ol_r (r_move rfl) rfl ?_
      refine ol_r (r_move rfl) rfl ?_
      refine ol_r (r_move rfl) rfl ?_
      refine ol_call rfl rfl cb49 rfl (fun w1 hb1 hs1 hB1 => Calls.mono (load_Predict _ _ _ xs (reachR xs secs sl).1 sl _ (hl.at hb1 hB1)) ?_)
      rintro e w2 ⟨rfl, hb2⟩
      refine After.below rfl hb1 hs1 hB1 hb2 ?_
      clear hb2 hB1 hs1 hb1 w2 w1
      refine ol_r (r_move rfl) rfl ?_
      refine ol_r (r_extract rfl rfl) rfl ?_
      refine ol_r (r_extract rfl rfl) rfl ?_
      refine ol_r (r_assign rfl) rfl ?_
      refine ol_r (r_assign rfl) rfl ?_
      refine ol_nil (to_k0 (fun _ _ h => h) (hK25 _ _ _ _ _ ?_))
      clear hK25
      refine wp_seq' fun K26 hK26 => ?_
      refine wp_reg ?_
      refine ol_r (r_move rfl) rfl ?_
      refine ol_r (r_eql rfl rfl) rfl ?_
      refine ol_r (r_move rfl) rfl ?_
      refine ol_split (d := 93) rfl (fun hs93 => ?_) (fun hs93 => ?_)
      ·have phs93 := hs93; try simp only [decide_eq_true_eq, decide_eq_false_iff_not, Bool.not_eq_true', Bool.not_eq_false', Bool.not_true, Bool.not_false] at phs93
       refine ol_g rfl rfl hs93 ?_
       refine ol_r (r_move rfl) rfl ?_
       refine ol_g rfl rfl hs93 ?_
       refine ol_r (r_move rfl) rfl ?_
       refine ol_g rfl rfl hs93 ?_
       refine ol_r (r_leq rfl rfl) rfl ?_
       refine ol_r (r_pickT rfl hs93 rfl) rfl ?_
       refine ol_r (r_move rfl) rfl ?_
       refine ol_split (d := 98) rfl (fun hs98 => ?_) (fun hs98 => ?_)
       ·have phs98 := hs98; try simp only [decide_eq_true_eq, decide_eq_false_iff_not, Bool.not_eq_true', Bool.not_eq_false', Bool.not_true, Bool.not_false] at phs98
        refine ol_g rfl rfl hs98 ?_
        refine ol_r (r_move rfl) rfl ?_
        refine ol_g rfl rfl hs98 ?_
        refine ol_r (r_move rfl) rfl ?_
        refine ol_g rfl rfl hs98 ?_
        refine ol_r (r_leq rfl rfl) rfl ?_
        refine ol_g rfl rfl hs98 ?_
        refine ol_r (r_move rfl) rfl ?_
        refine ol_split (d := 102) rfl (fun hs102 => ?_) (fun hs102 => ?_)
        ·have phs102 := hs102; try simp only [decide_eq_true_eq, decide_eq_false_iff_not, Bool.not_eq_true', Bool.not_eq_false', Bool.not_true, Bool.not_false] at phs102
         refine ol_s rfl rfl hs102 rfl ?_
         refine ol_s rfl rfl hs102 rfl ?_
         refine ol_s rfl rfl hs102 rfl ?_
         refine ol_g rfl rfl hs98 ?_
         refine ol_r (r_pickT rfl hs102 rfl) rfl ?_
         refine ol_r (r_pickT rfl hs98 rfl) rfl ?_
         refine ol_r (r_move rfl) rfl ?_
         refine ol_g rfl rfl rfl ?_
         refine ol_call rfl rfl cb14 rfl (fun w1 hb1 hs1 hB1 => Calls.mono (load_told _) ?_)
         rintro e w2 ⟨rfl, hb2⟩
         refine After.below rfl hb1 hs1 hB1 hb2 ?_
         clear hb2 hB1 hs1 hb1 w2 w1
         refine ol_r (r_pickT rfl rfl rfl) rfl ?_
         refine ol_r (r_assign rfl) rfl ?_
         refine ol_nil (to_k0 (fun _ _ h => h) (hK26 _ _ _ _ _ ?_))
         clear hK26
         refine hQ.ret (rvs1 (rv_t rfl)) (fun _ _ h => h) fun w hb hs hB hkd => ?_
         first
           | exact ⟨rfl, hb⟩
           | (exfalso; exact phs51 trivial)
           | (exfalso; exact phs81 trivial)
           | (exfalso
              have h1 := predL_mono pin.2 phs57 xs none (fun _ h => by cases h) hok.ord
              omega)
           | (exfalso; omega)
        ·have phs102 := hs102; try simp only [decide_eq_true_eq, decide_eq_false_iff_not, Bool.not_eq_true', Bool.not_eq_false', Bool.not_true, Bool.not_false] at phs102
         refine ol_g rfl rfl hs102 ?_
         refine ol_r (r_move rfl) rfl ?_
         refine ol_g rfl rfl hs102 ?_
         refine ol_r (r_move rfl) rfl ?_
         refine ol_g rfl rfl hs102 ?_
         refine ol_r (r_gtr rfl rfl) rfl ?_
         refine ol_g rfl rfl hs98 ?_
         refine ol_r (r_pickF rfl hs102 rfl) rfl ?_
         refine ol_r (r_pickT rfl hs98 rfl) rfl ?_
         refine ol_r (r_move rfl) rfl ?_
         refine ol_split (d := 108) rfl (fun hs108 => ?_) (fun hs108 => ?_)
         ·have phs108 := hs108; try simp only [decide_eq_true_eq, decide_eq_false_iff_not, Bool.not_eq_true', Bool.not_eq_false', Bool.not_true, Bool.not_false] at phs108
          refine ol_g rfl rfl hs108 ?_
          refine ol_call rfl rfl cb14 rfl (fun w1 hb1 hs1 hB1 => Calls.mono (load_told _) ?_)
          rintro e w2 ⟨rfl, hb2⟩
          refine After.below rfl hb1 hs1 hB1 hb2 ?_
          clear hb2 hB1 hs1 hb1 w2 w1
          refine ol_r (r_pickT rfl hs108 rfl) rfl ?_
          refine ol_r (r_assign rfl) rfl ?_
          refine ol_nil (to_k0 (fun _ _ h => h) (hK26 _ _ _ _ _ ?_))
          clear hK26
          refine hQ.ret (rvs1 (rv_t rfl)) (fun _ _ h => h) fun w hb hs hB hkd => ?_
          first
            | exact ⟨rfl, hb⟩
            | (exfalso; exact phs51 trivial)
            | (exfalso; exact phs81 trivial)
            | (exfalso
               have h1 := predL_mono pin.2 phs57 xs none (fun _ h => by cases h) hok.ord
               omega)
            | (exfalso; omega)
         ·have phs108 := hs108; try simp only [decide_eq_true_eq, decide_eq_false_iff_not, Bool.not_eq_true', Bool.not_eq_false', Bool.not_true, Bool.not_false] at phs108
          refine ol_s rfl rfl hs108 rfl ?_
          refine ol_r (r_pickF rfl hs108 rfl) rfl ?_
          refine ol_r (r_assign rfl) rfl ?_
          refine ol_nil (to_k0 (fun _ _ h => h) (hK26 _ _ _ _ _ ?_))
          clear hK26
          refine hQ.ret (rvs1 (rv_t rfl)) (fun _ _ h => h) fun w hb hs hB hkd => ?_
          first
            | exact ⟨rfl, hb⟩
            | (exfalso; exact phs51 trivial)
            | (exfalso; exact phs81 trivial)
            | (exfalso
               have h1 := predL_mono pin.2 phs57 xs none (fun _ h => by cases h) hok.ord
               omega)
            | (exfalso; omega)
       ·have phs98 := hs98; try simp only [decide_eq_true_eq, decide_eq_false_iff_not, Bool.not_eq_true', Bool.not_eq_false', Bool.not_true, Bool.not_false] at phs98
        refine ol_s rfl rfl hs98 rfl ?_
        refine ol_s rfl rfl hs98 rfl ?_
        refine ol_s rfl rfl hs98 rfl ?_
        refine ol_s rfl rfl hs98 rfl ?_
        refine ol_u rfl rfl rfl ?_
        refine ol_u rfl rfl rfl ?_
        refine ol_u rfl rfl rfl ?_
        refine ol_s rfl rfl hs98 rfl ?_
        refine ol_r (r_pickF rfl hs98 rfl) rfl ?_
        refine ol_r (r_move rfl) rfl ?_
        refine ol_s rfl rfl rfl rfl ?_
        refine ol_r (r_pickF rfl rfl rfl) rfl ?_
        refine ol_r (r_assign rfl) rfl ?_
        refine ol_nil (to_k0 (fun _ _ h => h) (hK26 _ _ _ _ _ ?_))
        clear hK26
        refine hQ.ret (rvs1 (rv_t rfl)) (fun _ _ h => h) fun w hb hs hB hkd => ?_
        first
          | exact ⟨rfl, hb⟩
          | (exfalso; exact phs51 trivial)
          | (exfalso; exact phs81 trivial)
          | (exfalso
             have h1 := predL_mono pin.2 phs57 xs none (fun _ h => by cases h) hok.ord
             omega)
          | (exfalso; omega)
      ·have phs93 := hs93; try simp only [decide_eq_true_eq, decide_eq_false_iff_not, Bool.not_eq_true', Bool.not_eq_false', Bool.not_true, Bool.not_false] at phs93
       refine ol_s rfl rfl hs93 rfl ?_
       refine ol_s rfl rfl hs93 rfl ?_
       refine ol_s rfl rfl hs93 rfl ?_
       refine ol_r (r_pickF rfl hs93 rfl) rfl ?_
       refine ol_r (r_move rfl) rfl ?_
       refine ol_s rfl rfl rfl rfl ?_
       refine ol_s rfl rfl rfl rfl ?_
       refine ol_s rfl rfl rfl rfl ?_
       refine ol_s rfl rfl rfl rfl ?_
       refine ol_u rfl rfl rfl ?_
       refine ol_u rfl rfl rfl ?_
       refine ol_u rfl rfl rfl ?_
       refine ol_s rfl rfl rfl rfl ?_
       refine ol_r (r_pickF rfl rfl rfl) rfl ?_
       refine ol_r (r_move rfl) rfl ?_
       refine ol_s rfl rfl rfl rfl ?_
       refine ol_r (r_pickF rfl rfl rfl) rfl ?_
       refine ol_r (r_assign rfl) rfl ?_
       refine ol_nil (to_k0 (fun _ _ h => h) (hK26 _ _ _ _ _ ?_))
       clear hK26
       refine hQ.ret (rvs1 (rv_t rfl)) (fun _ _ h => h) fun w hb hs hB hkd => ?_
       first
         | exact ⟨rfl, hb⟩
         | (exfalso; exact phs51 trivial)
         | (exfalso; exact phs81 trivial)
         | (exfalso
            have h1 := predL_mono pin.2 phs57 xs none (fun _ h => by cases h) hok.ord
            omega)
         | (exfalso; omega)
end Go.Proofs.Ytamlldedmhkobaa
