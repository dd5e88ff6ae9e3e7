/-
  The walk of EffortBestIsBest.
-/
import Derived.Test.YtafkojlccknicaaBest
namespace Go.Proofs.Ytafkojlccknicaa
open Go Go.RowKit Hx
set_option linter.unusedVariables false
set_option linter.unusedSimpArgs false
set_option maxRecDepth 8000
/-- What the statement's own function tells of a window. -/
def winR (xs : List Int) (z : Nat) (f : Int) : Int × Bool := if f < 0 ∨ (xs.length : Int) - z < f then (0, false) else if pU xs (f.toNat + z) = pU xs f.toNat then (pS xs (f.toNat + z) - pS xs f.toNat, true) else (0, false)
theorem law_best1 (b3 b4 : Nat) (a : Option Addr) (n cap : Nat) (xs : List Int) (z : Nat) (f : Int) (w : World) (h3 : Blk w.heap.size w b3 [(0, .slice a n cap)]) (h4 : Blk w.heap.size w b4 [(0, .int .i64 z)]) (hl : Rd encI w.heap.size w a n cap xs) (hz : 1 ≤ z ∧ z ≤ 1000000) (hx : streamR xs = 0) :
    Calls Try.prog 17 #[.int .i64 f, .pointer (some ⟨b3, 0, none⟩), .pointer (some ⟨b4, 0, none⟩)] w fun e w' => e = .returned (.tuple #[.int .i64 (winR xs z f).1, .bool (winR xs z f).2]) ∧ Below w.heap.size w w' := by
  have hn := hl.len
  have hfit := hl.fit
  subst hn
  have hok := streamR_ok hx
  refine enterQ (N := 37) (H := []) (B := w.heap.size) (args := [_, _, _]) Try.func17 rfl rfl rfl (Nat.le_refl _) (Sat.nil _ _) fun Q hQ => ?_
  refine wp_seq' fun K1 hK1 => ?_
  refine wp_reg ?_
  refine ol_r (r_assign rfl) rfl ?_
  refine ol_r (r_assign rfl) rfl ?_
  refine ol_nil (to_k0 (fun _ _ h => h) (hK1 _ _ ?_))
  clear hK1
  refine wp_seq' fun K2 hK2 => ?_
  refine wp_seq' fun K3 hK3 => ?_
  refine wp_reg ?_
  refine ol_r (r_move rfl) rfl ?_
  refine ol_r (r_lss rfl rfl) rfl ?_
  refine ol_r (r_move rfl) rfl ?_
  refine ol_split (d := 11) rfl (fun hs11 => ?_) (fun hs11 => ?_)
  · have phs11 := hs11; try simp only [decide_eq_true_eq, decide_eq_false_iff_not, Bool.not_eq_true', Bool.not_eq_false', Bool.not_true, Bool.not_false] at phs11
    refine ol_s rfl rfl hs11 rfl ?_
    refine ol_s rfl rfl hs11 rfl ?_
    refine ol_s rfl rfl hs11 rfl ?_
    refine ol_s rfl rfl hs11 rfl ?_
    refine ol_s rfl rfl hs11 rfl ?_
    refine ol_s rfl rfl hs11 rfl ?_
    refine ol_r (r_pickT rfl hs11 rfl) rfl ?_
    refine ol_nil (to_k0 (fun _ _ h => h) (hK3 _ _ ?_))
    clear hK3
    refine wp_condT rfl ?_
    refine wp_seq' fun K4 hK4 => ?_
    refine wp_reg ?_
    refine ol_r (r_assign rfl) rfl ?_
    refine ol_r (r_assign rfl) rfl ?_
    refine ol_nil (to_k0 (fun _ _ h => h) (hK4 _ _ ?_))
    clear hK4
    refine hQ.ret (rvs2 (rv_t rfl) (rv_t rfl)) (fun _ _ h => h) fun w hb hs hB => ?_
    first
      | (refine ⟨?_, hb⟩; unfold winR; rw [if_pos (by omega)]; done)
      | (refine ⟨?_, hb⟩; unfold winR; rw [if_neg (by omega), if_neg]
         have m1 := pU_mono (xs := xs) (show g + k + 1 ≤ g + z by omega)
         have m2 := pU_succ hg
         rw [nv_neg hc31] at m2
         rw [Int.toNat_natCast]
         omega)
      | (have hkz : k = z := by omega
         subst hkz
         refine ⟨?_, hb⟩; unfold winR; rw [if_neg (by omega), Int.toNat_natCast, if_pos hu, hv])
  · have phs11 := hs11; try simp only [decide_eq_true_eq, decide_eq_false_iff_not, Bool.not_eq_true', Bool.not_eq_false', Bool.not_true, Bool.not_false] at phs11
    refine ol_g rfl rfl hs11 ?_
    refine ol_r (r_move rfl) rfl ?_
    refine ol_g rfl rfl hs11 ?_
    refine ol_r (r_ldw rfl (fun w1 hb1 hs1 hB1 => Blk.loads (o := 0) h3 hb1 sc22 rfl)) rfl ?_
    refine ol_g rfl rfl hs11 ?_
    refine ol_r (r_len rfl sl22) rfl ?_
    refine ol_g rfl rfl hs11 ?_
    refine ol_r (r_ldw rfl (fun w1 hb1 hs1 hB1 => Blk.loads (o := 0) h4 hb1 sc3 rfl)) rfl ?_
    refine ol_g rfl rfl hs11 ?_
    refine ol_r (r_sub rfl rfl (by omega)) rfl ?_
    refine ol_g rfl rfl hs11 ?_
    refine ol_r (r_gtr rfl rfl) rfl ?_
    refine ol_r (r_pickF rfl hs11 rfl) rfl ?_
    refine ol_nil (to_k0 (fun _ _ h => h) (hK3 _ _ ?_))
    clear hK3
    first | refine wp_condD rfl (fun hc18 => ?_) (fun hc18 => ?_) | refine wp_condN rfl (fun hc18 => ?_) (fun hc18 => ?_) | refine wp_condNB rfl (fun hc18 => ?_) (fun hc18 => ?_) | refine wp_cond' rfl (fun hc18 => ?_) (fun hc18 => ?_)
    · refine wp_seq' fun K5 hK5 => ?_
      refine wp_reg ?_
      refine ol_r (r_assign rfl) rfl ?_
      refine ol_r (r_assign rfl) rfl ?_
      refine ol_nil (to_k0 (fun _ _ h => h) (hK5 _ _ ?_))
      clear hK5
      refine hQ.ret (rvs2 (rv_t rfl) (rv_t rfl)) (fun _ _ h => h) fun w hb hs hB => ?_
      first
        | (refine ⟨?_, hb⟩; unfold winR; rw [if_pos (by omega)]; done)
        | (refine ⟨?_, hb⟩; unfold winR; rw [if_neg (by omega), if_neg]
           have m1 := pU_mono (xs := xs) (show g + k + 1 ≤ g + z by omega)
           have m2 := pU_succ hg
           rw [nv_neg hc31] at m2
           rw [Int.toNat_natCast]
           omega)
        | (have hkz : k = z := by omega
           subst hkz
           refine ⟨?_, hb⟩; unfold winR; rw [if_neg (by omega), Int.toNat_natCast, if_pos hu, hv])
    · refine wp_skip' (to_k0 (fun _ _ h => h) (hK2 _ _ ?_))
      clear hK2
      refine wp_seq' fun K6 hK6 => ?_
      refine wp_reg ?_
      refine ol_r (r_assign rfl) rfl ?_
      refine ol_nil (to_k0 (fun _ _ h => h) (hK6 _ _ ?_))
      clear hK6
      refine wp_seq' fun K7 hK7 => ?_
      refine wp_seq' fun K8 hK8 => ?_
      refine wp_reg ?_
      obtain ⟨g, rfl⟩ := Int.eq_ofNat_of_zero_le (show 0 ≤ f by omega)
      refine ol_r (r_ldw rfl (fun w1 hb1 hs1 hB1 => Blk.loads (o := 0) h3 hb1 sc22 rfl)) rfl ?_
      refine ol_r (r_move rfl) rfl ?_
      refine ol_r (r_move rfl) rfl ?_
      refine ol_r (r_ldw rfl (fun w1 hb1 hs1 hB1 => Blk.loads (o := 0) h4 hb1 sc3 rfl)) rfl ?_
      refine ol_r (r_add rfl rfl (by omega)) rfl ?_
      refine ol_slr hl rfl rfl rfl sl22 (by simp only [Option.getD_some, Option.getD_none]; omega) rfl fun a24 c24 hl24 => ?_
      try simp only [Option.getD_some, Option.getD_none] at hl24 ⊢
      have e1 : (((g : Int) + (z : Int)).toNat - ((g : Int)).toNat) = z := by omega
      simp only [e1, Int.toNat_natCast] at hl24 ⊢
      refine ol_r (r_len rfl sl22) rfl ?_
      refine ol_r (r_move rfl) rfl ?_
      refine ol_nil (to_k0 (fun _ _ h => h) (hK8 _ _ ?_))
      clear hK8
      refine wp_block' ?_
      apply wp_loopM (σ := Nat × Int) (fun s => s.1 ≤ z ∧ s.2 = pS xs (g + s.1) - pS xs g ∧ pU xs (g + s.1) = pU xs g) (fun s => [(26, .int .i64 s.1), (6, .int .i64 s.2)]) [(24, _), (25, _)] (fun s => []) [] (fun s => z - s.1) ((0, 0))
      · try dsimp only
        exact ⟨Nat.zero_le _, by simp, by simp⟩
      · exact (sub_cons rfl (sub_cons rfl sub_nil))
      · exact (sub_cons rfl (sub_cons rfl sub_nil))
      · exact subH_nil
      · exact subH_nil
      · rintro ⟨k, v⟩ ⟨hk, hv, hu⟩
        dsimp only at hk hv hu ⊢
        intro K9 hK9
        refine wp_seq' fun K10 hK10 => ?_
        refine wp_reg ?_
        refine ol_r (r_lss rfl rfl) rfl ?_
        refine ol_nil (to_k0 (fun _ _ h => h) (hK10 _ _ ?_))
        clear hK10
        refine wp_seq' fun K11 hK11 => ?_
        first | refine wp_condD rfl (fun hc27 => ?_) (fun hc27 => ?_) | refine wp_condN rfl (fun hc27 => ?_) (fun hc27 => ?_) | refine wp_condNB rfl (fun hc27 => ?_) (fun hc27 => ?_) | refine wp_cond' rfl (fun hc27 => ?_) (fun hc27 => ?_)
        · refine wp_skip' (to_k0 (fun _ _ h => h) (hK11 _ _ ?_))
          clear hK11
          refine wp_seq' fun K12 hK12 => ?_
          refine wp_block' ?_
          refine wp_seq' fun K13 hK13 => ?_
          refine wp_reg ?_
          refine ol_ixr hl24 rfl rfl sl22 (by omega) rfl fun x28 hx28 => ?_
          try simp only [Int.toNat_natCast] at hx28
          refine ol_r (r_ldw rfl (fun w1 hb1 hs1 hB1 => show Loads _ _ _ _ (.int .i64 x28) from Rd.loads hl24 ty3 hx28 hb1)) rfl ?_
          refine ol_r (r_assign rfl) rfl ?_
          refine ol_nil (to_k0 (fun _ _ h => h) (hK13 _ _ ?_))
          clear hK13
          refine wp_seq' fun K14 hK14 => ?_
          refine wp_seq' fun K15 hK15 => ?_
          refine wp_reg ?_
          have hg : xs[g + k]? = some x28 := by
            rw [List.getElem?_take, if_pos (by omega), List.getElem?_drop] at hx28
            exact hx28
          have q1 := pS_bd hok.1 hok.2 (g + k)
          have q2 := pS_bd hok.1 hok.2 g
          have qx := hok.2 _ (List.mem_of_getElem? hg)
          refine ol_r (r_move rfl) rfl ?_
          refine ol_r (r_lss rfl rfl) rfl ?_
          refine ol_nil (to_k0 (fun _ _ h => h) (hK15 _ _ ?_))
          clear hK15
          first | refine wp_condD rfl (fun hc31 => ?_) (fun hc31 => ?_) | refine wp_condN rfl (fun hc31 => ?_) (fun hc31 => ?_) | refine wp_condNB rfl (fun hc31 => ?_) (fun hc31 => ?_) | refine wp_cond' rfl (fun hc31 => ?_) (fun hc31 => ?_)
          · refine wp_seq' fun K16 hK16 => ?_
            refine wp_reg ?_
            refine ol_r (r_assign rfl) rfl ?_
            refine ol_r (r_assign rfl) rfl ?_
            refine ol_nil (to_k0 (fun _ _ h => h) (hK16 _ _ ?_))
            clear hK16
            refine hQ.ret (rvs2 (rv_t rfl) (rv_t rfl)) (fun _ _ h => h) fun w hb hs hB => ?_
            first
              | (refine ⟨?_, hb⟩; unfold winR; rw [if_pos (by omega)]; done)
              | (refine ⟨?_, hb⟩; unfold winR; rw [if_neg (by omega), if_neg]
                 have m1 := pU_mono (xs := xs) (show g + k + 1 ≤ g + z by omega)
                 have m2 := pU_succ hg
                 rw [nv_neg hc31] at m2
                 rw [Int.toNat_natCast]
                 omega)
              | (have hkz : k = z := by omega
                 subst hkz
                 refine ⟨?_, hb⟩; unfold winR; rw [if_neg (by omega), Int.toNat_natCast, if_pos hu, hv])
          · refine wp_skip' (to_k0 (fun _ _ h => h) (hK14 _ _ ?_))
            clear hK14
            refine wp_reg ?_
            refine ol_r (r_move rfl) rfl ?_
            refine ol_r (r_move rfl) rfl ?_
            refine ol_r (r_add rfl rfl (by omega)) rfl ?_
            refine ol_r (r_assign rfl) rfl ?_
            refine ol_nil (to_k0 (fun _ _ h => h) (hK12 _ _ ?_))
            clear hK12
            refine wp_reg ?_
            refine ol_r (r_add rfl rfl (by omega)) rfl ?_
            refine ol_r (r_move rfl) rfl ?_
            refine ol_nil (to_k0 (fun _ _ h => h) (hK9 ((k + 1, _)) _ _ ?_ ?_ (sub_cons rfl (sub_cons rfl sub_nil)) (sub_cons rfl (sub_cons rfl sub_nil)) (by exact subH_nil) subH_nil))
            · try dsimp only
              exact ⟨by omega, by rw [← Nat.add_assoc, pS_succ hg, hv, pv_nn hc31]; omega, by rw [← Nat.add_assoc, pU_succ hg, nv_nn hc31]; omega⟩
            · try dsimp only
              omega
        · refine wp_exit' (to_k0 (fun _ _ h => h) (hK7 _ _ ?_))
          clear hK7
          refine wp_seq' fun K17 hK17 => ?_
          refine wp_reg ?_
          refine ol_r (r_move rfl) rfl ?_
          refine ol_r (r_assign rfl) rfl ?_
          refine ol_r (r_assign rfl) rfl ?_
          refine ol_nil (to_k0 (fun _ _ h => h) (hK17 _ _ ?_))
          clear hK17
          refine hQ.ret (rvs2 (rv_t rfl) (rv_t rfl)) (fun _ _ h => h) fun w hb hs hB => ?_
          first
            | (refine ⟨?_, hb⟩; unfold winR; rw [if_pos (by omega)]; done)
            | (refine ⟨?_, hb⟩; unfold winR; rw [if_neg (by omega), if_neg]
               have m1 := pU_mono (xs := xs) (show g + k + 1 ≤ g + z by omega)
               have m2 := pU_succ hg
               rw [nv_neg hc31] at m2
               rw [Int.toNat_natCast]
               omega)
            | (have hkz : k = z := by omega
               subst hkz
               refine ⟨?_, hb⟩; unfold winR; rw [if_neg (by omega), Int.toNat_natCast, if_pos hu, hv])
theorem win_good {xs : List Int} {z : Nat} {b : BestS} {f : Int} (hz : 1 ≤ z) (hL : BestLaw xs z (xs.length + 1 - z) b) (h : (winR xs z f).2 = true) : b.found = true ∧ (winR xs z f).1 ≤ b.sum ∧ ((winR xs z f).1 = b.sum → b.at_ ≤ f) := by
  unfold winR at h ⊢
  by_cases h1 : f < 0 ∨ (xs.length : Int) - z < f
  · rw [if_pos h1] at h; cases h
  · rw [if_neg h1] at h ⊢
    by_cases h2 : pU xs (f.toNat + z) = pU xs f.toNat
    · rw [if_pos h2]
      dsimp only
      cases hf : b.found with
      | false => exact absurd h2 ((hL.none hf).2.2 f.toNat (by omega))
      | true =>
        obtain ⟨g, g1, g2, g3, g4, g5⟩ := hL.some hf
        have := g5 f.toNat (by omega) h2
        exact ⟨rfl, this.1, fun h3 => by have := this.2 h3; omega⟩
    · rw [if_neg h2] at h; cases h
theorem win_own {xs : List Int} {z : Nat} {b : BestS} (hz : 1 ≤ z) (hL : BestLaw xs z (xs.length + 1 - z) b) (h : b.found = true) : winR xs z b.at_ = (b.sum, true) := by
  obtain ⟨g, g1, g2, g3, g4, _⟩ := hL.some h
  unfold winR
  rw [g1, if_neg (by omega), Int.toNat_natCast, if_pos g3, g4]
theorem law_bib (a : Option Addr) (n cap : Nat) (xs : List Int) (size at_ : Int) (w : World) (hl : Rd encI w.heap.size w a n cap xs) :
    Calls Try.prog 3 #[.slice a n cap, .int .i64 size, .int .i64 at_] w fun e w' => e = .returned (.bool true) ∧ Below w.heap.size w w' := by
  have hn := hl.len
  have hfit := hl.fit
  subst hn
  refine enterQ (N := 87) (H := []) (B := w.heap.size) (args := [_, _, _]) Try.func3 rfl rfl rfl (Nat.le_refl _) (Sat.nil _ _) fun Q hQ => ?_
  refine wp_seq' fun K1 hK1 => ?_
  refine wp_reg ?_
  refine ol_box 3 rfl rfl rfl fun b3 => ?_
  refine ol_box 4 rfl rfl rfl fun b4 => ?_
  refine ol_r (r_assign rfl) rfl ?_
  refine ol_nil (to_k0 (fun _ _ h => h) (hK1 _ _ ?_))
  clear hK1
  refine wp_seq' fun K2 hK2 => ?_
  refine wp_reg ?_
  refine ol_r (r_ld (id := 3) rfl rfl rfl sc22) rfl ?_
  refine ol_r (r_ld (id := 4) rfl rfl rfl sc3) rfl ?_
  refine ol_call rfl rfl cb14 rfl (fun w1 hb1 hs1 hB1 => Calls.mono (effort_Best _ _ _ xs _ _ (hl.at hb1 hB1)) ?_)
  rintro e w2 ⟨rfl, hb2⟩
  refine After.below rfl hb1 hs1 hB1 hb2 ?_
  clear hb2 hB1 hs1 hb1 w2 w1
  refine ol_r (r_move rfl) rfl ?_
  refine ol_r (r_extract rfl rfl) rfl ?_
  refine ol_r (r_extract rfl rfl) rfl ?_
  refine ol_alloc 7 z24 rfl fun b7 => ?_
  refine ol_store (id := 7) rfl rfl rfl rfl sz24 rfl rfl (by first | decide | exact Nat.zero_lt_succ _ | simp) ?_
  refine ol_r (r_assign rfl) rfl ?_
  refine ol_nil (to_k0 (fun _ _ h => h) (hK2 _ _ ?_))
  clear hK2
  refine wp_seq' fun K3 hK3 => ?_
  refine wp_seq' fun K4 hK4 => ?_
  refine wp_reg ?_
  refine ol_r (r_move rfl) rfl ?_
  refine ol_r (r_neq rfl rfl) rfl ?_
  refine ol_nil (to_k0 (fun _ _ h => h) (hK4 _ _ ?_))
  clear hK4
  first | refine wp_condD rfl (fun hc23 => ?_) (fun hc23 => ?_) | refine wp_condN rfl (fun hc23 => ?_) (fun hc23 => ?_) | refine wp_condNB rfl (fun hc23 => ?_) (fun hc23 => ?_) | refine wp_cond' rfl (fun hc23 => ?_) (fun hc23 => ?_)
  · refine wp_seq' fun K5 hK5 => ?_
    refine wp_reg ?_
    refine ol_r (r_ld (id := 3) rfl rfl rfl sc22) rfl ?_
    refine ol_r (r_ld (id := 4) rfl rfl rfl sc3) rfl ?_
    refine ol_call rfl rfl cb15 rfl (fun w1 hb1 hs1 hB1 => Calls.mono (ref_Best _ _ _ xs _ _ (hl.at hb1 hB1)) ?_)
    rintro e w2 ⟨rfl, hb2⟩
    refine After.below rfl hb1 hs1 hB1 hb2 ?_
    clear hb2 hB1 hs1 hb1 w2 w1
    refine ol_r (r_move rfl) rfl ?_
    refine ol_r (r_extract rfl rfl) rfl ?_
    refine ol_r (r_extract rfl rfl) rfl ?_
    refine ol_alloc 9 z24 rfl fun b9 => ?_
    refine ol_store (id := 9) rfl rfl rfl rfl sz24 rfl rfl (by first | decide | exact Nat.zero_lt_succ _ | simp) ?_
    refine ol_r (r_assign rfl) rfl ?_
    refine ol_nil (to_k0 (fun _ _ h => h) (hK5 _ _ ?_))
    clear hK5
    refine wp_seq' fun K6 hK6 => ?_
    refine wp_reg ?_
    refine ol_r (r_move rfl) rfl ?_
    refine ol_r (r_move rfl) rfl ?_
    refine ol_r (r_eql rfl rfl) rfl ?_
    refine ol_r (r_move rfl) rfl ?_
    refine ol_split (d := 33) rfl (fun hs33 => ?_) (fun hs33 => ?_)
    · have phs33 := hs33; try simp only [decide_eq_true_eq, decide_eq_false_iff_not, Bool.not_eq_true', Bool.not_eq_false', Bool.not_true, Bool.not_false] at phs33
      refine ol_g rfl rfl hs33 ?_
      refine ol_call rfl rfl cb16 rfl (fun w1 hb1 hs1 hB1 => Calls.mono (effort_told _) ?_)
      rintro e w2 ⟨rfl, hb2⟩
      refine After.below rfl hb1 hs1 hB1 hb2 ?_
      clear hb2 hB1 hs1 hb1 w2 w1
      refine ol_r (r_pickT rfl hs33 rfl) rfl ?_
      refine ol_r (r_assign rfl) rfl ?_
      refine ol_nil (to_k0 (fun _ _ h => h) (hK6 _ _ ?_))
      clear hK6
      refine hQ.ret (rvs1 (rv_t rfl)) (fun _ _ h => h) fun w hb hs hB => ?_
      first
        | exact ⟨rfl, hb⟩
        | (exfalso; exact phs33 trivial)
        | (exfalso; simp_all; done)
        | (exfalso
           have A := fun h => win_good (f := at_) hz' hL h
           have O := fun h => win_own hz' hL h
           first
             | (simp_all; done)
             | (simp_all; omega))
    · have phs33 := hs33; try simp only [decide_eq_true_eq, decide_eq_false_iff_not, Bool.not_eq_true', Bool.not_eq_false', Bool.not_true, Bool.not_false] at phs33
      refine ol_s rfl rfl hs33 rfl ?_
      refine ol_r (r_pickF rfl hs33 rfl) rfl ?_
      refine ol_r (r_assign rfl) rfl ?_
      refine ol_nil (to_k0 (fun _ _ h => h) (hK6 _ _ ?_))
      clear hK6
      refine hQ.ret (rvs1 (rv_t rfl)) (fun _ _ h => h) fun w hb hs hB => ?_
      first
        | exact ⟨rfl, hb⟩
        | (exfalso; exact phs33 trivial)
        | (exfalso; simp_all; done)
        | (exfalso
           have A := fun h => win_good (f := at_) hz' hL h
           have O := fun h => win_own hz' hL h
           first
             | (simp_all; done)
             | (simp_all; omega))
  · refine wp_skip' (to_k0 (fun _ _ h => h) (hK3 _ _ ?_))
    clear hK3
    refine wp_seq' fun K7 hK7 => ?_
    refine wp_reg ?_
    refine ol_r (r_func rfl) rfl ?_
    refine ol_r (r_assign rfl) rfl ?_
    refine ol_nil (to_k0 (fun _ _ h => h) (hK7 _ _ ?_))
    clear hK7
    refine wp_seq' fun K8 hK8 => ?_
    refine wp_seq' fun K9 hK9 => ?_
    refine wp_reg ?_
    have hE : (bestR xs size).2.2 = 0 := Decidable.not_not.1 hc23
    have hR : streamR xs = 0 ∧ inB size 1 1000000 = true := by
      unfold bestR at hE
      by_cases h1 : streamR xs ≠ 0
      · rw [if_pos h1] at hE; exact absurd hE h1
      · rw [if_neg h1] at hE
        by_cases h2 : inB size 1 1000000 = true
        · exact ⟨Decidable.not_not.1 h1, h2⟩
        · rw [if_neg h2] at hE; cases hE
    have hz := inB_iff.1 hR.2
    obtain ⟨z, rfl⟩ := Int.eq_ofNat_of_zero_le (show 0 ≤ size by omega)
    have hbR : bestR xs z = (bestN xs z (xs.length + 1 - z), (z : Int), (0 : Int)) := by unfold bestR; rw [if_neg (by simp [hR.1]), if_pos hR.2]; rfl
    have hL := best_law xs z (xs.length + 1 - z)
    have hz' : 1 ≤ z := by omega
    simp only [hbR] at hc23 ⊢
    generalize bestN xs z (xs.length + 1 - z) = b at *
    refine ol_r (r_move rfl) rfl ?_
    refine ol_r (r_move rfl) rfl ?_
    refine ol_call rfl rfl cb17 rfl (fun w1 hb1 hs1 hB1 => Calls.mono (law_best1 _ _ _ _ _ xs z _ _ (hs1.blk (id := 3) rfl) (hs1.blk (id := 4) rfl) (hl.at hb1 hB1) (by omega) hR.1) ?_)
    rintro e w2 ⟨rfl, hb2⟩
    refine After.below rfl hb1 hs1 hB1 hb2 ?_
    clear hb2 hB1 hs1 hb1 w2 w1
    refine ol_r (r_move rfl) rfl ?_
    refine ol_r (r_extract rfl rfl) rfl ?_
    refine ol_r (r_extract rfl rfl) rfl ?_
    refine ol_r (r_assign rfl) rfl ?_
    refine ol_r (r_assign rfl) rfl ?_
    refine ol_nil (to_k0 (fun _ _ h => h) (hK9 _ _ ?_))
    clear hK9
    refine wp_seq' fun K10 hK10 => ?_
    refine wp_reg ?_
    refine ol_r (r_move rfl) rfl ?_
    refine ol_r (r_move rfl) rfl ?_
    refine ol_split (d := 44) rfl (fun hs44 => ?_) (fun hs44 => ?_)
    · have phs44 := hs44; try simp only [decide_eq_true_eq, decide_eq_false_iff_not, Bool.not_eq_true', Bool.not_eq_false', Bool.not_true, Bool.not_false] at phs44
      refine ol_g rfl rfl hs44 ?_
      refine ol_r (r_fa (o' := 3) rfl fl24_3 rfl) rfl ?_
      refine ol_g rfl rfl hs44 ?_
      refine ol_r (r_ld (id := 7) rfl rfl rfl sc4) rfl ?_
      refine ol_g rfl rfl hs44 ?_
      refine ol_r (r_not rfl) rfl ?_
      refine ol_g rfl rfl hs44 ?_
      refine ol_r (r_move rfl) rfl ?_
      refine ol_split (d := 48) rfl (fun hs48 => ?_) (fun hs48 => ?_)
      · have phs48 := hs48; try simp only [decide_eq_true_eq, decide_eq_false_iff_not, Bool.not_eq_true', Bool.not_eq_false', Bool.not_true, Bool.not_false] at phs48
        refine ol_s rfl rfl hs48 rfl ?_
        refine ol_s rfl rfl hs48 rfl ?_
        refine ol_s rfl rfl hs48 rfl ?_
        refine ol_s rfl rfl hs48 rfl ?_
        refine ol_g rfl rfl hs44 ?_
        refine ol_r (r_pickT rfl hs48 rfl) rfl ?_
        refine ol_g rfl rfl hs44 ?_
        refine ol_r (r_move rfl) rfl ?_
        refine ol_s rfl rfl rfl rfl ?_
        refine ol_s rfl rfl rfl rfl ?_
        refine ol_s rfl rfl rfl rfl ?_
        refine ol_s rfl rfl rfl rfl ?_
        refine ol_s rfl rfl rfl rfl ?_
        refine ol_u rfl rfl rfl ?_
        refine ol_u rfl rfl rfl ?_
        refine ol_u rfl rfl rfl ?_
        refine ol_u rfl rfl rfl ?_
        refine ol_s rfl rfl rfl rfl ?_
        refine ol_g rfl rfl hs44 ?_
        refine ol_r (r_pickT rfl rfl rfl) rfl ?_
        refine ol_r (r_pickT rfl hs44 rfl) rfl ?_
        refine ol_nil (to_k0 (fun _ _ h => h) (hK10 _ _ ?_))
        clear hK10
        refine wp_condT rfl ?_
        refine wp_seq' fun K11 hK11 => ?_
        refine wp_reg ?_
        refine ol_r (r_assign rfl) rfl ?_
        refine ol_nil (to_k0 (fun _ _ h => h) (hK11 _ _ ?_))
        clear hK11
        refine hQ.ret (rvs1 (rv_t rfl)) (fun _ _ h => h) fun w hb hs hB => ?_
        first
          | exact ⟨rfl, hb⟩
          | (exfalso; exact phs33 trivial)
          | (exfalso; simp_all; done)
          | (exfalso
             have A := fun h => win_good (f := at_) hz' hL h
             have O := fun h => win_own hz' hL h
             first
               | (simp_all; done)
               | (simp_all; omega))
      · have phs48 := hs48; try simp only [decide_eq_true_eq, decide_eq_false_iff_not, Bool.not_eq_true', Bool.not_eq_false', Bool.not_true, Bool.not_false] at phs48
        refine ol_g rfl rfl hs48 ?_
        refine ol_r (r_move rfl) rfl ?_
        refine ol_g rfl rfl hs48 ?_
        refine ol_r (r_fa (o' := 1) rfl fl24_1 rfl) rfl ?_
        refine ol_g rfl rfl hs48 ?_
        refine ol_r (r_ld (id := 7) rfl rfl rfl sc3) rfl ?_
        refine ol_g rfl rfl hs48 ?_
        refine ol_r (r_gtr rfl rfl) rfl ?_
        refine ol_g rfl rfl hs44 ?_
        refine ol_r (r_pickF rfl hs48 rfl) rfl ?_
        refine ol_g rfl rfl hs44 ?_
        refine ol_r (r_move rfl) rfl ?_
        refine ol_split (d := 54) rfl (fun hs54 => ?_) (fun hs54 => ?_)
        · have phs54 := hs54; try simp only [decide_eq_true_eq, decide_eq_false_iff_not, Bool.not_eq_true', Bool.not_eq_false', Bool.not_true, Bool.not_false] at phs54
          refine ol_s rfl rfl hs54 rfl ?_
          refine ol_s rfl rfl hs54 rfl ?_
          refine ol_s rfl rfl hs54 rfl ?_
          refine ol_s rfl rfl hs54 rfl ?_
          refine ol_s rfl rfl hs54 rfl ?_
          refine ol_u rfl rfl rfl ?_
          refine ol_u rfl rfl rfl ?_
          refine ol_u rfl rfl rfl ?_
          refine ol_u rfl rfl rfl ?_
          refine ol_s rfl rfl hs54 rfl ?_
          refine ol_g rfl rfl hs44 ?_
          refine ol_r (r_pickT rfl hs54 rfl) rfl ?_
          refine ol_r (r_pickT rfl hs44 rfl) rfl ?_
          refine ol_nil (to_k0 (fun _ _ h => h) (hK10 _ _ ?_))
          clear hK10
          refine wp_condT rfl ?_
          refine wp_seq' fun K12 hK12 => ?_
          refine wp_reg ?_
          refine ol_r (r_assign rfl) rfl ?_
          refine ol_nil (to_k0 (fun _ _ h => h) (hK12 _ _ ?_))
          clear hK12
          refine hQ.ret (rvs1 (rv_t rfl)) (fun _ _ h => h) fun w hb hs hB => ?_
          first
            | exact ⟨rfl, hb⟩
            | (exfalso; exact phs33 trivial)
            | (exfalso; simp_all; done)
            | (exfalso
               have A := fun h => win_good (f := at_) hz' hL h
               have O := fun h => win_own hz' hL h
               first
                 | (simp_all; done)
                 | (simp_all; omega))
        · have phs54 := hs54; try simp only [decide_eq_true_eq, decide_eq_false_iff_not, Bool.not_eq_true', Bool.not_eq_false', Bool.not_true, Bool.not_false] at phs54
          refine ol_g rfl rfl hs54 ?_
          refine ol_r (r_move rfl) rfl ?_
          refine ol_g rfl rfl hs54 ?_
          refine ol_r (r_fa (o' := 1) rfl fl24_1 rfl) rfl ?_
          refine ol_g rfl rfl hs54 ?_
          refine ol_r (r_ld (id := 7) rfl rfl rfl sc3) rfl ?_
          refine ol_g rfl rfl hs54 ?_
          refine ol_r (r_eql rfl rfl) rfl ?_
          refine ol_g rfl rfl hs54 ?_
          refine ol_r (r_move rfl) rfl ?_
          refine ol_split (d := 59) rfl (fun hs59 => ?_) (fun hs59 => ?_)
          · have phs59 := hs59; try simp only [decide_eq_true_eq, decide_eq_false_iff_not, Bool.not_eq_true', Bool.not_eq_false', Bool.not_true, Bool.not_false] at phs59
            refine ol_g rfl rfl hs59 ?_
            refine ol_r (r_move rfl) rfl ?_
            refine ol_g rfl rfl hs59 ?_
            refine ol_r (r_fa (o' := 2) rfl fl24_2 rfl) rfl ?_
            refine ol_g rfl rfl hs59 ?_
            refine ol_r (r_ld (id := 7) rfl rfl rfl sc3) rfl ?_
            refine ol_g rfl rfl hs59 ?_
            refine ol_r (r_lss rfl rfl) rfl ?_
            refine ol_g rfl rfl hs54 ?_
            refine ol_r (r_pickT rfl hs59 rfl) rfl ?_
            refine ol_g rfl rfl hs44 ?_
            refine ol_r (r_pickF rfl hs54 rfl) rfl ?_
            refine ol_r (r_pickT rfl hs44 rfl) rfl ?_
            refine ol_nil (to_k0 (fun _ _ h => h) (hK10 _ _ ?_))
            clear hK10
            first | refine wp_condD rfl (fun hc66 => ?_) (fun hc66 => ?_) | refine wp_condN rfl (fun hc66 => ?_) (fun hc66 => ?_) | refine wp_condNB rfl (fun hc66 => ?_) (fun hc66 => ?_) | refine wp_cond' rfl (fun hc66 => ?_) (fun hc66 => ?_)
            · refine wp_seq' fun K13 hK13 => ?_
              refine wp_reg ?_
              refine ol_r (r_assign rfl) rfl ?_
              refine ol_nil (to_k0 (fun _ _ h => h) (hK13 _ _ ?_))
              clear hK13
              refine hQ.ret (rvs1 (rv_t rfl)) (fun _ _ h => h) fun w hb hs hB => ?_
              first
                | exact ⟨rfl, hb⟩
                | (exfalso; exact phs33 trivial)
                | (exfalso; simp_all; done)
                | (exfalso
                   have A := fun h => win_good (f := at_) hz' hL h
                   have O := fun h => win_own hz' hL h
                   first
                     | (simp_all; done)
                     | (simp_all; omega))
            · refine wp_skip' (to_k0 (fun _ _ h => h) (hK8 _ _ ?_))
              clear hK8
              refine wp_seq' fun K14 hK14 => ?_
              refine wp_seq' fun K15 hK15 => ?_
              refine wp_reg ?_
              refine ol_r (r_move rfl) rfl ?_
              refine ol_r (r_fa (o' := 2) rfl fl24_2 rfl) rfl ?_
              refine ol_r (r_ld (id := 7) rfl rfl rfl sc3) rfl ?_
              refine ol_call rfl rfl cb17 rfl (fun w1 hb1 hs1 hB1 => Calls.mono (law_best1 _ _ _ _ _ xs z _ _ (hs1.blk (id := 3) rfl) (hs1.blk (id := 4) rfl) (hl.at hb1 hB1) (by omega) hR.1) ?_)
              rintro e w2 ⟨rfl, hb2⟩
              refine After.below rfl hb1 hs1 hB1 hb2 ?_
              clear hb2 hB1 hs1 hb1 w2 w1
              refine ol_r (r_move rfl) rfl ?_
              refine ol_r (r_extract rfl rfl) rfl ?_
              refine ol_r (r_extract rfl rfl) rfl ?_
              refine ol_r (r_assign rfl) rfl ?_
              refine ol_r (r_assign rfl) rfl ?_
              refine ol_nil (to_k0 (fun _ _ h => h) (hK15 _ _ ?_))
              clear hK15
              refine wp_seq' fun K16 hK16 => ?_
              refine wp_reg ?_
              refine ol_r (r_fa (o' := 3) rfl fl24_3 rfl) rfl ?_
              refine ol_r (r_ld (id := 7) rfl rfl rfl sc4) rfl ?_
              refine ol_r (r_move rfl) rfl ?_
              refine ol_split (d := 76) rfl (fun hs76 => ?_) (fun hs76 => ?_)
              · have phs76 := hs76; try simp only [decide_eq_true_eq, decide_eq_false_iff_not, Bool.not_eq_true', Bool.not_eq_false', Bool.not_true, Bool.not_false] at phs76
                refine ol_g rfl rfl hs76 ?_
                refine ol_r (r_move rfl) rfl ?_
                refine ol_g rfl rfl hs76 ?_
                refine ol_r (r_not rfl) rfl ?_
                refine ol_g rfl rfl hs76 ?_
                refine ol_r (r_move rfl) rfl ?_
                refine ol_split (d := 79) rfl (fun hs79 => ?_) (fun hs79 => ?_)
                · have phs79 := hs79; try simp only [decide_eq_true_eq, decide_eq_false_iff_not, Bool.not_eq_true', Bool.not_eq_false', Bool.not_true, Bool.not_false] at phs79
                  refine ol_s rfl rfl hs79 rfl ?_
                  refine ol_s rfl rfl hs79 rfl ?_
                  refine ol_s rfl rfl hs79 rfl ?_
                  refine ol_s rfl rfl hs79 rfl ?_
                  refine ol_g rfl rfl hs76 ?_
                  refine ol_r (r_pickT rfl hs79 rfl) rfl ?_
                  refine ol_r (r_pickT rfl hs76 rfl) rfl ?_
                  refine ol_nil (to_k0 (fun _ _ h => h) (hK16 _ _ ?_))
                  clear hK16
                  refine wp_condT rfl ?_
                  refine wp_seq' fun K17 hK17 => ?_
                  refine wp_reg ?_
                  refine ol_r (r_assign rfl) rfl ?_
                  refine ol_nil (to_k0 (fun _ _ h => h) (hK17 _ _ ?_))
                  clear hK17
                  refine hQ.ret (rvs1 (rv_t rfl)) (fun _ _ h => h) fun w hb hs hB => ?_
                  first
                    | exact ⟨rfl, hb⟩
                    | (exfalso; exact phs33 trivial)
                    | (exfalso; simp_all; done)
                    | (exfalso
                       have A := fun h => win_good (f := at_) hz' hL h
                       have O := fun h => win_own hz' hL h
                       first
                         | (simp_all; done)
                         | (simp_all; omega))
                · have phs79 := hs79; try simp only [decide_eq_true_eq, decide_eq_false_iff_not, Bool.not_eq_true', Bool.not_eq_false', Bool.not_true, Bool.not_false] at phs79
                  refine ol_g rfl rfl hs79 ?_
                  refine ol_r (r_move rfl) rfl ?_
                  refine ol_g rfl rfl hs79 ?_
                  refine ol_r (r_fa (o' := 1) rfl fl24_1 rfl) rfl ?_
                  refine ol_g rfl rfl hs79 ?_
                  refine ol_r (r_ld (id := 7) rfl rfl rfl sc3) rfl ?_
                  refine ol_g rfl rfl hs79 ?_
                  refine ol_r (r_neq rfl rfl) rfl ?_
                  refine ol_g rfl rfl hs76 ?_
                  refine ol_r (r_pickF rfl hs79 rfl) rfl ?_
                  refine ol_r (r_pickT rfl hs76 rfl) rfl ?_
                  refine ol_nil (to_k0 (fun _ _ h => h) (hK16 _ _ ?_))
                  clear hK16
                  first | refine wp_condD rfl (fun hc85 => ?_) (fun hc85 => ?_) | refine wp_condN rfl (fun hc85 => ?_) (fun hc85 => ?_) | refine wp_condNB rfl (fun hc85 => ?_) (fun hc85 => ?_) | refine wp_cond' rfl (fun hc85 => ?_) (fun hc85 => ?_)
                  · refine wp_seq' fun K18 hK18 => ?_
                    refine wp_reg ?_
                    refine ol_r (r_assign rfl) rfl ?_
                    refine ol_nil (to_k0 (fun _ _ h => h) (hK18 _ _ ?_))
                    clear hK18
                    refine hQ.ret (rvs1 (rv_t rfl)) (fun _ _ h => h) fun w hb hs hB => ?_
                    first
                      | exact ⟨rfl, hb⟩
                      | (exfalso; exact phs33 trivial)
                      | (exfalso; simp_all; done)
                      | (exfalso
                         have A := fun h => win_good (f := at_) hz' hL h
                         have O := fun h => win_own hz' hL h
                         first
                           | (simp_all; done)
                           | (simp_all; omega))
                  · refine wp_skip' (to_k0 (fun _ _ h => h) (hK14 _ _ ?_))
                    clear hK14
                    refine wp_seq' fun K19 hK19 => ?_
                    refine wp_reg ?_
                    refine ol_call rfl rfl cb16 rfl (fun w1 hb1 hs1 hB1 => Calls.mono (effort_told _) ?_)
                    rintro e w2 ⟨rfl, hb2⟩
                    refine After.below rfl hb1 hs1 hB1 hb2 ?_
                    clear hb2 hB1 hs1 hb1 w2 w1
                    refine ol_r (r_assign rfl) rfl ?_
                    refine ol_nil (to_k0 (fun _ _ h => h) (hK19 _ _ ?_))
                    clear hK19
                    refine hQ.ret (rvs1 (rv_t rfl)) (fun _ _ h => h) fun w hb hs hB => ?_
                    first
                      | exact ⟨rfl, hb⟩
                      | (exfalso; exact phs33 trivial)
                      | (exfalso; simp_all; done)
                      | (exfalso
                         have A := fun h => win_good (f := at_) hz' hL h
                         have O := fun h => win_own hz' hL h
                         first
                           | (simp_all; done)
                           | (simp_all; omega))
              · have phs76 := hs76; try simp only [decide_eq_true_eq, decide_eq_false_iff_not, Bool.not_eq_true', Bool.not_eq_false', Bool.not_true, Bool.not_false] at phs76
                refine ol_s rfl rfl hs76 rfl ?_
                refine ol_s rfl rfl hs76 rfl ?_
                refine ol_s rfl rfl hs76 rfl ?_
                refine ol_u rfl rfl rfl ?_
                refine ol_u rfl rfl rfl ?_
                refine ol_u rfl rfl rfl ?_
                refine ol_u rfl rfl rfl ?_
                refine ol_s rfl rfl hs76 rfl ?_
                refine ol_r (r_pickF rfl hs76 rfl) rfl ?_
                refine ol_nil (to_k0 (fun _ _ h => h) (hK16 _ _ ?_))
                clear hK16
                refine wp_condF rfl ?_
                refine wp_skip' (to_k0 (fun _ _ h => h) (hK14 _ _ ?_))
                clear hK14
                refine wp_seq' fun K20 hK20 => ?_
                refine wp_reg ?_
                refine ol_call rfl rfl cb16 rfl (fun w1 hb1 hs1 hB1 => Calls.mono (effort_told _) ?_)
                rintro e w2 ⟨rfl, hb2⟩
                refine After.below rfl hb1 hs1 hB1 hb2 ?_
                clear hb2 hB1 hs1 hb1 w2 w1
                refine ol_r (r_assign rfl) rfl ?_
                refine ol_nil (to_k0 (fun _ _ h => h) (hK20 _ _ ?_))
                clear hK20
                refine hQ.ret (rvs1 (rv_t rfl)) (fun _ _ h => h) fun w hb hs hB => ?_
                first
                  | exact ⟨rfl, hb⟩
                  | (exfalso; exact phs33 trivial)
                  | (exfalso; simp_all; done)
                  | (exfalso
                     have A := fun h => win_good (f := at_) hz' hL h
                     have O := fun h => win_own hz' hL h
                     first
                       | (simp_all; done)
                       | (simp_all; omega))
          · have phs59 := hs59; try simp only [decide_eq_true_eq, decide_eq_false_iff_not, Bool.not_eq_true', Bool.not_eq_false', Bool.not_true, Bool.not_false] at phs59
            refine ol_s rfl rfl hs59 rfl ?_
            refine ol_s rfl rfl hs59 rfl ?_
            refine ol_s rfl rfl hs59 rfl ?_
            refine ol_s rfl rfl hs59 rfl ?_
            refine ol_g rfl rfl hs54 ?_
            refine ol_r (r_pickF rfl hs59 rfl) rfl ?_
            refine ol_g rfl rfl hs44 ?_
            refine ol_r (r_pickF rfl hs54 rfl) rfl ?_
            refine ol_r (r_pickT rfl hs44 rfl) rfl ?_
            refine ol_nil (to_k0 (fun _ _ h => h) (hK10 _ _ ?_))
            clear hK10
            refine wp_condF rfl ?_
            refine wp_skip' (to_k0 (fun _ _ h => h) (hK8 _ _ ?_))
            clear hK8
            refine wp_seq' fun K21 hK21 => ?_
            refine wp_seq' fun K22 hK22 => ?_
            refine wp_reg ?_
            refine ol_r (r_move rfl) rfl ?_
            refine ol_r (r_fa (o' := 2) rfl fl24_2 rfl) rfl ?_
            refine ol_r (r_ld (id := 7) rfl rfl rfl sc3) rfl ?_
            refine ol_call rfl rfl cb17 rfl (fun w1 hb1 hs1 hB1 => Calls.mono (law_best1 _ _ _ _ _ xs z _ _ (hs1.blk (id := 3) rfl) (hs1.blk (id := 4) rfl) (hl.at hb1 hB1) (by omega) hR.1) ?_)
            rintro e w2 ⟨rfl, hb2⟩
            refine After.below rfl hb1 hs1 hB1 hb2 ?_
            clear hb2 hB1 hs1 hb1 w2 w1
            refine ol_r (r_move rfl) rfl ?_
            refine ol_r (r_extract rfl rfl) rfl ?_
            refine ol_r (r_extract rfl rfl) rfl ?_
            refine ol_r (r_assign rfl) rfl ?_
            refine ol_r (r_assign rfl) rfl ?_
            refine ol_nil (to_k0 (fun _ _ h => h) (hK22 _ _ ?_))
            clear hK22
            refine wp_seq' fun K23 hK23 => ?_
            refine wp_reg ?_
            refine ol_r (r_fa (o' := 3) rfl fl24_3 rfl) rfl ?_
            refine ol_r (r_ld (id := 7) rfl rfl rfl sc4) rfl ?_
            refine ol_r (r_move rfl) rfl ?_
            refine ol_split (d := 76) rfl (fun hs76 => ?_) (fun hs76 => ?_)
            · have phs76 := hs76; try simp only [decide_eq_true_eq, decide_eq_false_iff_not, Bool.not_eq_true', Bool.not_eq_false', Bool.not_true, Bool.not_false] at phs76
              refine ol_g rfl rfl hs76 ?_
              refine ol_r (r_move rfl) rfl ?_
              refine ol_g rfl rfl hs76 ?_
              refine ol_r (r_not rfl) rfl ?_
              refine ol_g rfl rfl hs76 ?_
              refine ol_r (r_move rfl) rfl ?_
              refine ol_split (d := 79) rfl (fun hs79 => ?_) (fun hs79 => ?_)
              · have phs79 := hs79; try simp only [decide_eq_true_eq, decide_eq_false_iff_not, Bool.not_eq_true', Bool.not_eq_false', Bool.not_true, Bool.not_false] at phs79
                refine ol_s rfl rfl hs79 rfl ?_
                refine ol_s rfl rfl hs79 rfl ?_
                refine ol_s rfl rfl hs79 rfl ?_
                refine ol_s rfl rfl hs79 rfl ?_
                refine ol_g rfl rfl hs76 ?_
                refine ol_r (r_pickT rfl hs79 rfl) rfl ?_
                refine ol_r (r_pickT rfl hs76 rfl) rfl ?_
                refine ol_nil (to_k0 (fun _ _ h => h) (hK23 _ _ ?_))
                clear hK23
                refine wp_condT rfl ?_
                refine wp_seq' fun K24 hK24 => ?_
                refine wp_reg ?_
                refine ol_r (r_assign rfl) rfl ?_
                refine ol_nil (to_k0 (fun _ _ h => h) (hK24 _ _ ?_))
                clear hK24
                refine hQ.ret (rvs1 (rv_t rfl)) (fun _ _ h => h) fun w hb hs hB => ?_
                first
                  | exact ⟨rfl, hb⟩
                  | (exfalso; exact phs33 trivial)
                  | (exfalso; simp_all; done)
                  | (exfalso
                     have A := fun h => win_good (f := at_) hz' hL h
                     have O := fun h => win_own hz' hL h
                     first
                       | (simp_all; done)
                       | (simp_all; omega))
              · have phs79 := hs79; try simp only [decide_eq_true_eq, decide_eq_false_iff_not, Bool.not_eq_true', Bool.not_eq_false', Bool.not_true, Bool.not_false] at phs79
                refine ol_g rfl rfl hs79 ?_
                refine ol_r (r_move rfl) rfl ?_
                refine ol_g rfl rfl hs79 ?_
                refine ol_r (r_fa (o' := 1) rfl fl24_1 rfl) rfl ?_
                refine ol_g rfl rfl hs79 ?_
                refine ol_r (r_ld (id := 7) rfl rfl rfl sc3) rfl ?_
                refine ol_g rfl rfl hs79 ?_
                refine ol_r (r_neq rfl rfl) rfl ?_
                refine ol_g rfl rfl hs76 ?_
                refine ol_r (r_pickF rfl hs79 rfl) rfl ?_
                refine ol_r (r_pickT rfl hs76 rfl) rfl ?_
                refine ol_nil (to_k0 (fun _ _ h => h) (hK23 _ _ ?_))
                clear hK23
                first | refine wp_condD rfl (fun hc85 => ?_) (fun hc85 => ?_) | refine wp_condN rfl (fun hc85 => ?_) (fun hc85 => ?_) | refine wp_condNB rfl (fun hc85 => ?_) (fun hc85 => ?_) | refine wp_cond' rfl (fun hc85 => ?_) (fun hc85 => ?_)
                · refine wp_seq' fun K25 hK25 => ?_
                  refine wp_reg ?_
                  refine ol_r (r_assign rfl) rfl ?_
                  refine ol_nil (to_k0 (fun _ _ h => h) (hK25 _ _ ?_))
                  clear hK25
                  refine hQ.ret (rvs1 (rv_t rfl)) (fun _ _ h => h) fun w hb hs hB => ?_
                  first
                    | exact ⟨rfl, hb⟩
                    | (exfalso; exact phs33 trivial)
                    | (exfalso; simp_all; done)
                    | (exfalso
                       have A := fun h => win_good (f := at_) hz' hL h
                       have O := fun h => win_own hz' hL h
                       first
                         | (simp_all; done)
                         | (simp_all; omega))
                · refine wp_skip' (to_k0 (fun _ _ h => h) (hK21 _ _ ?_))
                  clear hK21
                  refine wp_seq' fun K26 hK26 => ?_
                  refine wp_reg ?_
                  refine ol_call rfl rfl cb16 rfl (fun w1 hb1 hs1 hB1 => Calls.mono (effort_told _) ?_)
                  rintro e w2 ⟨rfl, hb2⟩
                  refine After.below rfl hb1 hs1 hB1 hb2 ?_
                  clear hb2 hB1 hs1 hb1 w2 w1
                  refine ol_r (r_assign rfl) rfl ?_
                  refine ol_nil (to_k0 (fun _ _ h => h) (hK26 _ _ ?_))
                  clear hK26
                  refine hQ.ret (rvs1 (rv_t rfl)) (fun _ _ h => h) fun w hb hs hB => ?_
                  first
                    | exact ⟨rfl, hb⟩
                    | (exfalso; exact phs33 trivial)
                    | (exfalso; simp_all; done)
                    | (exfalso
                       have A := fun h => win_good (f := at_) hz' hL h
                       have O := fun h => win_own hz' hL h
                       first
                         | (simp_all; done)
                         | (simp_all; omega))
            · have phs76 := hs76; try simp only [decide_eq_true_eq, decide_eq_false_iff_not, Bool.not_eq_true', Bool.not_eq_false', Bool.not_true, Bool.not_false] at phs76
              refine ol_s rfl rfl hs76 rfl ?_
              refine ol_s rfl rfl hs76 rfl ?_
              refine ol_s rfl rfl hs76 rfl ?_
              refine ol_u rfl rfl rfl ?_
              refine ol_u rfl rfl rfl ?_
              refine ol_u rfl rfl rfl ?_
              refine ol_u rfl rfl rfl ?_
              refine ol_s rfl rfl hs76 rfl ?_
              refine ol_r (r_pickF rfl hs76 rfl) rfl ?_
              refine ol_nil (to_k0 (fun _ _ h => h) (hK23 _ _ ?_))
              clear hK23
              refine wp_condF rfl ?_
              refine wp_skip' (to_k0 (fun _ _ h => h) (hK21 _ _ ?_))
              clear hK21
              refine wp_seq' fun K27 hK27 => ?_
              refine wp_reg ?_
              refine ol_call rfl rfl cb16 rfl (fun w1 hb1 hs1 hB1 => Calls.mono (effort_told _) ?_)
              rintro e w2 ⟨rfl, hb2⟩
              refine After.below rfl hb1 hs1 hB1 hb2 ?_
              clear hb2 hB1 hs1 hb1 w2 w1
              refine ol_r (r_assign rfl) rfl ?_
              refine ol_nil (to_k0 (fun _ _ h => h) (hK27 _ _ ?_))
              clear hK27
              refine hQ.ret (rvs1 (rv_t rfl)) (fun _ _ h => h) fun w hb hs hB => ?_
              first
                | exact ⟨rfl, hb⟩
                | (exfalso; exact phs33 trivial)
                | (exfalso; simp_all; done)
                | (exfalso
                   have A := fun h => win_good (f := at_) hz' hL h
                   have O := fun h => win_own hz' hL h
                   first
                     | (simp_all; done)
                     | (simp_all; omega))
    · have phs44 := hs44; try simp only [decide_eq_true_eq, decide_eq_false_iff_not, Bool.not_eq_true', Bool.not_eq_false', Bool.not_true, Bool.not_false] at phs44
      refine ol_s rfl rfl hs44 rfl ?_
      refine ol_s rfl rfl hs44 rfl ?_
      refine ol_s rfl rfl hs44 rfl ?_
      refine ol_s rfl rfl hs44 rfl ?_
      refine ol_u rfl rfl rfl ?_
      refine ol_u rfl rfl rfl ?_
      refine ol_u rfl rfl rfl ?_
      refine ol_u rfl rfl rfl ?_
      refine ol_s rfl rfl hs44 rfl ?_
      refine ol_s rfl rfl hs44 rfl ?_
      refine ol_u rfl rfl rfl ?_
      refine ol_u rfl rfl rfl ?_
      refine ol_u rfl rfl rfl ?_
      refine ol_u rfl rfl rfl ?_
      refine ol_u rfl rfl rfl ?_
      refine ol_u rfl rfl rfl ?_
      refine ol_u rfl rfl rfl ?_
      refine ol_u rfl rfl rfl ?_
      refine ol_u rfl rfl rfl ?_
      refine ol_u rfl rfl rfl ?_
      refine ol_s rfl rfl hs44 rfl ?_
      refine ol_r (r_pickF rfl hs44 rfl) rfl ?_
      refine ol_nil (to_k0 (fun _ _ h => h) (hK10 _ _ ?_))
      clear hK10
      refine wp_condF rfl ?_
      refine wp_skip' (to_k0 (fun _ _ h => h) (hK8 _ _ ?_))
      clear hK8
      refine wp_seq' fun K28 hK28 => ?_
      refine wp_seq' fun K29 hK29 => ?_
      refine wp_reg ?_
      refine ol_r (r_move rfl) rfl ?_
      refine ol_r (r_fa (o' := 2) rfl fl24_2 rfl) rfl ?_
      refine ol_r (r_ld (id := 7) rfl rfl rfl sc3) rfl ?_
      refine ol_call rfl rfl cb17 rfl (fun w1 hb1 hs1 hB1 => Calls.mono (law_best1 _ _ _ _ _ xs z _ _ (hs1.blk (id := 3) rfl) (hs1.blk (id := 4) rfl) (hl.at hb1 hB1) (by omega) hR.1) ?_)
      rintro e w2 ⟨rfl, hb2⟩
      refine After.below rfl hb1 hs1 hB1 hb2 ?_
      clear hb2 hB1 hs1 hb1 w2 w1
      refine ol_r (r_move rfl) rfl ?_
      refine ol_r (r_extract rfl rfl) rfl ?_
      refine ol_r (r_extract rfl rfl) rfl ?_
      refine ol_r (r_assign rfl) rfl ?_
      refine ol_r (r_assign rfl) rfl ?_
      refine ol_nil (to_k0 (fun _ _ h => h) (hK29 _ _ ?_))
      clear hK29
      refine wp_seq' fun K30 hK30 => ?_
      refine wp_reg ?_
      refine ol_r (r_fa (o' := 3) rfl fl24_3 rfl) rfl ?_
      refine ol_r (r_ld (id := 7) rfl rfl rfl sc4) rfl ?_
      refine ol_r (r_move rfl) rfl ?_
      refine ol_split (d := 76) rfl (fun hs76 => ?_) (fun hs76 => ?_)
      · have phs76 := hs76; try simp only [decide_eq_true_eq, decide_eq_false_iff_not, Bool.not_eq_true', Bool.not_eq_false', Bool.not_true, Bool.not_false] at phs76
        refine ol_g rfl rfl hs76 ?_
        refine ol_r (r_move rfl) rfl ?_
        refine ol_g rfl rfl hs76 ?_
        refine ol_r (r_not rfl) rfl ?_
        refine ol_g rfl rfl hs76 ?_
        refine ol_r (r_move rfl) rfl ?_
        refine ol_split (d := 79) rfl (fun hs79 => ?_) (fun hs79 => ?_)
        · have phs79 := hs79; try simp only [decide_eq_true_eq, decide_eq_false_iff_not, Bool.not_eq_true', Bool.not_eq_false', Bool.not_true, Bool.not_false] at phs79
          refine ol_s rfl rfl hs79 rfl ?_
          refine ol_s rfl rfl hs79 rfl ?_
          refine ol_s rfl rfl hs79 rfl ?_
          refine ol_s rfl rfl hs79 rfl ?_
          refine ol_g rfl rfl hs76 ?_
          refine ol_r (r_pickT rfl hs79 rfl) rfl ?_
          refine ol_r (r_pickT rfl hs76 rfl) rfl ?_
          refine ol_nil (to_k0 (fun _ _ h => h) (hK30 _ _ ?_))
          clear hK30
          refine wp_condT rfl ?_
          refine wp_seq' fun K31 hK31 => ?_
          refine wp_reg ?_
          refine ol_r (r_assign rfl) rfl ?_
          refine ol_nil (to_k0 (fun _ _ h => h) (hK31 _ _ ?_))
          clear hK31
          refine hQ.ret (rvs1 (rv_t rfl)) (fun _ _ h => h) fun w hb hs hB => ?_
          first
            | exact ⟨rfl, hb⟩
            | (exfalso; exact phs33 trivial)
            | (exfalso; simp_all; done)
            | (exfalso
               have A := fun h => win_good (f := at_) hz' hL h
               have O := fun h => win_own hz' hL h
               first
                 | (simp_all; done)
                 | (simp_all; omega))
        · have phs79 := hs79; try simp only [decide_eq_true_eq, decide_eq_false_iff_not, Bool.not_eq_true', Bool.not_eq_false', Bool.not_true, Bool.not_false] at phs79
          refine ol_g rfl rfl hs79 ?_
          refine ol_r (r_move rfl) rfl ?_
          refine ol_g rfl rfl hs79 ?_
          refine ol_r (r_fa (o' := 1) rfl fl24_1 rfl) rfl ?_
          refine ol_g rfl rfl hs79 ?_
          refine ol_r (r_ld (id := 7) rfl rfl rfl sc3) rfl ?_
          refine ol_g rfl rfl hs79 ?_
          refine ol_r (r_neq rfl rfl) rfl ?_
          refine ol_g rfl rfl hs76 ?_
          refine ol_r (r_pickF rfl hs79 rfl) rfl ?_
          refine ol_r (r_pickT rfl hs76 rfl) rfl ?_
          refine ol_nil (to_k0 (fun _ _ h => h) (hK30 _ _ ?_))
          clear hK30
          first | refine wp_condD rfl (fun hc85 => ?_) (fun hc85 => ?_) | refine wp_condN rfl (fun hc85 => ?_) (fun hc85 => ?_) | refine wp_condNB rfl (fun hc85 => ?_) (fun hc85 => ?_) | refine wp_cond' rfl (fun hc85 => ?_) (fun hc85 => ?_)
          · refine wp_seq' fun K32 hK32 => ?_
            refine wp_reg ?_
            refine ol_r (r_assign rfl) rfl ?_
            refine ol_nil (to_k0 (fun _ _ h => h) (hK32 _ _ ?_))
            clear hK32
            refine hQ.ret (rvs1 (rv_t rfl)) (fun _ _ h => h) fun w hb hs hB => ?_
            first
              | exact ⟨rfl, hb⟩
              | (exfalso; exact phs33 trivial)
              | (exfalso; simp_all; done)
              | (exfalso
                 have A := fun h => win_good (f := at_) hz' hL h
                 have O := fun h => win_own hz' hL h
                 first
                   | (simp_all; done)
                   | (simp_all; omega))
          · refine wp_skip' (to_k0 (fun _ _ h => h) (hK28 _ _ ?_))
            clear hK28
            refine wp_seq' fun K33 hK33 => ?_
            refine wp_reg ?_
            refine ol_call rfl rfl cb16 rfl (fun w1 hb1 hs1 hB1 => Calls.mono (effort_told _) ?_)
            rintro e w2 ⟨rfl, hb2⟩
            refine After.below rfl hb1 hs1 hB1 hb2 ?_
            clear hb2 hB1 hs1 hb1 w2 w1
            refine ol_r (r_assign rfl) rfl ?_
            refine ol_nil (to_k0 (fun _ _ h => h) (hK33 _ _ ?_))
            clear hK33
            refine hQ.ret (rvs1 (rv_t rfl)) (fun _ _ h => h) fun w hb hs hB => ?_
            first
              | exact ⟨rfl, hb⟩
              | (exfalso; exact phs33 trivial)
              | (exfalso; simp_all; done)
              | (exfalso
                 have A := fun h => win_good (f := at_) hz' hL h
                 have O := fun h => win_own hz' hL h
                 first
                   | (simp_all; done)
                   | (simp_all; omega))
      · have phs76 := hs76; try simp only [decide_eq_true_eq, decide_eq_false_iff_not, Bool.not_eq_true', Bool.not_eq_false', Bool.not_true, Bool.not_false] at phs76
        refine ol_s rfl rfl hs76 rfl ?_
        refine ol_s rfl rfl hs76 rfl ?_
        refine ol_s rfl rfl hs76 rfl ?_
        refine ol_u rfl rfl rfl ?_
        refine ol_u rfl rfl rfl ?_
        refine ol_u rfl rfl rfl ?_
        refine ol_u rfl rfl rfl ?_
        refine ol_s rfl rfl hs76 rfl ?_
        refine ol_r (r_pickF rfl hs76 rfl) rfl ?_
        refine ol_nil (to_k0 (fun _ _ h => h) (hK30 _ _ ?_))
        clear hK30
        refine wp_condF rfl ?_
        refine wp_skip' (to_k0 (fun _ _ h => h) (hK28 _ _ ?_))
        clear hK28
        refine wp_seq' fun K34 hK34 => ?_
        refine wp_reg ?_
        refine ol_call rfl rfl cb16 rfl (fun w1 hb1 hs1 hB1 => Calls.mono (effort_told _) ?_)
        rintro e w2 ⟨rfl, hb2⟩
        refine After.below rfl hb1 hs1 hB1 hb2 ?_
        clear hb2 hB1 hs1 hb1 w2 w1
        refine ol_r (r_assign rfl) rfl ?_
        refine ol_nil (to_k0 (fun _ _ h => h) (hK34 _ _ ?_))
        clear hK34
        refine hQ.ret (rvs1 (rv_t rfl)) (fun _ _ h => h) fun w hb hs hB => ?_
        first
          | exact ⟨rfl, hb⟩
          | (exfalso; exact phs33 trivial)
          | (exfalso; simp_all; done)
          | (exfalso
             have A := fun h => win_good (f := at_) hz' hL h
             have O := fun h => win_own hz' hL h
             first
               | (simp_all; done)
               | (simp_all; omega))
end Go.Proofs.Ytafkojlccknicaa
