/-
  Tiles: their order, their places, maps of them.
-/
import Derived.Test.YtjflbnbofedlkaaXmA
import Derived.Test.YtjflbnbofedlkaaXmB
import Derived.Test.YtjflbnbofedlkaaXmC
import Derived.Test.YtjflbnbofedlkaaXmD
import Derived.Test.YtjflbnbofedlkaaXmE
import Derived.Test.YtjflbnbofedlkaaXmF






namespace Go.Proofs.Ytjflbnbofedlkaa
open Go Go.RowKit Hx
set_option linter.unusedVariables false
set_option linter.unusedSimpArgs false
set_option maxRecDepth 8000
def encTile : Enc TileR := { size := 2, cells := fun x => [.int .i64 x.1, .int .i64 x.2], val := fun x => .agg #[.int .i64 x.1, .int .i64 x.2], len := fun _ => rfl, ones := fun _ u h => by simp at h; rcases h with rfl | rfl <;> rfl, pos := by decide, vc := fun _ => rfl }
theorem ty42 : Ty Try.prog 42 encTile := .inr ⟨ag42, fun _ => rfl⟩
theorem cmp_isNaNI (x : Int) (w : World) : Calls Try.prog 118 #[.int .i64 x] w fun e w' => e = .returned (.bool false) ∧ Below w.heap.size w w' := by
  refine enterQ (N := 6) (C := fun _ => True) (H := []) (B := w.heap.size) (args := [_]) Try.func118 rfl rfl rfl (Nat.le_refl _) (Sat.nil _ _) fun Q hQ => ?_
  refine wp_seq' fun K1 hK1 => ?_
  refine wp_reg ?_
  refine ol_r (r_assign rfl) rfl ?_
  refine ol_nil (to_k0 (fun _ _ h => h) (hK1 _ _ _ _ _ ?_))
  clear hK1
  refine wp_seq' fun K2 hK2 => ?_
  refine wp_reg ?_
  refine ol_r (r_move rfl) rfl ?_
  refine ol_r (r_move rfl) rfl ?_
  refine ol_r (r_neq rfl rfl) rfl ?_
  refine ol_r (r_assign rfl) rfl ?_
  refine ol_nil (to_k0 (fun _ _ h => h) (hK2 _ _ _ _ _ ?_))
  clear hK2
  refine hQ.ret (rvs1 (rv_t rfl)) (fun _ _ h => h) fun w hb hs hB hkd => ?_
  exact ⟨by simp, hb⟩
theorem cmp_CompareI (x y : Int) (w : World) : Calls Try.prog 97 #[.int .i64 x, .int .i64 y] w fun e w' => e = .returned (.int .i64 (cmpI x y)) ∧ Below w.heap.size w w' := by
  refine enterQ (N := 20) (C := fun _ => True) (H := []) (B := w.heap.size) (args := [_, _]) Try.func97 rfl rfl rfl (Nat.le_refl _) (Sat.nil _ _) fun Q hQ => ?_
  refine wp_seq' fun K1 hK1 => ?_
  refine wp_reg ?_
  refine ol_r (r_assign rfl) rfl ?_
  refine ol_nil (to_k0 (fun _ _ h => h) (hK1 _ _ _ _ _ ?_))
  clear hK1
  refine wp_seq' fun K2 hK2 => ?_
  refine wp_reg ?_
  refine ol_r (r_move rfl) rfl ?_
  refine ol_call rfl rfl cb118 rfl (fun w1 hb1 hs1 hB1 => Calls.mono (cmp_isNaNI _ _) ?_)
  rintro e w2 ⟨rfl, hb2⟩
  refine After.below rfl hb1 hs1 hB1 hb2 ?_
  clear hb2 hB1 hs1 hb1 w2 w1
  refine ol_r (r_assign rfl) rfl ?_
  refine ol_nil (to_k0 (fun _ _ h => h) (hK2 _ _ _ _ _ ?_))
  clear hK2
  refine wp_seq' fun K3 hK3 => ?_
  refine wp_reg ?_
  refine ol_r (r_move rfl) rfl ?_
  refine ol_call rfl rfl cb118 rfl (fun w1 hb1 hs1 hB1 => Calls.mono (cmp_isNaNI _ _) ?_)
  rintro e w2 ⟨rfl, hb2⟩
  refine After.below rfl hb1 hs1 hB1 hb2 ?_
  clear hb2 hB1 hs1 hb1 w2 w1
  refine ol_r (r_assign rfl) rfl ?_
  refine ol_nil (to_k0 (fun _ _ h => h) (hK3 _ _ _ _ _ ?_))
  clear hK3
  refine wp_seq' fun K4 hK4 => ?_
  refine wp_seq' fun K5 hK5 => ?_
  refine wp_reg ?_
  refine ol_r (r_move rfl) rfl ?_
  refine ol_nil (to_k0 (fun _ _ h => h) (hK5 _ _ _ _ _ ?_))
  clear hK5
  first | refine wp_condD rfl (fun hc11 => ?_) (fun hc11 => ?_) | refine wp_condN rfl (fun hc11 => ?_) (fun hc11 => ?_) | refine wp_condNB rfl (fun hc11 => ?_) (fun hc11 => ?_) | refine wp_cond' rfl (fun hc11 => ?_) (fun hc11 => ?_)
  ·refine wp_seq' fun K6 hK6 => ?_
   refine wp_seq' fun K7 hK7 => ?_
   refine wp_reg ?_
   refine ol_r (r_move rfl) rfl ?_
   refine ol_nil (to_k0 (fun _ _ h => h) (hK7 _ _ _ _ _ ?_))
   clear hK7
   first | refine wp_condD rfl (fun hc12 => ?_) (fun hc12 => ?_) | refine wp_condN rfl (fun hc12 => ?_) (fun hc12 => ?_) | refine wp_condNB rfl (fun hc12 => ?_) (fun hc12 => ?_) | refine wp_cond' rfl (fun hc12 => ?_) (fun hc12 => ?_)
   ·refine wp_seq' fun K8 hK8 => ?_
    refine wp_reg ?_
    refine ol_r (r_assign rfl) rfl ?_
    refine ol_nil (to_k0 (fun _ _ h => h) (hK8 _ _ _ _ _ ?_))
    clear hK8
    refine hQ.ret (rvs1 (rv_t rfl)) (fun _ _ h => h) fun w hb hs hB hkd => ?_
    first
      | exact ⟨by unfold cmpI; rw [if_pos (by omega)], hb⟩
      | exact ⟨by unfold cmpI; rw [if_neg (by omega), if_pos (by omega)], hb⟩
      | exact ⟨by unfold cmpI; rw [if_neg (by omega), if_neg (by omega)], hb⟩
      | (exfalso; simp_all; done)
   ·refine wp_skip' (to_k0 (fun _ _ h => h) (hK6 _ _ _ _ _ ?_))
    clear hK6
    refine wp_seq' fun K9 hK9 => ?_
    refine wp_reg ?_
    refine ol_r (r_assign rfl) rfl ?_
    refine ol_nil (to_k0 (fun _ _ h => h) (hK9 _ _ _ _ _ ?_))
    clear hK9
    refine hQ.ret (rvs1 (rv_t rfl)) (fun _ _ h => h) fun w hb hs hB hkd => ?_
    first
      | exact ⟨by unfold cmpI; rw [if_pos (by omega)], hb⟩
      | exact ⟨by unfold cmpI; rw [if_neg (by omega), if_pos (by omega)], hb⟩
      | exact ⟨by unfold cmpI; rw [if_neg (by omega), if_neg (by omega)], hb⟩
      | (exfalso; simp_all; done)
  ·refine wp_skip' (to_k0 (fun _ _ h => h) (hK4 _ _ _ _ _ ?_))
   clear hK4
   refine wp_seq' fun K10 hK10 => ?_
   refine wp_seq' fun K11 hK11 => ?_
   refine wp_reg ?_
   refine ol_r (r_move rfl) rfl ?_
   refine ol_nil (to_k0 (fun _ _ h => h) (hK11 _ _ _ _ _ ?_))
   clear hK11
   first | refine wp_condD rfl (fun hc13 => ?_) (fun hc13 => ?_) | refine wp_condN rfl (fun hc13 => ?_) (fun hc13 => ?_) | refine wp_condNB rfl (fun hc13 => ?_) (fun hc13 => ?_) | refine wp_cond' rfl (fun hc13 => ?_) (fun hc13 => ?_)
   ·refine wp_seq' fun K12 hK12 => ?_
    refine wp_reg ?_
    refine ol_r (r_assign rfl) rfl ?_
    refine ol_nil (to_k0 (fun _ _ h => h) (hK12 _ _ _ _ _ ?_))
    clear hK12
    refine hQ.ret (rvs1 (rv_t rfl)) (fun _ _ h => h) fun w hb hs hB hkd => ?_
    first
      | exact ⟨by unfold cmpI; rw [if_pos (by omega)], hb⟩
      | exact ⟨by unfold cmpI; rw [if_neg (by omega), if_pos (by omega)], hb⟩
      | exact ⟨by unfold cmpI; rw [if_neg (by omega), if_neg (by omega)], hb⟩
      | (exfalso; simp_all; done)
   ·refine wp_skip' (to_k0 (fun _ _ h => h) (hK10 _ _ _ _ _ ?_))
    clear hK10
    refine wp_seq' fun K13 hK13 => ?_
    refine wp_seq' fun K14 hK14 => ?_
    refine wp_reg ?_
    refine ol_r (r_move rfl) rfl ?_
    refine ol_r (r_move rfl) rfl ?_
    refine ol_r (r_lss rfl rfl) rfl ?_
    refine ol_nil (to_k0 (fun _ _ h => h) (hK14 _ _ _ _ _ ?_))
    clear hK14
    first | refine wp_condD rfl (fun hc16 => ?_) (fun hc16 => ?_) | refine wp_condN rfl (fun hc16 => ?_) (fun hc16 => ?_) | refine wp_condNB rfl (fun hc16 => ?_) (fun hc16 => ?_) | refine wp_cond' rfl (fun hc16 => ?_) (fun hc16 => ?_)
    ·refine wp_seq' fun K15 hK15 => ?_
     refine wp_reg ?_
     refine ol_r (r_assign rfl) rfl ?_
     refine ol_nil (to_k0 (fun _ _ h => h) (hK15 _ _ _ _ _ ?_))
     clear hK15
     refine hQ.ret (rvs1 (rv_t rfl)) (fun _ _ h => h) fun w hb hs hB hkd => ?_
     first
       | exact ⟨by unfold cmpI; rw [if_pos (by omega)], hb⟩
       | exact ⟨by unfold cmpI; rw [if_neg (by omega), if_pos (by omega)], hb⟩
       | exact ⟨by unfold cmpI; rw [if_neg (by omega), if_neg (by omega)], hb⟩
       | (exfalso; simp_all; done)
    ·refine wp_skip' (to_k0 (fun _ _ h => h) (hK13 _ _ _ _ _ ?_))
     clear hK13
     refine wp_seq' fun K16 hK16 => ?_
     refine wp_seq' fun K17 hK17 => ?_
     refine wp_reg ?_
     refine ol_r (r_move rfl) rfl ?_
     refine ol_r (r_move rfl) rfl ?_
     refine ol_r (r_gtr rfl rfl) rfl ?_
     refine ol_nil (to_k0 (fun _ _ h => h) (hK17 _ _ _ _ _ ?_))
     clear hK17
     first | refine wp_condD rfl (fun hc19 => ?_) (fun hc19 => ?_) | refine wp_condN rfl (fun hc19 => ?_) (fun hc19 => ?_) | refine wp_condNB rfl (fun hc19 => ?_) (fun hc19 => ?_) | refine wp_cond' rfl (fun hc19 => ?_) (fun hc19 => ?_)
     ·refine wp_seq' fun K18 hK18 => ?_
      refine wp_reg ?_
      refine ol_r (r_assign rfl) rfl ?_
      refine ol_nil (to_k0 (fun _ _ h => h) (hK18 _ _ _ _ _ ?_))
      clear hK18
      refine hQ.ret (rvs1 (rv_t rfl)) (fun _ _ h => h) fun w hb hs hB hkd => ?_
      first
        | exact ⟨by unfold cmpI; rw [if_pos (by omega)], hb⟩
        | exact ⟨by unfold cmpI; rw [if_neg (by omega), if_pos (by omega)], hb⟩
        | exact ⟨by unfold cmpI; rw [if_neg (by omega), if_neg (by omega)], hb⟩
        | (exfalso; simp_all; done)
     ·refine wp_skip' (to_k0 (fun _ _ h => h) (hK16 _ _ _ _ _ ?_))
      clear hK16
      refine wp_seq' fun K19 hK19 => ?_
      refine wp_reg ?_
      refine ol_r (r_assign rfl) rfl ?_
      refine ol_nil (to_k0 (fun _ _ h => h) (hK19 _ _ _ _ _ ?_))
      clear hK19
      refine hQ.ret (rvs1 (rv_t rfl)) (fun _ _ h => h) fun w hb hs hB hkd => ?_
      first
        | exact ⟨by unfold cmpI; rw [if_pos (by omega)], hb⟩
        | exact ⟨by unfold cmpI; rw [if_neg (by omega), if_pos (by omega)], hb⟩
        | exact ⟨by unfold cmpI; rw [if_neg (by omega), if_neg (by omega)], hb⟩
        | (exfalso; simp_all; done)
def tcf (a b : TileR) : Int := orL [cmpI a.1 b.1, cmpI a.2 b.2]
theorem tcf_lt (a b : TileR) : ltOf tcf a b = tlt a b := by
  unfold ltOf tcf tlt orL orL orL cmpI
  repeat' split
  all_goals (simp; try omega)
theorem tcf_swo : Go.Sort.SWO (ltOf tcf) := by
  refine ⟨fun x => ?_, fun x y z h1 h2 => ?_, fun x y z h1 h2 => ?_⟩
  · rw [tcf_lt, tlt_no]; omega
  · rw [tcf_lt] at *; exact tlt_tot.trans _ _ _ h1 h2
  · rw [tcf_lt] at *; rw [tlt_no] at *; omega
theorem match_tileOrder (a b : TileR) (w : World) : Calls Try.prog 69 #[encTile.val a, encTile.val b] w fun e w' => e = .returned (.int .i64 (tcf a b)) ∧ Below w.heap.size w w' := by
  refine enterQ (N := 17) (C := fun _ => True) (H := []) (B := w.heap.size) (args := [_, _]) Try.func69 rfl rfl rfl (Nat.le_refl _) (Sat.nil _ _) fun Q hQ => ?_
  refine wp_seq' fun K1 hK1 => ?_
  refine wp_reg ?_
  refine ol_box 2 rfl rfl rfl fun b2 => ?_
  refine ol_box 3 rfl rfl rfl fun b3 => ?_
  refine ol_r (r_assign rfl) rfl ?_
  refine ol_nil (to_k0 (fun _ _ h => h) (hK1 _ _ _ _ _ ?_))
  clear hK1
  apply wp_seq_cutM (σ := Unit) (fun s => True) (fun s => [(4, .int .i64 (tcf a b))]) [] (fun s => []) [(2, _), (3, _)]
  ·exact sub_nil
  ·exact (subH_same rfl (subH_same rfl subH_nil))
  ·intro K2 hK2
   refine wp_rega [(999, [(2, _), (3, _)])] (by kernel_rfl) ⟨.inr (subH_same rfl (subH_same rfl subH_nil)), trivial⟩ ?_
   refine aq_r 0 999 rfl (by kernel_rfl) (by kernel_rfl) (by kernel_rfl) (.head _) (by kernel_rfl) (by kernel_rfl) rfl (r_fa (o' := 0) rfl fl42_0 rfl) ?_
   refine aq_r 1 999 rfl (by kernel_rfl) (by kernel_rfl) (by kernel_rfl) (.head _) (by kernel_rfl) (by kernel_rfl) rfl (r_ld (id := 2) rfl rfl rfl sc3) ?_
   refine aq_r 2 999 rfl (by kernel_rfl) (by kernel_rfl) (by kernel_rfl) (.head _) (by kernel_rfl) (by kernel_rfl) rfl (r_fa (o' := 0) rfl fl42_0 rfl) ?_
   refine aq_r 3 999 rfl (by kernel_rfl) (by kernel_rfl) (by kernel_rfl) (.head _) (by kernel_rfl) (by kernel_rfl) rfl (r_ld (id := 3) rfl rfl rfl sc3) ?_
   refine aq_r 5 999 rfl (by kernel_rfl) (by kernel_rfl) (by kernel_rfl) (.head _) (by kernel_rfl) (by kernel_rfl) rfl (r_fa (o' := 1) rfl fl42_1 rfl) ?_
   refine aq_r 6 999 rfl (by kernel_rfl) (by kernel_rfl) (by kernel_rfl) (.head _) (by kernel_rfl) (by kernel_rfl) rfl (r_ld (id := 2) rfl rfl rfl sc3) ?_
   refine aq_r 7 999 rfl (by kernel_rfl) (by kernel_rfl) (by kernel_rfl) (.head _) (by kernel_rfl) (by kernel_rfl) rfl (r_fa (o' := 1) rfl fl42_1 rfl) ?_
   refine aq_r 8 999 rfl (by kernel_rfl) (by kernel_rfl) (by kernel_rfl) (.head _) (by kernel_rfl) (by kernel_rfl) rfl (r_ld (id := 3) rfl rfl rfl sc3) ?_
   refine aq_one (i := 4) (by kernel_rfl) rfl fun K3 hK3 => ?_
   refine ol_call rfl rfl cb97 rfl (fun w1 hb1 hs1 hB1 => Calls.mono (cmp_CompareI _ _ _) ?_)
   rintro e w2 ⟨rfl, hb2⟩
   refine After.below rfl hb1 hs1 hB1 hb2 ?_
   clear hb2 hB1 hs1 hb1 w2 w1
   refine ol_nil (to_k0 (fun _ _ h => h) (hK3 _ _ ⟨.inr (by repeat' first | exact subH_nil | refine subH_same rfl ?_ | (refine subH_blk rfl (by repeat' first | exact sub_nil | refine sub_cons rfl ?_) ?_)), trivial⟩ ?_))
   clear hK3
   refine aq_one (i := 9) (by kernel_rfl) rfl fun K4 hK4 => ?_
   refine ol_call rfl rfl cb97 rfl (fun w1 hb1 hs1 hB1 => Calls.mono (cmp_CompareI _ _ _) ?_)
   rintro e w2 ⟨rfl, hb2⟩
   refine After.below rfl hb1 hs1 hB1 hb2 ?_
   clear hb2 hB1 hs1 hb1 w2 w1
   refine ol_nil (to_k0 (fun _ _ h => h) (hK4 _ _ ⟨.inr (by repeat' first | exact subH_nil | refine subH_same rfl ?_ | (refine subH_blk rfl (by repeat' first | exact sub_nil | refine sub_cons rfl ?_) ?_)), trivial⟩ ?_))
   clear hK4
   refine aq_one (i := 10) (by kernel_rfl) rfl fun K5 hK5 => ?_
   refine ol_bsN 15 rfl rw150 rfl rfl (fun _ => by kernel_rfl) rfl fun a15 => ?_
   refine ol_nil (to_k0 (fun _ _ h => h) (hK5 _ _ ⟨.inr (by repeat' first | exact subH_nil | refine subH_same rfl ?_ | (refine subH_blk rfl (by repeat' first | exact sub_nil | refine sub_cons rfl ?_) ?_)), trivial⟩ ?_))
   clear hK5
   refine aq_one (i := 11) (by kernel_rfl) rfl fun K6 hK6 => ?_
   refine ol_call rfl rfl cb96 rfl (fun w1 hb1 hs1 hB1 => Calls.mono (cmp_OrI _ _ _ [cmpI a.1 b.1, cmpI a.2 b.2] _ (Sat.rd hs1 (E := encI) (id := 15) rfl rfl)) ?_)
   rintro e w2 ⟨rfl, hb2⟩
   refine After.below rfl hb1 hs1 hB1 hb2 ?_
   clear hb2 hB1 hs1 hb1 w2 w1
   refine ol_nil (to_k0 (fun _ _ h => h) (hK6 _ _ ⟨.inr (by repeat' first | exact subH_nil | refine subH_same rfl ?_ | (refine subH_blk rfl (by repeat' first | exact sub_nil | refine sub_cons rfl ?_) ?_)), trivial⟩ ?_))
   clear hK6
   refine aq_r 12 999 rfl (by kernel_rfl) (by kernel_rfl) (by kernel_rfl) (.head _) (by kernel_rfl) (by kernel_rfl) rfl (r_assign rfl) ?_
   refine aq_done (by kernel_rfl) ?_
   refine (to_k0 (fun _ _ h => h) (hK2 (()) _ _ ?_ (sub_cons rfl sub_nil) sub_nil subH_nil (subH_same rfl (subH_same rfl subH_nil))))
   try dsimp only
   all_goals trivial
  ·rintro s hI
   refine hQ.ret (rvs1 (rv_t rfl)) (fun _ _ h => h) fun w hb hs hB hkd => ?_
   exact ⟨rfl, hb⟩
theorem ref5_comes (a b : TileR) (w : World) : Calls Try.prog 73 #[encTile.val a, encTile.val b] w fun e w' => e = .returned (.bool (tlt a b)) ∧ Below w.heap.size w w' := by
  refine enterQ (N := 24) (C := fun _ => True) (H := []) (B := w.heap.size) (args := [_, _]) Try.func73 rfl rfl rfl (Nat.le_refl _) (Sat.nil _ _) fun Q hQ => ?_
  refine wp_seq' fun K1 hK1 => ?_
  refine wp_reg ?_
  refine ol_box 2 rfl rfl rfl fun b2 => ?_
  refine ol_box 3 rfl rfl rfl fun b3 => ?_
  refine ol_r (r_assign rfl) rfl ?_
  refine ol_nil (to_k0 (fun _ _ h => h) (hK1 _ _ _ _ _ ?_))
  clear hK1
  refine wp_seq' fun K2 hK2 => ?_
  refine wp_reg ?_
  refine ol_r (r_fa (o' := 0) rfl fl42_0 rfl) rfl ?_
  refine ol_r (r_ld (id := 2) rfl rfl rfl sc3) rfl ?_
  refine ol_r (r_fa (o' := 0) rfl fl42_0 rfl) rfl ?_
  refine ol_r (r_ld (id := 3) rfl rfl rfl sc3) rfl ?_
  refine ol_r (r_lss rfl rfl) rfl ?_
  refine ol_r (r_move rfl) rfl ?_
  refine ol_split (d := 10) rfl (fun hs10 => ?_) (fun hs10 => ?_)
  ·have phs10 := hs10; try simp only [decide_eq_true_eq, decide_eq_false_iff_not, Bool.not_eq_true', Bool.not_eq_false', Bool.not_true, Bool.not_false] at phs10
   refine ol_s rfl rfl hs10 rfl ?_
   refine ol_s rfl rfl hs10 rfl ?_
   refine ol_s rfl rfl hs10 rfl ?_
   refine ol_s rfl rfl hs10 rfl ?_
   refine ol_s rfl rfl hs10 rfl ?_
   refine ol_s rfl rfl hs10 rfl ?_
   refine ol_u rfl rfl rfl ?_
   refine ol_u rfl rfl rfl ?_
   refine ol_u rfl rfl rfl ?_
   refine ol_u rfl rfl rfl ?_
   refine ol_u rfl rfl rfl ?_
   refine ol_s rfl rfl hs10 rfl ?_
   refine ol_r (r_pickT rfl hs10 rfl) rfl ?_
   refine ol_r (r_assign rfl) rfl ?_
   refine ol_nil (to_k0 (fun _ _ h => h) (hK2 _ _ _ _ _ ?_))
   clear hK2
   refine hQ.ret (rvs1 (rv_t rfl)) (fun _ _ h => h) fun w hb hs hB hkd => ?_
   refine ⟨congrArg (fun b => Ending.returned (Value.bool b)) ?_, hb⟩
   unfold tlt
   simp_all
  ·have phs10 := hs10; try simp only [decide_eq_true_eq, decide_eq_false_iff_not, Bool.not_eq_true', Bool.not_eq_false', Bool.not_true, Bool.not_false] at phs10
   refine ol_g rfl rfl hs10 ?_
   refine ol_r (r_fa (o' := 0) rfl fl42_0 rfl) rfl ?_
   refine ol_g rfl rfl hs10 ?_
   refine ol_r (r_ld (id := 2) rfl rfl rfl sc3) rfl ?_
   refine ol_g rfl rfl hs10 ?_
   refine ol_r (r_fa (o' := 0) rfl fl42_0 rfl) rfl ?_
   refine ol_g rfl rfl hs10 ?_
   refine ol_r (r_ld (id := 3) rfl rfl rfl sc3) rfl ?_
   refine ol_g rfl rfl hs10 ?_
   refine ol_r (r_eql rfl rfl) rfl ?_
   refine ol_g rfl rfl hs10 ?_
   refine ol_r (r_move rfl) rfl ?_
   refine ol_split (d := 16) rfl (fun hs16 => ?_) (fun hs16 => ?_)
   ·have phs16 := hs16; try simp only [decide_eq_true_eq, decide_eq_false_iff_not, Bool.not_eq_true', Bool.not_eq_false', Bool.not_true, Bool.not_false] at phs16
    refine ol_g rfl rfl hs16 ?_
    refine ol_r (r_fa (o' := 1) rfl fl42_1 rfl) rfl ?_
    refine ol_g rfl rfl hs16 ?_
    refine ol_r (r_ld (id := 2) rfl rfl rfl sc3) rfl ?_
    refine ol_g rfl rfl hs16 ?_
    refine ol_r (r_fa (o' := 1) rfl fl42_1 rfl) rfl ?_
    refine ol_g rfl rfl hs16 ?_
    refine ol_r (r_ld (id := 3) rfl rfl rfl sc3) rfl ?_
    refine ol_g rfl rfl hs16 ?_
    refine ol_r (r_lss rfl rfl) rfl ?_
    refine ol_g rfl rfl hs10 ?_
    refine ol_r (r_pickT rfl hs16 rfl) rfl ?_
    refine ol_r (r_pickF rfl hs10 rfl) rfl ?_
    refine ol_r (r_assign rfl) rfl ?_
    refine ol_nil (to_k0 (fun _ _ h => h) (hK2 _ _ _ _ _ ?_))
    clear hK2
    refine hQ.ret (rvs1 (rv_t rfl)) (fun _ _ h => h) fun w hb hs hB hkd => ?_
    refine ⟨congrArg (fun b => Ending.returned (Value.bool b)) ?_, hb⟩
    unfold tlt
    simp_all
   ·have phs16 := hs16; try simp only [decide_eq_true_eq, decide_eq_false_iff_not, Bool.not_eq_true', Bool.not_eq_false', Bool.not_true, Bool.not_false] at phs16
    refine ol_s rfl rfl hs16 rfl ?_
    refine ol_s rfl rfl hs16 rfl ?_
    refine ol_s rfl rfl hs16 rfl ?_
    refine ol_s rfl rfl hs16 rfl ?_
    refine ol_s rfl rfl hs16 rfl ?_
    refine ol_g rfl rfl hs10 ?_
    refine ol_r (r_pickF rfl hs16 rfl) rfl ?_
    refine ol_r (r_pickF rfl hs10 rfl) rfl ?_
    refine ol_r (r_assign rfl) rfl ?_
    refine ol_nil (to_k0 (fun _ _ h => h) (hK2 _ _ _ _ _ ?_))
    clear hK2
    refine hQ.ret (rvs1 (rv_t rfl)) (fun _ _ h => h) fun w hb hs hB hkd => ?_
    refine ⟨congrArg (fun b => Ending.returned (Value.bool b)) ?_, hb⟩
    unfold tlt
    simp_all
theorem match_floor (a b : Int) (w : World) (hb0 : 0 < b) (ha : -9223372036854775807 ≤ a ∧ a ≤ 9223372036854775807) : Calls Try.prog 82 #[.int .i64 a, .int .i64 b] w fun e w' => e = .returned (.int .i64 (a / b)) ∧ Below w.heap.size w w' := by
  refine enterQ (N := 16) (C := fun _ => True) (H := []) (B := w.heap.size) (args := [_, _]) Try.func82 rfl rfl rfl (Nat.le_refl _) (Sat.nil _ _) fun Q hQ => ?_
  refine wp_seq' fun K1 hK1 => ?_
  refine wp_reg ?_
  refine ol_r (r_assign rfl) rfl ?_
  refine ol_nil (to_k0 (fun _ _ h => h) (hK1 _ _ _ _ _ ?_))
  clear hK1
  refine wp_seq' fun K2 hK2 => ?_
  refine wp_reg ?_
  refine ol_r (r_move rfl) rfl ?_
  refine ol_r (r_move rfl) rfl ?_
  first | refine ol_r (r_quo rfl rfl (by omega)) rfl ?_ | refine ol_r (r_tquo rfl rfl (by omega)) rfl ?_
  refine ol_r (r_assign rfl) rfl ?_
  refine ol_nil (to_k0 (fun _ _ h => h) (hK2 _ _ _ _ _ ?_))
  clear hK2
  refine wp_seq' fun K3 hK3 => ?_
  refine wp_seq' fun K4 hK4 => ?_
  refine wp_reg ?_
  refine ol_r (r_move rfl) rfl ?_
  refine ol_r (r_move rfl) rfl ?_
  first | refine ol_r (r_rem rfl rfl (by omega)) rfl ?_ | refine ol_r (r_trem rfl rfl (by omega)) rfl ?_
  refine ol_r (r_lss rfl rfl) rfl ?_
  refine ol_nil (to_k0 (fun _ _ h => h) (hK4 _ _ _ _ _ ?_))
  clear hK4
  first | refine wp_condD rfl (fun hc12 => ?_) (fun hc12 => ?_) | refine wp_condN rfl (fun hc12 => ?_) (fun hc12 => ?_) | refine wp_condNB rfl (fun hc12 => ?_) (fun hc12 => ?_) | refine wp_cond' rfl (fun hc12 => ?_) (fun hc12 => ?_)
  ·refine wp_reg ?_
   refine ol_r (r_move rfl) rfl ?_
   have hf := flo_neg hb0 hc12
   have hbd := flo_bd hb0 (N := 9223372036854775807) (by omega)
   refine ol_r (r_sub rfl rfl (by omega)) rfl ?_
   refine ol_r (r_assign rfl) rfl ?_
   refine ol_nil (to_k0 (fun _ _ h => h) (hK3 _ _ _ _ _ ?_))
   clear hK3
   refine wp_seq' fun K5 hK5 => ?_
   refine wp_reg ?_
   refine ol_r (r_move rfl) rfl ?_
   refine ol_r (r_assign rfl) rfl ?_
   refine ol_nil (to_k0 (fun _ _ h => h) (hK5 _ _ _ _ _ ?_))
   clear hK5
   refine hQ.ret (rvs1 (rv_t rfl)) (fun _ _ h => h) fun w hb hs hB hkd => ?_
   first
     | exact ⟨by rw [flo_neg hb0 hc12], hb⟩
     | exact ⟨by rw [flo_pos hb0 hc12], hb⟩
  ·refine wp_skip' (to_k0 (fun _ _ h => h) (hK3 _ _ _ _ _ ?_))
   clear hK3
   refine wp_seq' fun K6 hK6 => ?_
   refine wp_reg ?_
   refine ol_r (r_move rfl) rfl ?_
   refine ol_r (r_assign rfl) rfl ?_
   refine ol_nil (to_k0 (fun _ _ h => h) (hK6 _ _ _ _ _ ?_))
   clear hK6
   refine hQ.ret (rvs1 (rv_t rfl)) (fun _ _ h => h) fun w hb hs hB hkd => ?_
   first
     | exact ⟨by rw [flo_neg hb0 hc12], hb⟩
     | exact ⟨by rw [flo_pos hb0 hc12], hb⟩
theorem ref5_floor (a b : Int) (w : World) (hb0 : 0 < b) (ha : -9223372036854775807 ≤ a ∧ a ≤ 9223372036854775807) : Calls Try.prog 53 #[.int .i64 a, .int .i64 b] w fun e w' => e = .returned (.int .i64 (a / b)) ∧ Below w.heap.size w w' := by
  refine enterQ (N := 16) (C := fun _ => True) (H := []) (B := w.heap.size) (args := [_, _]) Try.func53 rfl rfl rfl (Nat.le_refl _) (Sat.nil _ _) fun Q hQ => ?_
  refine wp_seq' fun K1 hK1 => ?_
  refine wp_reg ?_
  refine ol_r (r_assign rfl) rfl ?_
  refine ol_nil (to_k0 (fun _ _ h => h) (hK1 _ _ _ _ _ ?_))
  clear hK1
  refine wp_seq' fun K2 hK2 => ?_
  refine wp_reg ?_
  refine ol_r (r_move rfl) rfl ?_
  refine ol_r (r_move rfl) rfl ?_
  first | refine ol_r (r_quo rfl rfl (by omega)) rfl ?_ | refine ol_r (r_tquo rfl rfl (by omega)) rfl ?_
  refine ol_r (r_assign rfl) rfl ?_
  refine ol_nil (to_k0 (fun _ _ h => h) (hK2 _ _ _ _ _ ?_))
  clear hK2
  refine wp_seq' fun K3 hK3 => ?_
  refine wp_seq' fun K4 hK4 => ?_
  refine wp_reg ?_
  refine ol_r (r_move rfl) rfl ?_
  refine ol_r (r_move rfl) rfl ?_
  first | refine ol_r (r_rem rfl rfl (by omega)) rfl ?_ | refine ol_r (r_trem rfl rfl (by omega)) rfl ?_
  refine ol_r (r_lss rfl rfl) rfl ?_
  refine ol_nil (to_k0 (fun _ _ h => h) (hK4 _ _ _ _ _ ?_))
  clear hK4
  first | refine wp_condD rfl (fun hc12 => ?_) (fun hc12 => ?_) | refine wp_condN rfl (fun hc12 => ?_) (fun hc12 => ?_) | refine wp_condNB rfl (fun hc12 => ?_) (fun hc12 => ?_) | refine wp_cond' rfl (fun hc12 => ?_) (fun hc12 => ?_)
  ·refine wp_reg ?_
   refine ol_r (r_move rfl) rfl ?_
   have hf := flo_neg hb0 hc12
   have hbd := flo_bd hb0 (N := 9223372036854775807) (by omega)
   refine ol_r (r_sub rfl rfl (by omega)) rfl ?_
   refine ol_r (r_assign rfl) rfl ?_
   refine ol_nil (to_k0 (fun _ _ h => h) (hK3 _ _ _ _ _ ?_))
   clear hK3
   refine wp_seq' fun K5 hK5 => ?_
   refine wp_reg ?_
   refine ol_r (r_move rfl) rfl ?_
   refine ol_r (r_assign rfl) rfl ?_
   refine ol_nil (to_k0 (fun _ _ h => h) (hK5 _ _ _ _ _ ?_))
   clear hK5
   refine hQ.ret (rvs1 (rv_t rfl)) (fun _ _ h => h) fun w hb hs hB hkd => ?_
   first
     | exact ⟨by rw [flo_neg hb0 hc12], hb⟩
     | exact ⟨by rw [flo_pos hb0 hc12], hb⟩
  ·refine wp_skip' (to_k0 (fun _ _ h => h) (hK3 _ _ _ _ _ ?_))
   clear hK3
   refine wp_seq' fun K6 hK6 => ?_
   refine wp_reg ?_
   refine ol_r (r_move rfl) rfl ?_
   refine ol_r (r_assign rfl) rfl ?_
   refine ol_nil (to_k0 (fun _ _ h => h) (hK6 _ _ _ _ _ ?_))
   clear hK6
   refine hQ.ret (rvs1 (rv_t rfl)) (fun _ _ h => h) fun w hb hs hB hkd => ?_
   first
     | exact ⟨by rw [flo_neg hb0 hc12], hb⟩
     | exact ⟨by rw [flo_pos hb0 hc12], hb⟩
theorem match_tile (x y : Int) (w : World) : Calls Try.prog 66 #[.int .i64 x, .int .i64 y] w fun e w' => e = .returned (.agg #[.int .i64 x, .int .i64 y]) ∧ Below w.heap.size w w' := by
  refine enterQ (N := 8) (C := fun _ => True) (H := []) (B := w.heap.size) (args := [_, _]) Try.func66 rfl rfl rfl (Nat.le_refl _) (Sat.nil _ _) fun Q hQ => ?_
  refine wp_seq' fun K1 hK1 => ?_
  refine wp_reg ?_
  refine ol_alloc 4 z42 rfl fun b4 => ?_
  refine ol_nil (to_k0 (fun _ _ h => h) (hK1 _ _ _ _ _ ?_))
  clear hK1
  refine wp_seq' fun K2 hK2 => ?_
  refine wp_reg ?_
  refine ol_r (r_move rfl) rfl ?_
  refine ol_r (r_move rfl) rfl ?_
  refine ol_r (r_build rfl (fun _ => bd42_0_1 _ _ _)) rfl ?_
  refine ol_store (id := 4) rfl rfl rfl rfl sz42 rfl rfl (by first | decide | exact Nat.zero_lt_succ _ | simp) ?_
  refine ol_nil (to_k0 (fun _ _ h => h) (hK2 _ _ _ _ _ ?_))
  clear hK2
  refine hQ.ret (rvs1 (rv_c (id := 4) (n := 2) rfl rfl ag42 rfl)) (fun _ _ h => h) fun w hb hs hB hkd => ?_
  exact ⟨rfl, hb⟩
theorem match_cellOf (x y side : Int) (w : World) (hs : 0 < side) (hx : -9223372036854775807 ≤ x ∧ x ≤ 9223372036854775807) (hy : -9223372036854775807 ≤ y ∧ y ≤ 9223372036854775807) :
    Calls Try.prog 51 #[.agg #[.int .i64 x, .int .i64 y], .int .i64 side] w fun e w' => e = .returned (encTile.val (cellR x y side)) ∧ Below w.heap.size w w' := by
  refine enterQ (N := 14) (C := fun _ => True) (H := []) (B := w.heap.size) (args := [_, _]) Try.func51 rfl rfl rfl (Nat.le_refl _) (Sat.nil _ _) fun Q hQ => ?_
  refine wp_seq' fun K1 hK1 => ?_
  refine wp_reg ?_
  refine ol_box 2 rfl rfl rfl fun b2 => ?_
  refine ol_alloc 4 z42 rfl fun b4 => ?_
  refine ol_nil (to_k0 (fun _ _ h => h) (hK1 _ _ _ _ _ ?_))
  clear hK1
  apply wp_seq_cutM (σ := Unit) (fun s => True) (fun s => []) [(4, _)] (fun s => [(4, .blk b4 (pairs 0 [.int .i64 (x / side), .int .i64 (y / side)]) 42)]) [(2, _)]
  ·exact (sub_cons rfl sub_nil)
  ·exact (subH_same rfl subH_nil)
  ·intro K2 hK2
   refine wp_rega [(999, [(2, _)]), (9, [(4, _)])] (by kernel_rfl) ⟨.inr (subH_same rfl subH_nil), ⟨.inr (subH_same rfl subH_nil), trivial⟩⟩ ?_
   refine aq_r 0 999 rfl (by kernel_rfl) (by kernel_rfl) (by kernel_rfl) (.head _) (by kernel_rfl) (by kernel_rfl) rfl (r_fa (o' := 0) rfl fl41_0 rfl) ?_
   refine aq_r 1 999 rfl (by kernel_rfl) (by kernel_rfl) (by kernel_rfl) (.head _) (by kernel_rfl) (by kernel_rfl) rfl (r_ld (id := 2) rfl rfl rfl sc3) ?_
   refine aq_r 2 999 rfl (by kernel_rfl) (by kernel_rfl) (by kernel_rfl) (.head _) (by kernel_rfl) (by kernel_rfl) rfl (r_move rfl) ?_
   refine aq_r 4 999 rfl (by kernel_rfl) (by kernel_rfl) (by kernel_rfl) (.head _) (by kernel_rfl) (by kernel_rfl) rfl (r_fa (o' := 1) rfl fl41_1 rfl) ?_
   refine aq_r 5 999 rfl (by kernel_rfl) (by kernel_rfl) (by kernel_rfl) (.head _) (by kernel_rfl) (by kernel_rfl) rfl (r_ld (id := 2) rfl rfl rfl sc3) ?_
   refine aq_r 6 999 rfl (by kernel_rfl) (by kernel_rfl) (by kernel_rfl) (.head _) (by kernel_rfl) (by kernel_rfl) rfl (r_move rfl) ?_
   refine aq_one (i := 3) (by kernel_rfl) rfl fun K3 hK3 => ?_
   refine ol_call rfl rfl cb82 rfl (fun w1 hb1 hs1 hB1 => Calls.mono (match_floor _ _ _ hs (by omega)) ?_)
   rintro e w2 ⟨rfl, hb2⟩
   refine After.below rfl hb1 hs1 hB1 hb2 ?_
   clear hb2 hB1 hs1 hb1 w2 w1
   refine ol_nil (to_k0 (fun _ _ h => h) (hK3 _ _ ⟨.inr (by repeat' first | exact subH_nil | refine subH_same rfl ?_ | (refine subH_blk rfl (by repeat' first | exact sub_nil | refine sub_cons rfl ?_) ?_)), ⟨.inr (by repeat' first | exact subH_nil | refine subH_same rfl ?_ | (refine subH_blk rfl (by repeat' first | exact sub_nil | refine sub_cons rfl ?_) ?_)), trivial⟩⟩ ?_))
   clear hK3
   refine aq_one (i := 7) (by kernel_rfl) rfl fun K4 hK4 => ?_
   refine ol_call rfl rfl cb82 rfl (fun w1 hb1 hs1 hB1 => Calls.mono (match_floor _ _ _ hs (by omega)) ?_)
   rintro e w2 ⟨rfl, hb2⟩
   refine After.below rfl hb1 hs1 hB1 hb2 ?_
   clear hb2 hB1 hs1 hb1 w2 w1
   refine ol_nil (to_k0 (fun _ _ h => h) (hK4 _ _ ⟨.inr (by repeat' first | exact subH_nil | refine subH_same rfl ?_ | (refine subH_blk rfl (by repeat' first | exact sub_nil | refine sub_cons rfl ?_) ?_)), ⟨.inr (by repeat' first | exact subH_nil | refine subH_same rfl ?_ | (refine subH_blk rfl (by repeat' first | exact sub_nil | refine sub_cons rfl ?_) ?_)), trivial⟩⟩ ?_))
   clear hK4
   refine aq_one (i := 8) (by kernel_rfl) rfl fun K5 hK5 => ?_
   refine ol_call rfl rfl cb66 rfl (fun w1 hb1 hs1 hB1 => Calls.mono (match_tile _ _ _) ?_)
   rintro e w2 ⟨rfl, hb2⟩
   refine After.below rfl hb1 hs1 hB1 hb2 ?_
   clear hb2 hB1 hs1 hb1 w2 w1
   refine ol_nil (to_k0 (fun _ _ h => h) (hK5 _ _ ⟨.inr (by repeat' first | exact subH_nil | refine subH_same rfl ?_ | (refine subH_blk rfl (by repeat' first | exact sub_nil | refine sub_cons rfl ?_) ?_)), ⟨.inr (by repeat' first | exact subH_nil | refine subH_same rfl ?_ | (refine subH_blk rfl (by repeat' first | exact sub_nil | refine sub_cons rfl ?_) ?_)), trivial⟩⟩ ?_))
   clear hK5
   refine aq_one (i := 9) (by kernel_rfl) rfl fun K6 hK6 => ?_
   refine ol_store (id := 4) rfl rfl rfl rfl sz42 rfl rfl (by first | decide | exact Nat.zero_lt_succ _ | simp) ?_
   refine ol_nil (to_k0 (fun _ _ h => h) (hK6 _ _ ⟨.inr (by repeat' first | exact subH_nil | refine subH_same rfl ?_ | (refine subH_blk rfl (by repeat' first | exact sub_nil | refine sub_cons rfl ?_) ?_)), ⟨.inl (by kernel_rfl), trivial⟩⟩ ?_))
   clear hK6
   refine aq_done (by kernel_rfl) ?_
   refine (to_k0 (fun _ _ h => h) (hK2 (()) _ _ ?_ sub_nil (sub_cons rfl sub_nil) (subH_blk rfl (by repeat' first | exact sub_nil | refine sub_cons rfl ?_) subH_nil) (subH_same rfl subH_nil)))
   try dsimp only
   all_goals trivial
  ·rintro s hI
   refine hQ.ret (rvs1 (rv_c (id := 4) (n := 2) rfl rfl ag42 rfl)) (fun _ _ h => h) fun w hb hs hB hkd => ?_
   exact ⟨rfl, hb⟩
theorem ptB_bd {x y : Int} (h : ptB x y = true) : (-100000000 ≤ x ∧ x ≤ 100000000) ∧ (-100000000 ≤ y ∧ y ≤ 100000000) := by unfold ptB at h; rw [Bool.and_eq_true, inB_iff, inB_iff] at h; exact h
def cellOfR (x y side : Int) : TileR × Int := if inB side 1 10000000 = false ∨ ptB x y = false then ((0, 0), 9) else (cellR x y side, 0)
theorem match_CellOf (x y side : Int) (w : World) :
    Calls Try.prog 14 #[.agg #[.int .i64 x, .int .i64 y], .int .i64 side] w fun e w' => e = .returned (.tuple #[encTile.val (cellOfR x y side).1, .int .i64 (cellOfR x y side).2]) ∧ Below w.heap.size w w' := by
  refine enterQ (N := 18) (C := fun _ => True) (H := []) (B := w.heap.size) (args := [_, _]) Try.func14 rfl rfl rfl (Nat.le_refl _) (Sat.nil _ _) fun Q hQ => ?_
  refine wp_seq' fun K1 hK1 => ?_
  refine wp_reg ?_
  refine ol_box 2 rfl rfl rfl fun b2 => ?_
  refine ol_alloc 4 z42 rfl fun b4 => ?_
  refine ol_r (r_assign rfl) rfl ?_
  refine ol_nil (to_k0 (fun _ _ h => h) (hK1 _ _ _ _ _ ?_))
  clear hK1
  refine wp_seq' fun K2 hK2 => ?_
  refine wp_seq' fun K3 hK3 => ?_
  refine wp_reg ?_
  refine ol_r (r_move rfl) rfl ?_
  refine ol_call rfl rfl cb45 rfl (fun w1 hb1 hs1 hB1 => Calls.mono (match_in _ _ _ _) ?_)
  rintro e w2 ⟨rfl, hb2⟩
  refine After.below rfl hb1 hs1 hB1 hb2 ?_
  clear hb2 hB1 hs1 hb1 w2 w1
  refine ol_r (r_not rfl) rfl ?_
  refine ol_r (r_move rfl) rfl ?_
  refine ol_split (d := 9) rfl (fun hs9 => ?_) (fun hs9 => ?_)
  ·have phs9 := hs9; try simp only [decide_eq_true_eq, decide_eq_false_iff_not, Bool.not_eq_true', Bool.not_eq_false', Bool.not_true, Bool.not_false] at phs9
   refine ol_s rfl rfl hs9 rfl ?_
   refine ol_s rfl rfl hs9 rfl ?_
   refine ol_s rfl rfl hs9 rfl ?_
   refine ol_r (r_pickT rfl hs9 rfl) rfl ?_
   refine ol_nil (to_k0 (fun _ _ h => h) (hK3 _ _ _ _ _ ?_))
   clear hK3
   refine wp_condT rfl ?_
   refine wp_seq' fun K4 hK4 => ?_
   refine wp_reg ?_
   refine ol_r (r_build rfl (fun _ => bd42 _)) rfl ?_
   refine ol_store (id := 4) rfl rfl rfl rfl sz42 rfl rfl (by first | decide | exact Nat.zero_lt_succ _ | simp) ?_
   refine ol_r (r_assign rfl) rfl ?_
   refine ol_nil (to_k0 (fun _ _ h => h) (hK4 _ _ _ _ _ ?_))
   clear hK4
   refine hQ.ret (rvs2 (rv_c (id := 4) (n := 2) rfl rfl ag42 rfl) (rv_t rfl)) (fun _ _ h => h) fun w hb hs hB hkd => ?_
   exact ⟨by rw [cellOfR, if_pos (.inl phs9)]; rfl, hb⟩
  ·have phs9 := hs9; try simp only [decide_eq_true_eq, decide_eq_false_iff_not, Bool.not_eq_true', Bool.not_eq_false', Bool.not_true, Bool.not_false] at phs9
   refine ol_g rfl rfl hs9 ?_
   refine ol_r (r_lda (id := 2) (n := 2) rfl rfl rfl ag41) rfl ?_
   refine ol_g rfl rfl hs9 ?_
   refine ol_call rfl rfl cb50 rfl (fun w1 hb1 hs1 hB1 => Calls.mono (match_isPlace _ _ _) ?_)
   rintro e w2 ⟨rfl, hb2⟩
   refine After.below rfl hb1 hs1 hB1 hb2 ?_
   clear hb2 hB1 hs1 hb1 w2 w1
   refine ol_g rfl rfl hs9 ?_
   refine ol_r (r_not rfl) rfl ?_
   refine ol_r (r_pickF rfl hs9 rfl) rfl ?_
   refine ol_nil (to_k0 (fun _ _ h => h) (hK3 _ _ _ _ _ ?_))
   clear hK3
   first | refine wp_condD rfl (fun hc13 => ?_) (fun hc13 => ?_) | refine wp_condN rfl (fun hc13 => ?_) (fun hc13 => ?_) | refine wp_condNB rfl (fun hc13 => ?_) (fun hc13 => ?_) | refine wp_cond' rfl (fun hc13 => ?_) (fun hc13 => ?_)
   ·refine wp_seq' fun K5 hK5 => ?_
    refine wp_reg ?_
    refine ol_r (r_build rfl (fun _ => bd42 _)) rfl ?_
    refine ol_store (id := 4) rfl rfl rfl rfl sz42 rfl rfl (by first | decide | exact Nat.zero_lt_succ _ | simp) ?_
    refine ol_r (r_assign rfl) rfl ?_
    refine ol_nil (to_k0 (fun _ _ h => h) (hK5 _ _ _ _ _ ?_))
    clear hK5
    refine hQ.ret (rvs2 (rv_c (id := 4) (n := 2) rfl rfl ag42 rfl) (rv_t rfl)) (fun _ _ h => h) fun w hb hs hB hkd => ?_
    exact ⟨by rw [cellOfR, if_pos (.inr hc13)]; rfl, hb⟩
   ·refine wp_skip' (to_k0 (fun _ _ h => h) (hK2 _ _ _ _ _ ?_))
    clear hK2
    refine wp_seq' fun K6 hK6 => ?_
    refine wp_reg ?_
    refine ol_r (r_lda (id := 2) (n := 2) rfl rfl rfl ag41) rfl ?_
    refine ol_r (r_move rfl) rfl ?_
    have hb1' : ¬(inB side 1 10000000 = false ∨ ptB x y = false) := by simp_all
    have h1 := inB_iff.1 (show inB side 1 10000000 = true by simp_all)
    have h2 := ptB_bd (show ptB x y = true by simp_all)
    refine ol_call rfl rfl cb51 rfl (fun w1 hb1 hs1 hB1 => Calls.mono (match_cellOf _ _ _ _ (by omega) (by omega) (by omega)) ?_)
    rintro e w2 ⟨rfl, hb2⟩
    refine After.below rfl hb1 hs1 hB1 hb2 ?_
    clear hb2 hB1 hs1 hb1 w2 w1
    refine ol_store (id := 4) rfl rfl rfl rfl sz42 rfl rfl (by first | decide | exact Nat.zero_lt_succ _ | simp) ?_
    refine ol_r (r_assign rfl) rfl ?_
    refine ol_nil (to_k0 (fun _ _ h => h) (hK6 _ _ _ _ _ ?_))
    clear hK6
    refine hQ.ret (rvs2 (rv_c (id := 4) (n := 2) rfl rfl ag42 rfl) (rv_t rfl)) (fun _ _ h => h) fun w hb hs hB hkd => ?_
    exact ⟨by rw [cellOfR, if_neg hb1']; rfl, hb⟩
theorem ref5_CellOf_yes (x y side : Int) (w : World) (hg1 : inB side 1 10000000 = true) (hg2 : ptB x y = true) :
    Calls Try.prog 15 #[.agg #[.int .i64 x, .int .i64 y], .int .i64 side] w fun e w' => e = .returned (.tuple #[encTile.val (cellOfR x y side).1, .int .i64 (cellOfR x y side).2]) ∧ Below w.heap.size w w' := by
  have h1 := inB_iff.1 hg1
  have h2 := ptB_bd hg2
  have hno : ¬(inB side 1 10000000 = false ∨ ptB x y = false) := by rw [hg1, hg2]; simp
  refine enterQ (N := 23) (C := fun _ => True) (H := []) (B := w.heap.size) (args := [_, _]) Try.func15 rfl rfl rfl (Nat.le_refl _) (Sat.nil _ _) fun Q hQ => ?_
  refine wp_seq' fun K1 hK1 => ?_
  refine wp_reg ?_
  refine ol_box 2 rfl rfl rfl fun b2 => ?_
  refine ol_alloc 4 z42 rfl fun b4 => ?_
  refine ol_r (r_assign rfl) rfl ?_
  refine ol_nil (to_k0 (fun _ _ h => h) (hK1 _ _ _ _ _ ?_))
  clear hK1
  refine wp_seq' fun K2 hK2 => ?_
  refine wp_seq' fun K3 hK3 => ?_
  refine wp_reg ?_
  refine ol_r (r_move rfl) rfl ?_
  refine ol_call rfl rfl cb47 rfl (fun w1 hb1 hs1 hB1 => Calls.mono (ref5_outside _ _ _ _) ?_)
  rintro e w2 ⟨rfl, hb2⟩
  refine After.below rfl hb1 hs1 hB1 hb2 ?_
  clear hb2 hB1 hs1 hb1 w2 w1
  refine ol_r (r_move rfl) rfl ?_
  refine ol_split (d := 8) rfl (fun hs8 => ?_) (fun hs8 => ?_)
  ·have phs8 := hs8; try simp only [decide_eq_true_eq, decide_eq_false_iff_not, Bool.not_eq_true', Bool.not_eq_false', Bool.not_true, Bool.not_false] at phs8
   exfalso
   rw [hg1] at hs8; cases hs8
  ·have phs8 := hs8; try simp only [decide_eq_true_eq, decide_eq_false_iff_not, Bool.not_eq_true', Bool.not_eq_false', Bool.not_true, Bool.not_false] at phs8
   refine ol_g rfl rfl hs8 ?_
   refine ol_r (r_lda (id := 2) (n := 2) rfl rfl rfl ag41) rfl ?_
   refine ol_g rfl rfl hs8 ?_
   refine ol_call rfl rfl cb52 rfl (fun w1 hb1 hs1 hB1 => Calls.mono (ref5_isPoint _ _ _) ?_)
   rintro e w2 ⟨rfl, hb2⟩
   refine After.below rfl hb1 hs1 hB1 hb2 ?_
   clear hb2 hB1 hs1 hb1 w2 w1
   refine ol_g rfl rfl hs8 ?_
   refine ol_r (r_not rfl) rfl ?_
   refine ol_r (r_pickF rfl hs8 rfl) rfl ?_
   refine ol_nil (to_k0 (fun _ _ h => h) (hK3 _ _ _ _ _ ?_))
   clear hK3
   first | refine wp_condD rfl (fun hc12 => ?_) (fun hc12 => ?_) | refine wp_condN rfl (fun hc12 => ?_) (fun hc12 => ?_) | refine wp_condNB rfl (fun hc12 => ?_) (fun hc12 => ?_) | refine wp_cond' rfl (fun hc12 => ?_) (fun hc12 => ?_)
   ·exfalso
    rw [hg2] at hc12; cases hc12
   ·refine wp_skip' (to_k0 (fun _ _ h => h) (hK2 _ _ _ _ _ ?_))
    clear hK2
    apply wp_seq_cutM (σ := Unit) (fun s => True) (fun s => [(5, .int .i64 0)]) [(4, _)] (fun s => [(4, .blk b4 (pairs 0 [.int .i64 (x / side), .int .i64 (y / side)]) 42)]) [(2, _)]
    ·exact (sub_cons rfl sub_nil)
    ·exact (subH_same rfl subH_nil)
    ·intro K4 hK4
     refine wp_rega [(999, [(2, _)]), (9, [(4, _)])] (by kernel_rfl) ⟨.inr (subH_same rfl subH_nil), ⟨.inr (subH_same rfl subH_nil), trivial⟩⟩ ?_
     refine aq_r 0 999 rfl (by kernel_rfl) (by kernel_rfl) (by kernel_rfl) (.head _) (by kernel_rfl) (by kernel_rfl) rfl (r_fa (o' := 0) rfl fl41_0 rfl) ?_
     refine aq_r 1 999 rfl (by kernel_rfl) (by kernel_rfl) (by kernel_rfl) (.head _) (by kernel_rfl) (by kernel_rfl) rfl (r_ld (id := 2) rfl rfl rfl sc3) ?_
     refine aq_r 2 999 rfl (by kernel_rfl) (by kernel_rfl) (by kernel_rfl) (.head _) (by kernel_rfl) (by kernel_rfl) rfl (r_move rfl) ?_
     refine aq_r 4 999 rfl (by kernel_rfl) (by kernel_rfl) (by kernel_rfl) (.head _) (by kernel_rfl) (by kernel_rfl) rfl (r_fa (o' := 1) rfl fl41_1 rfl) ?_
     refine aq_r 5 999 rfl (by kernel_rfl) (by kernel_rfl) (by kernel_rfl) (.head _) (by kernel_rfl) (by kernel_rfl) rfl (r_ld (id := 2) rfl rfl rfl sc3) ?_
     refine aq_r 6 999 rfl (by kernel_rfl) (by kernel_rfl) (by kernel_rfl) (.head _) (by kernel_rfl) (by kernel_rfl) rfl (r_move rfl) ?_
     refine aq_one (i := 3) (by kernel_rfl) rfl fun K5 hK5 => ?_
     refine ol_call rfl rfl cb53 rfl (fun w1 hb1 hs1 hB1 => Calls.mono (ref5_floor _ _ _ (by omega) (by omega)) ?_)
     rintro e w2 ⟨rfl, hb2⟩
     refine After.below rfl hb1 hs1 hB1 hb2 ?_
     clear hb2 hB1 hs1 hb1 w2 w1
     refine ol_nil (to_k0 (fun _ _ h => h) (hK5 _ _ ⟨.inr (by repeat' first | exact subH_nil | refine subH_same rfl ?_ | (refine subH_blk rfl (by repeat' first | exact sub_nil | refine sub_cons rfl ?_) ?_)), ⟨.inr (by repeat' first | exact subH_nil | refine subH_same rfl ?_ | (refine subH_blk rfl (by repeat' first | exact sub_nil | refine sub_cons rfl ?_) ?_)), trivial⟩⟩ ?_))
     clear hK5
     refine aq_one (i := 7) (by kernel_rfl) rfl fun K6 hK6 => ?_
     refine ol_call rfl rfl cb53 rfl (fun w1 hb1 hs1 hB1 => Calls.mono (ref5_floor _ _ _ (by omega) (by omega)) ?_)
     rintro e w2 ⟨rfl, hb2⟩
     refine After.below rfl hb1 hs1 hB1 hb2 ?_
     clear hb2 hB1 hs1 hb1 w2 w1
     refine ol_nil (to_k0 (fun _ _ h => h) (hK6 _ _ ⟨.inr (by repeat' first | exact subH_nil | refine subH_same rfl ?_ | (refine subH_blk rfl (by repeat' first | exact sub_nil | refine sub_cons rfl ?_) ?_)), ⟨.inr (by repeat' first | exact subH_nil | refine subH_same rfl ?_ | (refine subH_blk rfl (by repeat' first | exact sub_nil | refine sub_cons rfl ?_) ?_)), trivial⟩⟩ ?_))
     clear hK6
     refine aq_r 8 999 rfl (by kernel_rfl) (by kernel_rfl) (by kernel_rfl) (.head _) (by kernel_rfl) (by kernel_rfl) rfl (r_build rfl (fun _ => bd42_0_1 _ _ _)) ?_
     refine aq_one (i := 9) (by kernel_rfl) rfl fun K7 hK7 => ?_
     refine ol_store (id := 4) rfl rfl rfl rfl sz42 rfl rfl (by first | decide | exact Nat.zero_lt_succ _ | simp) ?_
     refine ol_nil (to_k0 (fun _ _ h => h) (hK7 _ _ ⟨.inr (by repeat' first | exact subH_nil | refine subH_same rfl ?_ | (refine subH_blk rfl (by repeat' first | exact sub_nil | refine sub_cons rfl ?_) ?_)), ⟨.inl (by kernel_rfl), trivial⟩⟩ ?_))
     clear hK7
     refine aq_r 10 999 rfl (by kernel_rfl) (by kernel_rfl) (by kernel_rfl) (.head _) (by kernel_rfl) (by kernel_rfl) rfl (r_assign rfl) ?_
     refine aq_done (by kernel_rfl) ?_
     refine (to_k0 (fun _ _ h => h) (hK4 (()) _ _ ?_ (sub_cons rfl sub_nil) (sub_cons rfl sub_nil) (subH_blk rfl (by repeat' first | exact sub_nil | refine sub_cons rfl ?_) subH_nil) (subH_same rfl subH_nil)))
     try dsimp only
     all_goals trivial
    ·rintro s hI
     refine hQ.ret (rvs2 (rv_c (id := 4) (n := 2) rfl rfl ag42 rfl) (rv_t rfl)) (fun _ _ h => h) fun w hb hs hB hkd => ?_
     exact ⟨by rw [cellOfR, if_neg hno]; rfl, hb⟩
theorem ref5_CellOf_no (x y side : Int) (w : World) (hno : inB side 1 10000000 = false ∨ ptB x y = false) :
    Calls Try.prog 15 #[.agg #[.int .i64 x, .int .i64 y], .int .i64 side] w fun e w' => e = .returned (.tuple #[encTile.val (cellOfR x y side).1, .int .i64 (cellOfR x y side).2]) ∧ Below w.heap.size w w' := by
  refine enterQ (N := 23) (C := fun _ => True) (H := []) (B := w.heap.size) (args := [_, _]) Try.func15 rfl rfl rfl (Nat.le_refl _) (Sat.nil _ _) fun Q hQ => ?_
  refine wp_seq' fun K1 hK1 => ?_
  refine wp_reg ?_
  refine ol_box 2 rfl rfl rfl fun b2 => ?_
  refine ol_alloc 4 z42 rfl fun b4 => ?_
  refine ol_r (r_assign rfl) rfl ?_
  refine ol_nil (to_k0 (fun _ _ h => h) (hK1 _ _ _ _ _ ?_))
  clear hK1
  refine wp_seq' fun K2 hK2 => ?_
  refine wp_seq' fun K3 hK3 => ?_
  refine wp_reg ?_
  refine ol_r (r_move rfl) rfl ?_
  refine ol_call rfl rfl cb47 rfl (fun w1 hb1 hs1 hB1 => Calls.mono (ref5_outside _ _ _ _) ?_)
  rintro e w2 ⟨rfl, hb2⟩
  refine After.below rfl hb1 hs1 hB1 hb2 ?_
  clear hb2 hB1 hs1 hb1 w2 w1
  refine ol_r (r_move rfl) rfl ?_
  refine ol_split (d := 8) rfl (fun hs8 => ?_) (fun hs8 => ?_)
  ·have phs8 := hs8; try simp only [decide_eq_true_eq, decide_eq_false_iff_not, Bool.not_eq_true', Bool.not_eq_false', Bool.not_true, Bool.not_false] at phs8
   refine ol_s rfl rfl hs8 rfl ?_
   refine ol_s rfl rfl hs8 rfl ?_
   refine ol_s rfl rfl hs8 rfl ?_
   refine ol_r (r_pickT rfl hs8 rfl) rfl ?_
   refine ol_nil (to_k0 (fun _ _ h => h) (hK3 _ _ _ _ _ ?_))
   clear hK3
   refine wp_condT rfl ?_
   refine wp_seq' fun K4 hK4 => ?_
   refine wp_reg ?_
   refine ol_r (r_build rfl (fun _ => bd42 _)) rfl ?_
   refine ol_store (id := 4) rfl rfl rfl rfl sz42 rfl rfl (by first | decide | exact Nat.zero_lt_succ _ | simp) ?_
   refine ol_r (r_assign rfl) rfl ?_
   refine ol_nil (to_k0 (fun _ _ h => h) (hK4 _ _ _ _ _ ?_))
   clear hK4
   refine hQ.ret (rvs2 (rv_c (id := 4) (n := 2) rfl rfl ag42 rfl) (rv_t rfl)) (fun _ _ h => h) fun w hb hs hB hkd => ?_
   exact ⟨by rw [cellOfR, if_pos hno]; rfl, hb⟩
  ·have phs8 := hs8; try simp only [decide_eq_true_eq, decide_eq_false_iff_not, Bool.not_eq_true', Bool.not_eq_false', Bool.not_true, Bool.not_false] at phs8
   refine ol_g rfl rfl hs8 ?_
   refine ol_r (r_lda (id := 2) (n := 2) rfl rfl rfl ag41) rfl ?_
   refine ol_g rfl rfl hs8 ?_
   refine ol_call rfl rfl cb52 rfl (fun w1 hb1 hs1 hB1 => Calls.mono (ref5_isPoint _ _ _) ?_)
   rintro e w2 ⟨rfl, hb2⟩
   refine After.below rfl hb1 hs1 hB1 hb2 ?_
   clear hb2 hB1 hs1 hb1 w2 w1
   refine ol_g rfl rfl hs8 ?_
   refine ol_r (r_not rfl) rfl ?_
   refine ol_r (r_pickF rfl hs8 rfl) rfl ?_
   refine ol_nil (to_k0 (fun _ _ h => h) (hK3 _ _ _ _ _ ?_))
   clear hK3
   first | refine wp_condD rfl (fun hc12 => ?_) (fun hc12 => ?_) | refine wp_condN rfl (fun hc12 => ?_) (fun hc12 => ?_) | refine wp_condNB rfl (fun hc12 => ?_) (fun hc12 => ?_) | refine wp_cond' rfl (fun hc12 => ?_) (fun hc12 => ?_)
   ·refine wp_seq' fun K5 hK5 => ?_
    refine wp_reg ?_
    refine ol_r (r_build rfl (fun _ => bd42 _)) rfl ?_
    refine ol_store (id := 4) rfl rfl rfl rfl sz42 rfl rfl (by first | decide | exact Nat.zero_lt_succ _ | simp) ?_
    refine ol_r (r_assign rfl) rfl ?_
    refine ol_nil (to_k0 (fun _ _ h => h) (hK5 _ _ _ _ _ ?_))
    clear hK5
    refine hQ.ret (rvs2 (rv_c (id := 4) (n := 2) rfl rfl ag42 rfl) (rv_t rfl)) (fun _ _ h => h) fun w hb hs hB hkd => ?_
    exact ⟨by rw [cellOfR, if_pos hno]; rfl, hb⟩
   ·exfalso
    rcases hno with h | h
    · rw [h] at hs8; cases hs8
    · rw [h] at hc12; cases hc12
theorem ref5_CellOf (x y side : Int) (w : World) :
    Calls Try.prog 15 #[.agg #[.int .i64 x, .int .i64 y], .int .i64 side] w fun e w' => e = .returned (.tuple #[encTile.val (cellOfR x y side).1, .int .i64 (cellOfR x y side).2]) ∧ Below w.heap.size w w' := by
  by_cases h1 : inB side 1 10000000 = true
  · by_cases h2 : ptB x y = true
    · exact ref5_CellOf_yes x y side w h1 h2
    · exact ref5_CellOf_no x y side w (.inr (by simpa using h2))
  · exact ref5_CellOf_no x y side w (.inl (by simpa using h1))
end Go.Proofs.Ytjflbnbofedlkaa

/-
  More rules: an append of all of a slice to a slice of one's own.
-/

namespace Go.Proofs.Ytjflbnbofedlkaa.Hx
open Go Go.RowKit
set_option linter.unusedVariables false
set_option linter.unusedSimpArgs false
section
variable {P : Program} {N : Fr} {B : Nat} {w0 : World} {Q : Exit → Act → World → Prop} {al : AL} {H : HL} {ops rest : List Oper} {d : Nat} {ty : TypeId} {pos : String} {after : Array Edge}
theorem run_append0 {t e : TypeId} {size bytes n cap c : Nat} {a : Option Addr} {w : World} (hT : RowT P t e size bytes) (hc : n ≤ cap) :
    (Builtin.append_ #[t, t] ty #[.slice a n cap, .slice none 0 c]).run P w = .ok (.slice a n cap) w := by
  obtain ⟨hu, i, z, hi, hz, hsz, hby, hzz, hpos⟩ := hT
  cases a <;> simp [Builtin.append_, run_underlying hu, sizeOf, typeInfo, hi, Builtin.lenOf, Builtin.firstCells, hc, storeCells]
theorem Sat.again {w : World} {id : Nat} {e : Ent} (hs : Sat B w H) (hr : look H id = some e) : Sat B w ((id, e) :: H) :=
  ⟨fun i f hf => hs.ok i f (by
    by_cases h : id = i
    · subst h; rw [look_cons_eq] at hf; rw [hr]; exact hf
    · rwa [look_cons_ne _ _ h] at hf), fun i j f g hij hf hg => hs.apart i j f g hij (by
    by_cases h : id = i
    · subst h; rw [look_cons_eq] at hf; rw [hr]; exact hf
    · rwa [look_cons_ne _ _ h] at hf) (by
    by_cases h : id = j
    · subst h; rw [look_cons_eq] at hg; rw [hr]; exact hg
    · rwa [look_cons_ne _ _ h] at hg)⟩
theorem ol_append0 {s x : Operand} {id n cap c : Nat} {a : Option Addr} {xs : List Value} {t e : TypeId} {size bytes : Nat} (hs : ev al s = some (.slice a n cap)) (hr : look H id = some (.row a n cap xs e size))
    (hx : ev al x = some (.slice none 0 c)) (hT : RowT P t e size bytes) (hd : Nat.blt d N.n = true)
    (k : OL P N B w0 ops rest Q ((d, .slice a n cap) :: al) ((id, .row a n cap xs e size) :: H)) :
    OL P N B w0 ops ({ dst := some d, op := .call { callee := .builtin .append, args := #[s, x], argTypes := #[t, t] }, type := ty, pos, after, guard := none } :: rest) Q al H := by
  intro a0 w hst
  have hok : w.ownsRow B e size (.slice a n cap) n xs := hst.sat.ok _ _ hr
  have hc : n ≤ cap := by
    rcases hok.2 with ⟨h1, h2⟩ | ⟨g, cap', cur, hv, hb, hg, h3, h4, h5⟩
    · omega
    · cases hv; exact h3
  refine ol_r (v := .slice a n cap) (fun a w hst => ?_) hd (fun a w hst => k a w ⟨hst.regs, hst.below, hst.sat.again hr, hst.base, hst.kd, hst.marks⟩) a0 w hst
  simp [BigFrame.execOp_builtin, BigFrame.builtin_append, hst.regs.eval hs, hst.regs.eval hx, run_append0 (ty := ty) hT hc]
theorem ol_appendR {α : Type} (E : Enc α) {s x : Operand} {id n cap m c : Nat} {a ad : Option Addr} {xs ys : List α} {t e : TypeId} {size bytes : Nat} (hl : Rd E B w0 ad m c ys) (hs : ev al s = some (.slice a n cap)) (hr : look H id = some (.row a n cap (E.enc xs) e size))
    (hx : ev al x = some (.slice ad m c)) (hz : size = E.size) (hT : RowT P t e size bytes)
    (hb : n + m ≤ 9223372036854775807 ∧ (n + m) * bytes ≤ 140737488355328) (hd : Nat.blt d N.n = true)
    (k : ∀ a' cap', OL P N B w0 ops rest Q ((d, .slice a' (n + m) cap') :: al) ((id, .row a' (n + m) cap' (E.enc (xs ++ ys)) e size) :: H)) :
    OL P N B w0 ops ({ dst := some d, op := .call { callee := .builtin .append, args := #[s, x], argTypes := #[t, t] }, type := ty, pos, after, guard := none } :: rest) Q al H := by
  have hlen := hl.len
  cases ad with
  | none =>
    have hm : m = 0 := by
      cases m with
      | zero => rfl
      | succ m => have := hl.isSome (by omega); simp at this
    subst hm
    have hys : ys = [] := List.eq_nil_of_length_eq_zero hlen
    subst hys
    refine ol_append0 hs hr hx hT hd ?_
    have h := k a cap
    simpa using h
  | some p =>
    refine ol_append (id := id) (news := E.enc ys) hs hr hx hT (by rw [Enc.enc_len, hlen, hz]) (E.ones_enc ys) (fun w1 hb1 hs1 hB1 => ⟨p, rfl, (hl.below hb1).flat rfl⟩) hb hd fun a' c' => ?_
    have h := k a' c'
    rwa [Enc.enc_append] at h
theorem ol_appendO {α : Type} (E : Enc α) {s x : Operand} {id id2 n cap m c : Nat} {a ad : Option Addr} {xs ys : List α} {t e : TypeId} {size bytes : Nat} (hs : ev al s = some (.slice a n cap)) (hr : look H id = some (.row a n cap (E.enc xs) e size))
    (hx : ev al x = some (.slice ad m c)) (hr2 : look H id2 = some (.row ad m c (E.enc ys) e size)) (hz : size = E.size) (hT : RowT P t e size bytes)
    (hb : n + m ≤ 9223372036854775807 ∧ (n + m) * bytes ≤ 140737488355328) (hd : Nat.blt d N.n = true)
    (k : ∀ a' cap', OL P N B w0 ops rest Q ((d, .slice a' (n + m) cap') :: al) ((id, .row a' (n + m) cap' (E.enc (xs ++ ys)) e size) :: H)) :
    OL P N B w0 ops ({ dst := some d, op := .call { callee := .builtin .append, args := #[s, x], argTypes := #[t, t] }, type := ty, pos, after, guard := none } :: rest) Q al H := by
  intro a0 w hst
  have hl : Rd E w.heap.size w ad m c ys := hst.sat.rd hr2 hz
  have hlen := hl.len
  cases ad with
  | none =>
    have hm : m = 0 := by
      cases m with
      | zero => rfl
      | succ m => have := hl.isSome (by omega); simp at this
    subst hm
    have hys : ys = [] := List.eq_nil_of_length_eq_zero hlen
    subst hys
    refine ol_append0 hs hr hx hT hd ?_ a0 w hst
    have h := k a cap
    simpa using h
  | some p =>
    refine ol_append (id := id) (news := E.enc ys) hs hr hx hT (by rw [Enc.enc_len, hlen, hz]) (E.ones_enc ys) (fun w1 hb1 hs1 hB1 => ⟨p, rfl, (hs1.rd hr2 hz).flat rfl⟩) hb hd (fun a' c' => ?_) a0 w hst
    have h := k a' c'
    rwa [Enc.enc_append] at h
end
section
variable {P : Program} {N : Fr} {B : Nat} {w0 : World} {Q : Exit → Act → World → Prop} {Ss : List (Nat × HL)} {ops : Array Oper} {listed : Array Bool} {n : Nat} {al : AL} {H : HL} {d : Nat} {ty : TypeId} {pos : String} {after : Array Edge} {Hj : HL}
/-- A part of a slice that is only read, in free order. -/
theorem aq_slr {α : Type} {xs : List α} {a : Option Addr} {m cap : Nat} {t : TypeId} {s : Operand} {lo hi : Option Operand} {l h : Option Int} {E : Enc α} (i j : Nat) (hi' : ops[i]? = some { dst := some d, op := .slice t s lo hi none, type := ty, pos, after, guard := none }) (hs : Region.noSelect ops = true) (hf : Region.free .any ops listed i = true) (hr : (Region.ready .any ops listed).contains i = true)
    (hm : (j, Hj) ∈ Ss) (hw : (Region.waitsFor .any ops j i || Nat.ble ops.size j) = true) (hn : (Ss.map (·.1)).contains i = false) (hd : Nat.blt d N.n = true)
    (hl : Rd E B w0 a m cap xs) (h1 : ev al s = some (.slice a m cap)) (hlo : evo al lo = some l) (hhi : evo al hi = some h) (hT : Slc P t E.size) (h0 : 0 ≤ l.getD 0 ∧ l.getD 0 ≤ h.getD m ∧ h.getD m ≤ m)
    (k : ∀ a' c', Rd E B w0 a' ((h.getD m).toNat - (l.getD 0).toNat) c' ((xs.drop (l.getD 0).toNat).take ((h.getD m).toNat - (l.getD 0).toNat)) → AQ P N B w0 ops Q Ss n (listed.setIfInBounds i true) ((d, .slice a' ((h.getD m).toNat - (l.getD 0).toNat) c') :: al) H) : AQ P N B w0 ops Q Ss (n + 1) listed al H := by
  obtain ⟨a', c', h2, h3⟩ := hl.part (l := (l.getD 0).toNat) (h := (h.getD m).toNat) (by omega) (by omega)
  have hr' := r_sl (P := P) (N := N) (B := B) (w0 := w0) (H := Hj) (ty := ty) (lo := lo) (hi := hi) h1 hlo hhi hT ⟨h0.1, h0.2.1, by have := hl.room; omega⟩ hl.room.1
  rw [h2] at hr'
  exact aq_r i j hi' hs hf hr hm hw hn hd hr' (k a' c' h3)
end
end Go.Proofs.Ytjflbnbofedlkaa.Hx

/-
  Tiles put in order, by program and reference.
-/



namespace Go.Proofs.Ytjflbnbofedlkaa
open Go Go.RowKit Hx
set_option linter.unusedVariables false
set_option linter.unusedSimpArgs false
set_option maxRecDepth 8000
theorem Hx.Fresh.head {α : Type} {E : Enc α} {e : TypeId} {w w' : World} {a : Option Addr} {n cap : Nat} {ys : List α} (h : Fresh E e w w' a n cap ys) : (0 < n → ∃ g, a = some ⟨g, 0, none⟩) ∧ n ≤ cap ∧ cap ≤ 9223372036854775807 := by
  obtain ⟨_, h1, h2 | ⟨g, cap', cur, hv, _, _, h3, h4, _⟩⟩ := h
  · cases h2.1
    exact ⟨fun h => by have := h2.2; omega, by have := h2.2; omega, by omega⟩
  · cases hv
    exact ⟨fun _ => ⟨g, rfl⟩, h3, h4⟩
theorem ref5_InOrder_small (a : Option Addr) (n c : Nat) (xs : List TileR) (w : World) (h2 : n < 2) (hx : Rd encTile w.heap.size w a n c xs) :
    Calls Try.prog 63 #[.slice a n c] w fun e w' => ∃ b m k, e = .returned (.slice b m k) ∧ Fresh encTile 42 w w' b m k (sortL tlt xs) := by
  have hln := hx.len
  refine enterQ (N := 65) (C := fun _ => True) (H := []) (B := w.heap.size) (args := [_]) Try.func63 rfl rfl rfl (Nat.le_refl _) (Sat.nil _ _) fun Q hQ => ?_
  refine wp_seq' fun K1 hK1 => ?_
  refine wp_reg ?_
  refine ol_r (r_assign rfl) rfl ?_
  refine ol_nil (to_k0 (fun _ _ h => h) (hK1 _ _ _ _ _ ?_))
  clear hK1
  refine wp_seq' fun K2 hK2 => ?_
  refine wp_seq' fun K3 hK3 => ?_
  refine wp_reg ?_
  refine ol_r (r_move rfl) rfl ?_
  refine ol_r (r_len rfl sl45) rfl ?_
  refine ol_r (r_lss rfl rfl) rfl ?_
  refine ol_nil (to_k0 (fun _ _ h => h) (hK3 _ _ _ _ _ ?_))
  clear hK3
  first | refine wp_condD rfl (fun hc8 => ?_) (fun hc8 => ?_) | refine wp_condN rfl (fun hc8 => ?_) (fun hc8 => ?_) | refine wp_condNB rfl (fun hc8 => ?_) (fun hc8 => ?_) | refine wp_cond' rfl (fun hc8 => ?_) (fun hc8 => ?_)
  ·refine wp_seq' fun K4 hK4 => ?_
   refine wp_reg ?_
   refine ol_r (r_move rfl) rfl ?_
   refine ol_appendN encTile 10 rfl rfl hx rfl rw45 (by omega) rfl fun a10 c10 => ?_
   refine ol_r (r_assign rfl) rfl ?_
   refine ol_nil (to_k0 (fun _ _ h => h) (hK4 _ _ _ _ _ ?_))
   clear hK4
   refine hQ.ret (rvs1 (rv_t rfl)) (fun _ _ h => h) fun w hb hs hB hkd => ?_
   rw [← sortL_of tlt_tot (srt_small (by omega)) (List.Perm.refl xs)]
   exact ⟨_, _, _, rfl, hb, hs.ok 10 _ rfl⟩
  ·exfalso
   omega
theorem ref5_InOrder_step (N : Nat) (ih : ∀ (a : Option Addr) (n c : Nat) (xs : List TileR) (w : World), n ≤ N → Rd encTile w.heap.size w a n c xs → n ≤ 1000000 →
    Calls Try.prog 63 #[.slice a n c] w fun e w' => ∃ b m k, e = .returned (.slice b m k) ∧ Fresh encTile 42 w w' b m k (sortL tlt xs)) (a : Option Addr) (n c : Nat) (xs : List TileR) (w : World) (hN : n ≤ N + 1) (h2 : ¬n < 2) (hx : Rd encTile w.heap.size w a n c xs) (hn : n ≤ 1000000) :
    Calls Try.prog 63 #[.slice a n c] w fun e w' => ∃ b m k, e = .returned (.slice b m k) ∧ Fresh encTile 42 w w' b m k (sortL tlt xs) := by
  have hln := hx.len
  refine enterQ (N := 65) (C := fun _ => True) (H := []) (B := w.heap.size) (args := [_]) Try.func63 rfl rfl rfl (Nat.le_refl _) (Sat.nil _ _) fun Q hQ => ?_
  refine wp_seq' fun K1 hK1 => ?_
  refine wp_reg ?_
  refine ol_r (r_assign rfl) rfl ?_
  refine ol_nil (to_k0 (fun _ _ h => h) (hK1 _ _ _ _ _ ?_))
  clear hK1
  refine wp_seq' fun K2 hK2 => ?_
  refine wp_seq' fun K3 hK3 => ?_
  refine wp_reg ?_
  refine ol_r (r_move rfl) rfl ?_
  refine ol_r (r_len rfl sl45) rfl ?_
  refine ol_r (r_lss rfl rfl) rfl ?_
  refine ol_nil (to_k0 (fun _ _ h => h) (hK3 _ _ _ _ _ ?_))
  clear hK3
  first | refine wp_condD rfl (fun hc8 => ?_) (fun hc8 => ?_) | refine wp_condN rfl (fun hc8 => ?_) (fun hc8 => ?_) | refine wp_condNB rfl (fun hc8 => ?_) (fun hc8 => ?_) | refine wp_cond' rfl (fun hc8 => ?_) (fun hc8 => ?_)
  ·exfalso
   omega
  ·refine wp_skip' (to_k0 (fun _ _ h => h) (hK2 _ _ _ _ _ ?_))
   clear hK2
   refine wp_seq' fun K4 hK4 => ?_
   refine wp_rega [(999, [])] (by kernel_rfl) ⟨.inr subH_nil, trivial⟩ ?_
   refine aq_r 0 999 rfl (by kernel_rfl) (by kernel_rfl) (by kernel_rfl) (.head _) (by kernel_rfl) (by kernel_rfl) rfl (r_move rfl) ?_
   refine aq_r 1 999 rfl (by kernel_rfl) (by kernel_rfl) (by kernel_rfl) (.head _) (by kernel_rfl) (by kernel_rfl) rfl (r_move rfl) ?_
   refine aq_r 2 999 rfl (by kernel_rfl) (by kernel_rfl) (by kernel_rfl) (.head _) (by kernel_rfl) (by kernel_rfl) rfl (r_len rfl sl45) ?_
   first | refine aq_r 3 999 rfl (by kernel_rfl) (by kernel_rfl) (by kernel_rfl) (.head _) (by kernel_rfl) (by kernel_rfl) rfl (r_quo rfl rfl (by omega)) ?_ | refine aq_r 3 999 rfl (by kernel_rfl) (by kernel_rfl) (by kernel_rfl) (.head _) (by kernel_rfl) (by kernel_rfl) rfl (r_tquo rfl rfl (by omega)) ?_
   refine aq_slr 4 999 rfl (by kernel_rfl) (by kernel_rfl) (by kernel_rfl) (.head _) (by kernel_rfl) (by kernel_rfl) rfl hx rfl rfl rfl sl45 (by simp only [Option.getD_some, Option.getD_none]; omega) fun a15 c15 hl15 => ?_
   try simp only [Option.getD_some, Option.getD_none] at hl15 ⊢
   refine aq_r 6 999 rfl (by kernel_rfl) (by kernel_rfl) (by kernel_rfl) (.head _) (by kernel_rfl) (by kernel_rfl) rfl (r_move rfl) ?_
   refine aq_r 7 999 rfl (by kernel_rfl) (by kernel_rfl) (by kernel_rfl) (.head _) (by kernel_rfl) (by kernel_rfl) rfl (r_move rfl) ?_
   refine aq_r 8 999 rfl (by kernel_rfl) (by kernel_rfl) (by kernel_rfl) (.head _) (by kernel_rfl) (by kernel_rfl) rfl (r_len rfl sl45) ?_
   first | refine aq_r 9 999 rfl (by kernel_rfl) (by kernel_rfl) (by kernel_rfl) (.head _) (by kernel_rfl) (by kernel_rfl) rfl (r_quo rfl rfl (by omega)) ?_ | refine aq_r 9 999 rfl (by kernel_rfl) (by kernel_rfl) (by kernel_rfl) (.head _) (by kernel_rfl) (by kernel_rfl) rfl (r_tquo rfl rfl (by omega)) ?_
   refine aq_slr 10 999 rfl (by kernel_rfl) (by kernel_rfl) (by kernel_rfl) (.head _) (by kernel_rfl) (by kernel_rfl) rfl hx rfl rfl rfl sl45 (by simp only [Option.getD_some, Option.getD_none]; omega) fun a21 c21 hl21 => ?_
   try simp only [Option.getD_some, Option.getD_none] at hl21 ⊢
   refine aq_one (i := 5) (by kernel_rfl) rfl fun K5 hK5 => ?_
   refine ol_call rfl rfl cb63 rfl (fun w1 hb1 hs1 hB1 => ?_)
   refine Calls.mono (ih _ _ _ _ _ (by omega) (hl15.at hb1 hB1) (by omega)) ?_
   rintro e w2 ⟨a16, n16, c16, rfl, hf⟩
   have hl16 := hf.len
   obtain ⟨hh16, hc16⟩ := hf.head
   refine After.fresh (id := 16) rfl hb1 hs1 hB1 hf ?_
   clear hf hB1 hs1 hb1 w2 w1
   refine ol_nil (to_k0 (fun _ _ h => h) (hK5 _ _ ⟨.inr (by repeat' first | exact subH_nil | refine subH_same rfl ?_ | (refine subH_blk rfl (by repeat' first | exact sub_nil | refine sub_cons rfl ?_) ?_)), trivial⟩ ?_))
   clear hK5
   refine aq_one (i := 11) (by kernel_rfl) rfl fun K6 hK6 => ?_
   refine ol_call rfl rfl cb63 rfl (fun w1 hb1 hs1 hB1 => ?_)
   refine Calls.mono (ih _ _ _ _ _ (by omega) (hl21.at hb1 hB1) (by omega)) ?_
   rintro e w2 ⟨a22, n22, c22, rfl, hf⟩
   have hl22 := hf.len
   obtain ⟨hh22, hc22⟩ := hf.head
   refine After.fresh (id := 22) rfl hb1 hs1 hB1 hf ?_
   clear hf hB1 hs1 hb1 w2 w1
   obtain ⟨P1, hP1⟩ : ∃ P, P = (xs.drop (Int.toNat 0)).take (((n : Int) / 2).toNat - Int.toNat 0) := ⟨_, rfl⟩
   obtain ⟨P2, hP2⟩ : ∃ P, P = (xs.drop ((n : Int) / 2).toNat).take ((n : Int).toNat - ((n : Int) / 2).toNat) := ⟨_, rfl⟩
   have hcat : P1 ++ P2 = xs := by
     rw [hP1, hP2, List.take_of_length_le (l := xs.drop ((n : Int) / 2).toNat) (by rw [List.length_drop]; omega)]
     show List.take ((n : Int) / 2).toNat xs ++ _ = _
     exact List.take_append_drop _ _
   rw [← hP1] at hl16
   rw [← hP2] at hl22
   rw [← hP1, ← hP2]
   obtain ⟨L1, hL1⟩ : ∃ L, L = sortL tlt P1 := ⟨_, rfl⟩
   obtain ⟨L2, hL2⟩ : ∃ L, L = sortL tlt P2 := ⟨_, rfl⟩
   have hS1 : Srt tlt L1 := by rw [hL1]; exact sortL_srt tlt_tot _
   have hS2 : Srt tlt L2 := by rw [hL2]; exact sortL_srt tlt_tot _
   have hn12 : n16 + n22 = n := by
     rw [← hl16, ← hl22, sortL_len, sortL_len, ← List.length_append, hcat, hln]
   rw [← hL1] at hl16
   rw [← hL2] at hl22
   rw [← hL1, ← hL2]
   clear hP1 hP2
   refine ol_nil (to_k0 (fun _ _ h => h) (hK6 _ _ ⟨.inr (by repeat' first | exact subH_nil | refine subH_same rfl ?_ | (refine subH_blk rfl (by repeat' first | exact sub_nil | refine sub_cons rfl ?_) ?_)), trivial⟩ ?_))
   clear hK6
   refine aq_r 12 999 rfl (by kernel_rfl) (by kernel_rfl) (by kernel_rfl) (.head _) (by kernel_rfl) (by kernel_rfl) rfl (r_assign rfl) ?_
   refine aq_r 13 999 rfl (by kernel_rfl) (by kernel_rfl) (by kernel_rfl) (.head _) (by kernel_rfl) (by kernel_rfl) rfl (r_assign rfl) ?_
   refine aq_done (by kernel_rfl) ?_
   refine (to_k0 (fun _ _ h => h) (hK4 _ _ _ _ _ ?_))
   clear hK4
   refine wp_seq' fun K7 hK7 => ?_
   refine wp_reg ?_
   refine ol_nilrow 5 42 2 ?_
   refine ol_r (r_assign rfl) rfl ?_
   refine ol_nil (to_k0 (fun _ _ h => h) (hK7 _ _ _ _ _ ?_))
   clear hK7
   refine wp_seq' fun K8 hK8 => ?_
   refine wp_block' ?_
   apply wp_loopM (σ := Nat × Nat × Option Addr × Option Addr × Option Addr × Nat × Nat × List TileR) (fun s => s.1 ≤ n16 ∧ s.2.1 ≤ n22 ∧ TlP a16 s.2.2.1 s.1 n16 2 ∧ TlP a22 s.2.2.2.1 s.2.1 n22 2 ∧ s.2.2.2.2.2.1 = s.1 + s.2.1 ∧ s.2.2.2.2.2.2.2.length = s.2.2.2.2.2.1 ∧ MergeI tlt L1 L2 s.2.2.2.2.2.2.2 (L1.drop s.1) (L2.drop s.2.1)) (fun s => [(3, .slice s.2.2.1 (n16 - s.1) (c16 - s.1)), (4, .slice s.2.2.2.1 (n22 - s.2.1) (c22 - s.2.1)), (5, .slice s.2.2.2.2.1 s.2.2.2.2.2.1 s.2.2.2.2.2.2.1)]) [(2, _)] (fun s => [(5, .row s.2.2.2.2.1 s.2.2.2.2.2.1 s.2.2.2.2.2.2.1 (encTile.enc s.2.2.2.2.2.2.2) 42 2)]) [(16, _), (22, _)] (fun s => n16 + n22 - (s.1 + s.2.1)) ((0, 0, a16, a22, none, 0, 0, []))
   ·try dsimp only
    exact ⟨Nat.zero_le _, Nat.zero_le _, TlP.zero hh16, TlP.zero hh22, rfl, rfl, MergeI.init hS1 hS2⟩
   ·exact (sub_cons rfl (sub_cons rfl (sub_cons rfl sub_nil)))
   ·exact (sub_cons rfl sub_nil)
   ·exact (subH_row rfl (by first | (dsimp only; rfl; done) | (rfl; done) | (dsimp only; done)) subH_nil)
   ·exact (subH_same rfl (subH_same rfl subH_nil))
   ·rintro ⟨i, j, pa, pb, oa, m, oc, zs⟩ ⟨hi, hj, hpa, hpb, hmm, hzl, hm⟩
    dsimp only at hi hj hpa hpb hmm hzl hm ⊢
    intro K9 hK9
    refine wp_seq' fun K10 hK10 => ?_
    apply wp_seq_cutM (σ := Bool) (fun s => s = true ↔ i < n16 ∨ j < n22) (fun s => [(30, .bool s)]) [(2, _), (3, _), (4, _), (5, _)] (fun s => []) [(5, _), (16, _), (22, _)]
    ·exact (sub_cons rfl (sub_cons rfl (sub_cons rfl (sub_cons rfl sub_nil))))
    ·exact (subH_same rfl (subH_same rfl (subH_same rfl subH_nil)))
    ·intro K11 hK11
     refine wp_reg ?_
     refine ol_r (r_move rfl) rfl ?_
     refine ol_r (r_len rfl sl45) rfl ?_
     refine ol_r (r_gtr rfl rfl) rfl ?_
     refine ol_r (r_move rfl) rfl ?_
     refine ol_split (d := 26) rfl (fun hs26 => ?_) (fun hs26 => ?_)
     ·have phs26 := hs26; try simp only [decide_eq_true_eq, decide_eq_false_iff_not, Bool.not_eq_true', Bool.not_eq_false', Bool.not_true, Bool.not_false] at phs26
      refine ol_s rfl rfl hs26 rfl ?_
      refine ol_s rfl rfl hs26 rfl ?_
      refine ol_s rfl rfl hs26 rfl ?_
      refine ol_r (r_pickT rfl hs26 rfl) rfl ?_
      refine ol_nil (to_k0 (fun _ _ h => h) (hK11 (_) _ _ ?_ (sub_cons rfl sub_nil) (sub_cons rfl (sub_cons rfl (sub_cons rfl (sub_cons rfl sub_nil)))) subH_nil (subH_same rfl (subH_same rfl (subH_same rfl subH_nil)))))
      try dsimp only
      first
      | (rw [decide_eq_true_eq]; omega)
      | (simp; omega)
     ·have phs26 := hs26; try simp only [decide_eq_true_eq, decide_eq_false_iff_not, Bool.not_eq_true', Bool.not_eq_false', Bool.not_true, Bool.not_false] at phs26
      refine ol_g rfl rfl hs26 ?_
      refine ol_r (r_move rfl) rfl ?_
      refine ol_g rfl rfl hs26 ?_
      refine ol_r (r_len rfl sl45) rfl ?_
      refine ol_g rfl rfl hs26 ?_
      refine ol_r (r_gtr rfl rfl) rfl ?_
      refine ol_r (r_pickF rfl hs26 rfl) rfl ?_
      refine ol_nil (to_k0 (fun _ _ h => h) (hK11 (_) _ _ ?_ (sub_cons rfl sub_nil) (sub_cons rfl (sub_cons rfl (sub_cons rfl (sub_cons rfl sub_nil)))) subH_nil (subH_same rfl (subH_same rfl (subH_same rfl subH_nil)))))
      try dsimp only
      first
      | (rw [decide_eq_true_eq]; omega)
      | (simp; omega)
    ·rintro bc hbc
     first | refine wp_condD rfl (fun hc30 => ?_) (fun hc30 => ?_) | refine wp_condN rfl (fun hc30 => ?_) (fun hc30 => ?_) | refine wp_condNB rfl (fun hc30 => ?_) (fun hc30 => ?_) | refine wp_cond' rfl (fun hc30 => ?_) (fun hc30 => ?_)
     ·refine wp_skip' (to_k0 (fun _ _ h => h) (hK10 _ _ _ _ _ ?_))
      clear hK10
      refine wp_block' ?_
      apply wp_seq_cutM (σ := Bool) (fun s => MrgC tlt L1 L2 i j s) (fun s => [(47, .bool s)]) [(2, _), (3, _), (4, _), (5, _)] (fun s => []) [(5, _), (16, _), (22, _)]
      ·exact (sub_cons rfl (sub_cons rfl (sub_cons rfl (sub_cons rfl sub_nil))))
      ·exact (subH_same rfl (subH_same rfl (subH_same rfl subH_nil)))
      ·intro K12 hK12
       refine wp_regq (by kernel_rfl) (by kernel_rfl) ?_
       refine ql_r (r_move rfl) rfl ?_
       refine ql_r (r_len rfl sl45) rfl ?_
       refine ql_r (r_eql rfl rfl) rfl ?_
       refine ql_r (r_move rfl) rfl ?_
       refine ql_split (d := 34) rfl (fun hs34 => ?_) (fun hs34 => ?_)
       ·have phs34 := hs34; try simp only [decide_eq_true_eq, decide_eq_false_iff_not, Bool.not_eq_true', Bool.not_eq_false', Bool.not_true, Bool.not_false] at phs34
        refine ql_s rfl rfl hs34 rfl ?_
        refine ql_s rfl rfl hs34 rfl ?_
        refine ql_s rfl rfl hs34 rfl ?_
        refine ql_s rfl rfl hs34 rfl ?_
        refine ql_u rfl rfl rfl ?_
        refine ql_u rfl rfl rfl ?_
        refine ql_u rfl rfl rfl ?_
        refine ql_u rfl rfl rfl ?_
        refine ql_u rfl rfl rfl ?_
        refine ql_u rfl rfl rfl ?_
        refine ql_u rfl rfl rfl ?_
        refine ql_s rfl rfl hs34 rfl ?_
        refine ql_r (r_pickT rfl hs34 rfl) rfl ?_
        refine ql_nil (to_k0 (fun _ _ h => h) (hK12 (_) _ _ ?_ (sub_cons rfl sub_nil) (sub_cons rfl (sub_cons rfl (sub_cons rfl (sub_cons rfl sub_nil)))) subH_nil (subH_same rfl (subH_same rfl (subH_same rfl subH_nil)))))
        try dsimp only
        first
        | exact mrg_B tlt_tot hx40 hx43
        | (have := hbc.1 hc30; refine mrg_A ?_ ?_ <;> omega)
        | (have := hbc.1 hc30; refine mrg_C ?_ ?_ <;> omega)
        | (have := hbc.1 hc30; dsimp only; split <;> first | (refine mrg_A ?_ ?_ <;> omega) | (refine mrg_C ?_ ?_ <;> omega))
       ·have phs34 := hs34; try simp only [decide_eq_true_eq, decide_eq_false_iff_not, Bool.not_eq_true', Bool.not_eq_false', Bool.not_true, Bool.not_false] at phs34
        refine ql_g rfl rfl hs34 ?_
        refine ql_r (r_move rfl) rfl ?_
        refine ql_g rfl rfl hs34 ?_
        refine ql_r (r_len rfl sl45) rfl ?_
        refine ql_g rfl rfl hs34 ?_
        refine ql_r (r_gtr rfl rfl) rfl ?_
        refine ql_g rfl rfl hs34 ?_
        refine ql_r (r_move rfl) rfl ?_
        refine ql_split (d := 38) rfl (fun hs38 => ?_) (fun hs38 => ?_)
        ·have phs38 := hs38; try simp only [decide_eq_true_eq, decide_eq_false_iff_not, Bool.not_eq_true', Bool.not_eq_false', Bool.not_true, Bool.not_false] at phs38
         refine ql_g rfl rfl hs38 ?_
         refine ql_r (r_move rfl) rfl ?_
         refine ql_g rfl rfl hs38 ?_
         refine ql_ixT (id := 16) i encTile _ rfl rfl rfl rfl sl45 hpa rfl (by omega) (by omega) rfl fun x40 hx40 => ?_
         try simp only [Int.toNat_natCast, Int.toNat_zero, Nat.add_zero] at hx40
         refine ql_g rfl rfl hs38 ?_
         refine ql_r (r_ldw rfl (fun w1 hb1 hs1 hB1 => ld_own (id := 16) hs1 rfl rfl ty42 hx40)) rfl ?_
         refine ql_g rfl rfl hs38 ?_
         refine ql_r (r_move rfl) rfl ?_
         refine ql_g rfl rfl hs38 ?_
         refine ql_ixT (id := 22) j encTile _ rfl rfl rfl rfl sl45 hpb rfl (by omega) (by omega) rfl fun x43 hx43 => ?_
         try simp only [Int.toNat_natCast, Int.toNat_zero, Nat.add_zero] at hx43
         refine ql_g rfl rfl hs38 ?_
         refine ql_r (r_ldw rfl (fun w1 hb1 hs1 hB1 => ld_own (id := 22) hs1 rfl rfl ty42 hx43)) rfl ?_
         refine ql_g rfl rfl hs38 ?_
         refine ql_call rfl rfl cb73 rfl (fun w1 hb1 hs1 hB1 => ref5_comes _ _ _) ?_
         refine ql_g rfl rfl hs34 ?_
         refine ql_r (r_pickT rfl hs38 rfl) rfl ?_
         refine ql_r (r_pickF rfl hs34 rfl) rfl ?_
         refine ql_nil (to_k0 (fun _ _ h => h) (hK12 (_) _ _ ?_ (sub_cons rfl sub_nil) (sub_cons rfl (sub_cons rfl (sub_cons rfl (sub_cons rfl sub_nil)))) subH_nil (subH_same rfl (subH_same rfl (subH_same rfl subH_nil)))))
         try dsimp only
         first
         | exact mrg_B tlt_tot hx40 hx43
         | (have := hbc.1 hc30; refine mrg_A ?_ ?_ <;> omega)
         | (have := hbc.1 hc30; refine mrg_C ?_ ?_ <;> omega)
         | (have := hbc.1 hc30; dsimp only; split <;> first | (refine mrg_A ?_ ?_ <;> omega) | (refine mrg_C ?_ ?_ <;> omega))
        ·have phs38 := hs38; try simp only [decide_eq_true_eq, decide_eq_false_iff_not, Bool.not_eq_true', Bool.not_eq_false', Bool.not_true, Bool.not_false] at phs38
         refine ql_s rfl rfl hs38 rfl ?_
         refine ql_s rfl rfl hs38 rfl ?_
         refine ql_s rfl rfl hs38 rfl ?_
         refine ql_s rfl rfl hs38 rfl ?_
         refine ql_s rfl rfl hs38 rfl ?_
         refine ql_s rfl rfl hs38 rfl ?_
         refine ql_s rfl rfl hs38 rfl ?_
         refine ql_g rfl rfl hs34 ?_
         refine ql_r (r_pickF rfl hs38 rfl) rfl ?_
         refine ql_r (r_pickF rfl hs34 rfl) rfl ?_
         refine ql_nil (to_k0 (fun _ _ h => h) (hK12 (_) _ _ ?_ (sub_cons rfl sub_nil) (sub_cons rfl (sub_cons rfl (sub_cons rfl (sub_cons rfl sub_nil)))) subH_nil (subH_same rfl (subH_same rfl (subH_same rfl subH_nil)))))
         try dsimp only
         first
         | exact mrg_B tlt_tot hx40 hx43
         | (have := hbc.1 hc30; refine mrg_A ?_ ?_ <;> omega)
         | (have := hbc.1 hc30; refine mrg_C ?_ ?_ <;> omega)
         | (have := hbc.1 hc30; dsimp only; split <;> first | (refine mrg_A ?_ ?_ <;> omega) | (refine mrg_C ?_ ?_ <;> omega))
      ·rintro bd hbd
       first | refine wp_condD rfl (fun hc47 => ?_) (fun hc47 => ?_) | refine wp_condN rfl (fun hc47 => ?_) (fun hc47 => ?_) | refine wp_condNB rfl (fun hc47 => ?_) (fun hc47 => ?_) | refine wp_cond' rfl (fun hc47 => ?_) (fun hc47 => ?_)
       ·refine wp_seq' fun K13 hK13 => ?_
        refine wp_reg ?_
        subst hc47
        have hil : i < n16 := by obtain ⟨x, hx, _⟩ := hbd.1 rfl; have := (List.getElem?_eq_some_iff.1 hx).1; omega
        refine ol_r (r_move rfl) rfl ?_
        refine ol_r (r_move rfl) rfl ?_
        refine ol_ixT (id := 16) i encTile _ rfl rfl rfl rfl sl45 hpa rfl (by omega) (by omega) rfl fun x50 hx50 => ?_
        try simp only [Int.toNat_natCast, Int.toNat_zero, Nat.add_zero] at hx50
        refine ol_r (r_ldw rfl (fun w1 hb1 hs1 hB1 => ld_own (id := 16) hs1 rfl rfl ty42 hx50)) rfl ?_
        refine ol_bs1 52 rfl rfl rw45 rfl rfl rfl fun a52 => ?_
        refine ol_append1 (id := 5) (id2 := 52) rfl rfl rfl rfl rfl rw45 (by omega) rfl fun a53 c53 => ?_
        refine ol_r (r_assign rfl) rfl ?_
        refine ol_nil (to_k0 (fun _ _ h => h) (hK13 _ _ _ _ _ ?_))
        clear hK13
        refine wp_reg ?_
        refine ol_r (r_move rfl) rfl ?_
        refine ol_r (r_slN rfl rfl sl45 (by omega)) rfl ?_
        refine ol_r (r_assign rfl) rfl ?_
        refine ol_nil (to_k0 (fun _ _ h => h) (hK9 ((i + 1, j, (if c16 - i = 1 then pa else Option.map (fun x => x.add (1 * 2)) pa), pb, a53, m + 1, c53, zs ++ [x50])) _ _ ?_ ?_ (sub_cons (by first | rfl | (first | rfl | (rw [Nat.sub_add_eq, Nat.sub_add_eq]; rfl))) (sub_cons (by first | rfl | (first | rfl | (rw [Nat.sub_add_eq, Nat.sub_add_eq]; rfl))) (sub_cons (by first | rfl | (first | rfl | (rw [Nat.sub_add_eq, Nat.sub_add_eq]; rfl))) sub_nil))) (sub_cons rfl sub_nil) (by exact (subH_row rfl (by first | (dsimp only; first | rfl | (rw [Enc.enc_append]; rfl); done) | (first | rfl | (rw [Enc.enc_append]; rfl); done) | (dsimp only; done)) subH_nil)) (subH_same rfl (subH_same rfl subH_nil))))
        ·try dsimp only
         exact ⟨by omega, hj, hpa.next hh16 hc16.1, hpb, by omega, by rw [List.length_append, hzl, List.length_singleton], hm.stepL tlt_tot hbd hx50⟩
        ·try dsimp only
         omega
       ·refine wp_seq' fun K14 hK14 => ?_
        refine wp_reg ?_
        have hc47 : bd = false := by simpa using hc47
        subst hc47
        have hjl : j < n22 := by obtain ⟨x, hx, _⟩ := hbd.2 rfl; have := (List.getElem?_eq_some_iff.1 hx).1; omega
        refine ol_r (r_move rfl) rfl ?_
        refine ol_r (r_move rfl) rfl ?_
        refine ol_ixT (id := 22) j encTile _ rfl rfl rfl rfl sl45 hpb rfl (by omega) (by omega) rfl fun x58 hx58 => ?_
        try simp only [Int.toNat_natCast, Int.toNat_zero, Nat.add_zero] at hx58
        refine ol_r (r_ldw rfl (fun w1 hb1 hs1 hB1 => ld_own (id := 22) hs1 rfl rfl ty42 hx58)) rfl ?_
        refine ol_bs1 60 rfl rfl rw45 rfl rfl rfl fun a60 => ?_
        refine ol_append1 (id := 5) (id2 := 60) rfl rfl rfl rfl rfl rw45 (by omega) rfl fun a61 c61 => ?_
        refine ol_r (r_assign rfl) rfl ?_
        refine ol_nil (to_k0 (fun _ _ h => h) (hK14 _ _ _ _ _ ?_))
        clear hK14
        refine wp_reg ?_
        refine ol_r (r_move rfl) rfl ?_
        refine ol_r (r_slN rfl rfl sl45 (by omega)) rfl ?_
        refine ol_r (r_assign rfl) rfl ?_
        refine ol_nil (to_k0 (fun _ _ h => h) (hK9 ((i, j + 1, pa, (if c22 - j = 1 then pb else Option.map (fun x => x.add (1 * 2)) pb), a61, m + 1, c61, zs ++ [x58])) _ _ ?_ ?_ (sub_cons (by first | rfl | (first | rfl | (rw [Nat.sub_add_eq, Nat.sub_add_eq]; rfl))) (sub_cons (by first | rfl | (first | rfl | (rw [Nat.sub_add_eq, Nat.sub_add_eq]; rfl))) (sub_cons (by first | rfl | (first | rfl | (rw [Nat.sub_add_eq, Nat.sub_add_eq]; rfl))) sub_nil))) (sub_cons rfl sub_nil) (by exact (subH_row rfl (by first | (dsimp only; first | rfl | (rw [Enc.enc_append]; rfl); done) | (first | rfl | (rw [Enc.enc_append]; rfl); done) | (dsimp only; done)) subH_nil)) (subH_same rfl (subH_same rfl subH_nil))))
        ·try dsimp only
         exact ⟨hi, by omega, hpa, hpb.next hh22 hc22.1, by omega, by rw [List.length_append, hzl, List.length_singleton], hm.stepR tlt_tot hbd hx58⟩
        ·try dsimp only
         omega
     ·refine wp_exit' (to_k0 (fun _ _ h => h) (hK8 _ _ _ _ _ ?_))
      clear hK8
      refine wp_seq' fun K15 hK15 => ?_
      refine wp_reg ?_
      refine ol_r (r_move rfl) rfl ?_
      refine ol_r (r_assign rfl) rfl ?_
      refine ol_nil (to_k0 (fun _ _ h => h) (hK15 _ _ _ _ _ ?_))
      clear hK15
      refine hQ.ret (rvs1 (rv_t rfl)) (fun _ _ h => h) fun w hb hs hB hkd => ?_
      have hno : ¬(i < n16 ∨ j < n22) := fun h => by rw [hc30] at hbc; exact Bool.noConfusion (hbc.2 h)
      have he := merge_end tlt_tot hcat hL1 hL2 hm (by omega) (by omega)
      rw [← he]
      exact ⟨_, _, _, rfl, hb, hs.ok 5 _ rfl⟩
theorem ref5_InOrder : ∀ (N : Nat) (a : Option Addr) (n c : Nat) (xs : List TileR) (w : World), n ≤ N → Rd encTile w.heap.size w a n c xs → n ≤ 1000000 →
    Calls Try.prog 63 #[.slice a n c] w fun e w' => ∃ b m k, e = .returned (.slice b m k) ∧ Fresh encTile 42 w w' b m k (sortL tlt xs)
  | 0, a, n, c, xs, w, hN, hx, hn => ref5_InOrder_small a n c xs w (by omega) hx
  | N + 1, a, n, c, xs, w, hN, hx, hn => by
    by_cases h2 : n < 2
    · exact ref5_InOrder_small a n c xs w h2 hx
    · exact ref5_InOrder_step N (fun a n c xs w h1 h2 h3 => ref5_InOrder N a n c xs w h1 h2 h3) a n c xs w hN h2 hx hn
end Go.Proofs.Ytjflbnbofedlkaa

/-
  Maps of tiles; tiles in order by the program; lists of tiles that are checked.
-/

namespace Go.Proofs.Ytjflbnbofedlkaa
open Go Go.RowKit Hx
set_option linter.unusedVariables false
set_option linter.unusedSimpArgs false
set_option maxRecDepth 8000
theorem intKey_chk (e : Bool) (x : Int) (w : World) (n : Nat) : (Instr.checkKey e (n + 1) 3 (.int .i64 x)).run Try.prog w = .ok () w := by
  rw [Instr.checkKey]
  simp only [Sem.run_bind, run_underlying (Try.underlying3), Result.andThen_ok]
  rfl
theorem tile_chk (e : Bool) (a : TileR) (w : World) : (Instr.checkKey e 10000 42 (encTile.val a)).run Try.prog w = .ok () w := by
  show (Instr.checkKey e (9999 + 1) 42 (.agg #[.int .i64 a.1, .int .i64 a.2])).run Try.prog w = .ok () w
  rw [Instr.checkKey]
  have p0 := run_part_plain (P := Try.prog) w (e := 3) (by kernel_rfl) (xs := #[.int .i64 a.1, .int .i64 a.2]) (off := 0) rfl
  have p1 := run_part_plain (P := Try.prog) w (e := 3) (by kernel_rfl) (xs := #[.int .i64 a.1, .int .i64 a.2]) (off := 1) rfl
  simp only [Sem.run_bind, run_underlying (Try.underlying42), Result.andThen_ok]
  simp [Sem.run_bind, p0, p1, Result.andThen_ok, intKey_chk e _ w 9998]
theorem tile_bits (a : TileR) : Instr.sameBits 10000 (encTile.val a) (encTile.val a) = true := by
  show Instr.sameBits (9999 + 1) (.agg #[.int .i64 a.1, .int .i64 a.2]) (.agg #[.int .i64 a.1, .int .i64 a.2]) = true
  simp [Instr.sameBits]
theorem tile_eq (a b : TileR) (w : World) : (Op.equal 42 (encTile.val a) (encTile.val b)).run Try.prog w = .ok (decide (a = b)) w := by
  have h := run_eqs (P := Try.prog) (t := 42) (us := [.int .i64 a.1, .int .i64 a.2]) (vs := [.int .i64 b.1, .int .i64 b.2]) (by kernel_rfl) (by kernel_rfl) w
  have h2 : eqs [Value.int .i64 a.1, .int .i64 a.2] [.int .i64 b.1, .int .i64 b.2] = decide (a = b) := by
    rw [pt_eqs]
    rcases a with ⟨a1, a2⟩; rcases b with ⟨b1, b2⟩
    by_cases h1 : a1 = b1 <;> by_cases h2 : a2 = b2 <;> simp [h1, h2]
  rw [h2] at h
  exact h
theorem tileK : KeyT Try.prog 42 encTile.val := KeyT.agg Try.underlying42 (fun _ _ => rfl) tile_chk tile_bits tile_eq
theorem mk54 : MapK Try.prog 54 encTile.val Value.bool false := ⟨_, _, Try.underlying54, tileK, fun _ => Try.zeroValue4 _⟩
theorem mk100 : MapK Try.prog 100 encTile.val Value.bool false := ⟨_, _, Try.underlying100, tileK, fun _ => Try.zeroValue4 _⟩
theorem tcf_tot (x y : TileR) (h1 : ltOf tcf x y = false) (h2 : ltOf tcf y x = false) : x = y := by
  rw [tcf_lt] at h1 h2
  exact tlt_tot.total x y h1 h2
theorem sortBy_tcf (xs : List TileR) : sortBy tcf xs = sortL tlt xs := by
  unfold sortBy sortL
  congr 1
  funext x y
  rw [tcf_lt]
def layT0_ren : Go.Shelf.Ren := ⟨fun | 0 => 0 | 1 => 1 | 2 => 2 | 6 => 68 | 11 => 97 | 14 => 94 | 15 => 95 | 18 => 118 | 20 => 108 | 21 => 109 | 22 => 110 | 23 => 111 | 24 => 112 | 25 => 113 | 26 => 114 | 27 => 115 | 28 => 116 | 29 => 117 | 30 => 145 | 46 => 136 | 47 => 137 | 48 => 138 | 49 => 139 | 50 => 140 | 57 => 154 | 60 => 158 | 61 => 159 | 62 => 160 | 63 => 161 | 64 => 162 | 65 => 163 | 66 => 164 | 67 => 165 | 68 => 166 | 69 => 167 | 70 => 168 | 71 => 169 | 72 => 170 | 73 => 171 | 74 => 172 | 75 => 174 | n => n, fun | 0 => 0 | 1 => 1 | 2 => 2 | 3 => 3 | 4 => 4 | 5 => 5 | 6 => 6 | 7 => 7 | 8 => 8 | 9 => 9 | 10 => 10 | 11 => 11 | 12 => 12 | 13 => 13 | 14 => 14 | 15 => 15 | 16 => 16 | 17 => 17 | 18 => 18 | 19 => 19 | 20 => 20 | 21 => 21 | 22 => 45 | 23 => 116 | 24 => 42 | 25 => 117 | 27 => 150 | 28 => 155 | 29 => 91 | 37 => 140 | 38 => 141 | 39 => 142 | 40 => 98 | 41 => 198 | 42 => 170 | 44 => 159 | 45 => 160 | 46 => 161 | 47 => 162 | 48 => 163 | 49 => 164 | 50 => 119 | 51 => 165 | 52 => 166 | 53 => 167 | 54 => 168 | 55 => 169 | 56 => 197 | 66 => 189 | 67 => 190 | 68 => 191 | 69 => 192 | 70 => 193 | 71 => 194 | 76 => 202 | 77 => 203 | 78 => 204 | 81 => 207 | 82 => 208 | 83 => 209 | 84 => 210 | 85 => 211 | 86 => 212 | 87 => 66 | 88 => 213 | 89 => 214 | 90 => 215 | 91 => 216 | 92 => 217 | 93 => 218 | 94 => 219 | 95 => 220 | 96 => 223 | n => n, fun n => n⟩
theorem layT0 : Go.Proofs.SlLaysF0.n6 Try.prog layT0_ren := { mixed := by kernel_rfl, f6 := ⟨"slices.SortFunc[[]harrier/api.Tile,harrier/api.Tile]", by decide, Try.func68.trans (congrArg some (by kernel_rfl))⟩, f14 := ⟨"slices.pdqsortCmpFunc[harrier/api.Tile]", by decide, Try.func94.trans (congrArg some (by kernel_rfl))⟩, f15 := Try.func95.trans (congrArg some (by kernel_rfl)), f20 := ⟨"slices.insertionSortCmpFunc[harrier/api.Tile]", by decide, Try.func108.trans (congrArg some (by kernel_rfl))⟩, f21 := ⟨"slices.heapSortCmpFunc[harrier/api.Tile]", by decide, Try.func109.trans (congrArg some (by kernel_rfl))⟩, f22 := ⟨"slices.breakPatternsCmpFunc[harrier/api.Tile]", by decide, Try.func110.trans (congrArg some (by kernel_rfl))⟩, f23 := ⟨"slices.choosePivotCmpFunc[harrier/api.Tile]", by decide, Try.func111.trans (congrArg some (by kernel_rfl))⟩, f24 := ⟨"slices.reverseRangeCmpFunc[harrier/api.Tile]", by decide, Try.func112.trans (congrArg some (by kernel_rfl))⟩, f25 := ⟨"slices.partialInsertionSortCmpFunc[harrier/api.Tile]", by decide, Try.func113.trans (congrArg some (by kernel_rfl))⟩, f26 := ⟨"slices.partitionEqualCmpFunc[harrier/api.Tile]", by decide, Try.func114.trans (congrArg some (by kernel_rfl))⟩, f27 := ⟨"slices.partitionCmpFunc[harrier/api.Tile]", by decide, Try.func115.trans (congrArg some (by kernel_rfl))⟩, f28 := Try.func116.trans (congrArg some (by kernel_rfl)), f29 := Try.func117.trans (congrArg some (by kernel_rfl)), f46 := ⟨"slices.siftDownCmpFunc[harrier/api.Tile]", by decide, Try.func136.trans (congrArg some (by kernel_rfl))⟩, f47 := Try.func137.trans (congrArg some (by kernel_rfl)), f48 := Try.func138.trans (congrArg some (by kernel_rfl)), f49 := ⟨"slices.medianAdjacentCmpFunc[harrier/api.Tile]", by decide, Try.func139.trans (congrArg some (by kernel_rfl))⟩, f50 := ⟨"slices.medianCmpFunc[harrier/api.Tile]", by decide, Try.func140.trans (congrArg some (by kernel_rfl))⟩, f57 := ⟨"slices.order2CmpFunc[harrier/api.Tile]", by decide, Try.func154.trans (congrArg some (by kernel_rfl))⟩, t0 := Try.underlying0, a0 := Try.isAgg0, z0 := Try.sizeOf0, v0 := Try.zeroValue0, t3 := Try.underlying3, a3 := Try.isAgg3, z3 := Try.sizeOf3, v3 := Try.zeroValue3, t4 := Try.underlying4, a4 := Try.isAgg4, z4 := Try.sizeOf4, v4 := Try.zeroValue4, t5 := Try.underlying5, a5 := Try.isAgg5, z5 := Try.sizeOf5, v5 := Try.zeroValue5, t9 := Try.underlying9, a9 := Try.isAgg9, z9 := Try.sizeOf9, v9 := Try.zeroValue9, t22 := Try.underlying45, a22 := Try.isAgg45, z22 := Try.sizeOf45, v22 := Try.zeroValue45, t25 := Try.underlying117, a25 := Try.isAgg117, z25 := Try.sizeOf117, v25 := Try.zeroValue117, t39 := Try.underlying142, a39 := Try.isAgg142, z39 := Try.sizeOf142, v39 := Try.zeroValue142, t45 := Try.underlying160, a45 := Try.isAgg160, z45 := Try.sizeOf160, v45 := Try.zeroValue160, t46 := Try.underlying161, a46 := Try.isAgg161, z46 := Try.sizeOf161, v46 := Try.zeroValue161, t50 := Try.underlying119, a50 := Try.isAgg119, z50 := Try.sizeOf119, v50 := Try.zeroValue119, t53 := Try.underlying167, a53 := Try.isAgg167, z53 := Try.sizeOf167, v53 := Try.zeroValue167, t55 := Try.underlying169, a55 := Try.isAgg169, z55 := Try.sizeOf169, v55 := Try.zeroValue169, t66 := Try.underlying189, a66 := Try.isAgg189, z66 := Try.sizeOf189, v66 := Try.zeroValue189, t70 := Try.underlying193, a70 := Try.isAgg193, z70 := Try.sizeOf193, v70 := Try.zeroValue193, t76 := Try.underlying202, a76 := Try.isAgg202, z76 := Try.sizeOf202, v76 := Try.zeroValue202, t77 := Try.underlying203, a77 := Try.isAgg203, z77 := Try.sizeOf203, v77 := Try.zeroValue203 }

theorem sort_tiles (B id : Nat) (a : Option Addr) (n c : Nat) (xs : List TileR) (T : TypeId) (H : HL) (w : World) (hB : B ≤ w.heap.size) (hs : Sat B w H) (hr : Hx.look H id = some (.row a n c (encTile.enc xs) T 2)) (hsz : n < 4611686018427387904) :
    Calls Try.prog 68 #[.slice a n c, .func (.func 69) #[] #[]] w fun e w' => e = .returned (.tuple #[]) ∧ Below B w w' ∧ Sat B w' ((id, .row a n c (encTile.enc (sortL tlt xs)) T 2) :: H) ∧ B ≤ w'.heap.size ∧ Kd (fun _ => False) w w' := by
  have hlen : xs.length = n := (hs.rd (E := encTile) hr rfl).len
  by_cases hn : n = 0
  · subst hn
    obtain rfl : xs = [] := List.eq_nil_of_length_eq_zero hlen
    have h := AnyF.slices_SortFunc_none (P := Try.prog) (ρ := layT0_ren) layT0 a c (.func (.func 69) #[] #[]) w
    change Calls Try.prog 68 _ _ _ at h
    refine h.mono ?_
    rintro e w' ⟨rfl, rfl⟩
    have hnil : sortL tlt ([] : List TileR) = [] := List.eq_nil_of_length_eq_zero (sortL_len [])
    rw [hnil]
    exact ⟨rfl, Below.refl _ _, hs.again hr, hB, Kd.refl _ _⟩
  have h := sortK_rows encTile layT0 Try.isAgg42 Try.sizeOf42 tcf tcf_swo tcf_tot 69 #[] (enters_of Try.func69 (by kernel_rfl) rfl) (fun w x y => match_tileOrder x y w) B id a n c xs T H w hB hs hr (by omega) hsz
  rw [sortBy_tcf] at h
  exact h
/-! #### lists of tiles that are right -/
theorem tcf_lo {a b : TileR} (h : ¬(0 : Int) ≤ tcf a b) : (!tlt a b) = false := by
  rw [← tcf_lt]; unfold ltOf; simp; omega
theorem tcf_hi {a b : TileR} (h : (0 : Int) ≤ tcf a b) : (!tlt a b) = true := by
  rw [← tcf_lt]; unfold ltOf; simp; omega
theorem match_CheckTiles (a : Option Addr) (n c : Nat) (xs : List TileR) (w : World) (hS : Rd encTile w.heap.size w a n c xs) :
    Calls Try.prog 40 #[.slice a n c] w fun e w' => e = .returned (.int .i64 (chkT xs)) ∧ Below w.heap.size w w' := by
  have hsn := hS.len
  have hsf := hS.fit
  refine enterQ (N := 35) (C := fun _ => True) (H := []) (B := w.heap.size) (args := [_]) Try.func40 rfl rfl rfl (Nat.le_refl _) (Sat.nil _ _) fun Q hQ => ?_
  refine wp_seq' fun K1 hK1 => ?_
  refine wp_reg ?_
  refine ol_r (r_assign rfl) rfl ?_
  refine ol_nil (to_k0 (fun _ _ h => h) (hK1 _ _ _ _ _ ?_))
  clear hK1
  refine wp_seq' fun K2 hK2 => ?_
  refine wp_seq' fun K3 hK3 => ?_
  refine wp_reg ?_
  refine ol_r (r_move rfl) rfl ?_
  refine ol_r (r_len rfl sl45) rfl ?_
  refine ol_r (r_gtr rfl rfl) rfl ?_
  refine ol_nil (to_k0 (fun _ _ h => h) (hK3 _ _ _ _ _ ?_))
  clear hK3
  first | refine wp_condD rfl (fun hc7 => ?_) (fun hc7 => ?_) | refine wp_condN rfl (fun hc7 => ?_) (fun hc7 => ?_) | refine wp_condNB rfl (fun hc7 => ?_) (fun hc7 => ?_) | refine wp_cond' rfl (fun hc7 => ?_) (fun hc7 => ?_)
  ·refine wp_seq' fun K4 hK4 => ?_
   refine wp_reg ?_
   refine ol_r (r_assign rfl) rfl ?_
   refine ol_nil (to_k0 (fun _ _ h => h) (hK4 _ _ _ _ _ ?_))
   clear hK4
   refine hQ.ret (rvs1 (rv_t rfl)) (fun _ _ h => h) fun w hb hs hB hkd => ?_
   exact ⟨by rw [chkT_3 (by omega)], hb⟩
  ·refine wp_skip' (to_k0 (fun _ _ h => h) (hK2 _ _ _ _ _ ?_))
   clear hK2
   refine wp_seq' fun K5 hK5 => ?_
   refine wp_seq' fun K6 hK6 => ?_
   refine wp_reg ?_
   refine ol_r (r_move rfl) rfl ?_
   refine ol_r (r_len rfl sl45) rfl ?_
   refine ol_r (r_move rfl) rfl ?_
   refine ol_nil (to_k0 (fun _ _ h => h) (hK6 _ _ _ _ _ ?_))
   clear hK6
   refine wp_block' ?_
   apply wp_loopM (σ := Nat) (fun s => s ≤ n ∧ chkE fTi none xs = chkE fTi (ahead xs s) (xs.drop s)) (fun s => [(10, .int .i64 s)]) [(0, _), (8, _), (9, _)] (fun s => []) [] (fun s => n - s) (0)
   ·try dsimp only
    exact ⟨Nat.zero_le _, chkE_start _ _⟩
   ·exact (sub_cons rfl sub_nil)
   ·exact (sub_cons rfl (sub_cons rfl (sub_cons rfl sub_nil)))
   ·exact subH_nil
   ·exact subH_nil
   ·rintro k ⟨hk, hP⟩
    intro K7 hK7
    refine wp_seq' fun K8 hK8 => ?_
    refine wp_reg ?_
    refine ol_r (r_lss rfl rfl) rfl ?_
    refine ol_nil (to_k0 (fun _ _ h => h) (hK8 _ _ _ _ _ ?_))
    clear hK8
    refine wp_seq' fun K9 hK9 => ?_
    first | refine wp_condD rfl (fun hc11 => ?_) (fun hc11 => ?_) | refine wp_condN rfl (fun hc11 => ?_) (fun hc11 => ?_) | refine wp_condNB rfl (fun hc11 => ?_) (fun hc11 => ?_) | refine wp_cond' rfl (fun hc11 => ?_) (fun hc11 => ?_)
    ·refine wp_skip' (to_k0 (fun _ _ h => h) (hK9 _ _ _ _ _ ?_))
     clear hK9
     refine wp_seq' fun K10 hK10 => ?_
     refine wp_block' ?_
     refine wp_seq' fun K11 hK11 => ?_
     refine wp_reg ?_
     refine ol_r (r_move rfl) rfl ?_
     refine ol_ixr hS rfl rfl sl45 (by omega) rfl fun x13 hx13 => ?_
     try simp only [Int.toNat_natCast] at hx13
     refine ol_r (r_ldw rfl (fun w1 hb1 hs1 hB1 => Rd.loads hS ty42 hx13 hb1)) rfl ?_
     refine ol_alloc 4 z42 rfl fun b4 => ?_
     refine ol_r (r_assign rfl) rfl ?_
     refine ol_store (id := 4) rfl rfl rfl rfl sz42 rfl rfl (by first | decide | exact Nat.zero_lt_succ _ | simp) ?_
     refine ol_nil (to_k0 (fun _ _ h => h) (hK11 _ _ _ _ _ ?_))
     clear hK11
     refine wp_seq' fun K12 hK12 => ?_
     refine wp_seq' fun K13 hK13 => ?_
     refine wp_reg ?_
     refine ol_r (r_fa (o' := 0) rfl fl42_0 rfl) rfl ?_
     refine ol_r (r_ld (id := 4) rfl rfl rfl sc3) rfl ?_
     refine ol_r (r_fa (o' := 1) rfl fl42_1 rfl) rfl ?_
     refine ol_r (r_ld (id := 4) rfl rfl rfl sc3) rfl ?_
     refine ol_r (r_build rfl (fun _ => bd41_0_1 _ _ _)) rfl ?_
     refine ol_call rfl rfl cb50 rfl (fun w1 hb1 hs1 hB1 => Calls.mono (match_isPlace _ _ _) ?_)
     rintro e w2 ⟨rfl, hb2⟩
     refine After.below rfl hb1 hs1 hB1 hb2 ?_
     clear hb2 hB1 hs1 hb1 w2 w1
     refine ol_r (r_not rfl) rfl ?_
     refine ol_nil (to_k0 (fun _ _ h => h) (hK13 _ _ _ _ _ ?_))
     clear hK13
     first | refine wp_condD rfl (fun hc21 => ?_) (fun hc21 => ?_) | refine wp_condN rfl (fun hc21 => ?_) (fun hc21 => ?_) | refine wp_condNB rfl (fun hc21 => ?_) (fun hc21 => ?_) | refine wp_cond' rfl (fun hc21 => ?_) (fun hc21 => ?_)
     ·refine wp_seq' fun K14 hK14 => ?_
      refine wp_reg ?_
      refine ol_r (r_assign rfl) rfl ?_
      refine ol_nil (to_k0 (fun _ _ h => h) (hK14 _ _ _ _ _ ?_))
      clear hK14
      refine hQ.ret (rvs1 (rv_t rfl)) (fun _ _ h => h) fun w hb hs hB hkd => ?_
      exact ⟨by rw [chkT_g (by omega), chkE_bad hP hx13 (fTi_9 (by simpa using hc21)) (by simp)], hb⟩
     ·refine wp_skip' (to_k0 (fun _ _ h => h) (hK12 _ _ _ _ _ ?_))
      clear hK12
      refine wp_seq' fun K15 hK15 => ?_
      refine wp_regq (by kernel_rfl) (by kernel_rfl) ?_
      refine ql_r (r_move rfl) rfl ?_
      refine ql_r (r_gtr rfl rfl) rfl ?_
      refine ql_r (r_move rfl) rfl ?_
      refine ql_split (d := 24) rfl (fun hs24 => ?_) (fun hs24 => ?_)
      ·have phs24 := hs24; try simp only [decide_eq_true_eq, decide_eq_false_iff_not, Bool.not_eq_true', Bool.not_eq_false', Bool.not_true, Bool.not_false] at phs24
       refine ql_g rfl rfl hs24 ?_
       refine ql_r (r_move rfl) rfl ?_
       refine ql_g rfl rfl hs24 ?_
       refine ql_r (r_move rfl) rfl ?_
       refine ql_g rfl rfl hs24 ?_
       refine ql_r (r_sub rfl rfl (by omega)) rfl ?_
       refine ql_g rfl rfl hs24 ?_
       refine ql_ixr hS rfl rfl sl45 (by omega) rfl fun x28 hx28 => ?_
       try simp only [Int.toNat_natCast] at hx28
       refine ql_g rfl rfl hs24 ?_
       refine ql_r (r_ldw rfl (fun w1 hb1 hs1 hB1 => Rd.loads hS ty42 hx28 hb1)) rfl ?_
       refine ql_g rfl rfl hs24 ?_
       refine ql_r (r_lda (id := 4) (n := 2) rfl rfl rfl ag42) rfl ?_
       refine ql_g rfl rfl hs24 ?_
       refine ql_call rfl rfl cb69 rfl (fun w1 hb1 hs1 hB1 => match_tileOrder _ _ _) ?_
       refine ql_g rfl rfl hs24 ?_
       refine ql_r (r_geq rfl rfl) rfl ?_
       refine ql_r (r_pickT rfl hs24 rfl) rfl ?_
       refine ql_nil (to_k0 (fun _ _ h => h) (hK15 _ _ _ _ _ ?_))
       clear hK15
       first | refine wp_condD rfl (fun hc33 => ?_) (fun hc33 => ?_) | refine wp_condN rfl (fun hc33 => ?_) (fun hc33 => ?_) | refine wp_condNB rfl (fun hc33 => ?_) (fun hc33 => ?_) | refine wp_cond' rfl (fun hc33 => ?_) (fun hc33 => ?_)
       ·refine wp_seq' fun K16 hK16 => ?_
        refine wp_reg ?_
        refine ol_r (r_assign rfl) rfl ?_
        refine ol_nil (to_k0 (fun _ _ h => h) (hK16 _ _ _ _ _ ?_))
        clear hK16
        refine hQ.ret (rvs1 (rv_t rfl)) (fun _ _ h => h) fun w hb hs hB hkd => ?_
        exact ⟨by rw [chkT_g (by omega), chkE_bad hP hx13 (fTi_10 (by simpa using hc21) (by rw [ordTi_1 (by omega) hx28]; exact tcf_hi hc33)) (by simp)], hb⟩
       ·refine wp_skip' (to_k0 (fun _ _ h => h) (hK10 _ _ _ _ _ ?_))
        clear hK10
        refine wp_reg ?_
        have ho : ordTi (ahead xs k) x13 = false := by
          first
          | (rw [ordTi_0 (by omega)]; done)
          | (rw [ordTi_1 (by omega) hx28]; exact tcf_lo hc33)
        refine ol_r (r_add rfl rfl (by omega)) rfl ?_
        refine ol_r (r_move rfl) rfl ?_
        refine ol_nil (to_k0 (fun _ _ h => h) (hK7 (k + 1) _ _ ?_ ?_ (sub_cons rfl sub_nil) (sub_cons rfl (sub_cons rfl (sub_cons rfl sub_nil))) (by exact subH_nil) subH_nil))
        ·try dsimp only
         exact ⟨by omega, chkE_next hP hx13 (fTi_0 (by simpa using hc21) ho)⟩
        ·try dsimp only
         omega
      ·have phs24 := hs24; try simp only [decide_eq_true_eq, decide_eq_false_iff_not, Bool.not_eq_true', Bool.not_eq_false', Bool.not_true, Bool.not_false] at phs24
       refine ql_s rfl rfl hs24 rfl ?_
       refine ql_s rfl rfl hs24 rfl ?_
       refine ql_s rfl rfl hs24 rfl ?_
       refine ql_s rfl rfl hs24 rfl ?_
       refine ql_s rfl rfl hs24 rfl ?_
       refine ql_s rfl rfl hs24 rfl ?_
       refine ql_s rfl rfl hs24 rfl ?_
       refine ql_s rfl rfl hs24 rfl ?_
       refine ql_r (r_pickF rfl hs24 rfl) rfl ?_
       refine ql_nil (to_k0 (fun _ _ h => h) (hK15 _ _ _ _ _ ?_))
       clear hK15
       refine wp_condF rfl ?_
       refine wp_skip' (to_k0 (fun _ _ h => h) (hK10 _ _ _ _ _ ?_))
       clear hK10
       refine wp_reg ?_
       have ho : ordTi (ahead xs k) x13 = false := by
         first
         | (rw [ordTi_0 (by omega)]; done)
         | (rw [ordTi_1 (by omega) hx28]; exact tcf_lo hc33)
       refine ol_r (r_add rfl rfl (by omega)) rfl ?_
       refine ol_r (r_move rfl) rfl ?_
       refine ol_nil (to_k0 (fun _ _ h => h) (hK7 (k + 1) _ _ ?_ ?_ (sub_cons rfl sub_nil) (sub_cons rfl (sub_cons rfl (sub_cons rfl sub_nil))) (by exact subH_nil) subH_nil))
       ·try dsimp only
        exact ⟨by omega, chkE_next hP hx13 (fTi_0 (by simpa using hc21) ho)⟩
       ·try dsimp only
        omega
    ·refine wp_exit' (to_k0 (fun _ _ h => h) (hK5 _ _ _ _ _ ?_))
     clear hK5
     refine wp_seq' fun K17 hK17 => ?_
     refine wp_reg ?_
     refine ol_r (r_assign rfl) rfl ?_
     refine ol_nil (to_k0 (fun _ _ h => h) (hK17 _ _ _ _ _ ?_))
     clear hK17
     refine hQ.ret (rvs1 (rv_t rfl)) (fun _ _ h => h) fun w hb hs hB hkd => ?_
     exact ⟨by rw [chkT_g (by omega), chkE_end hP (by omega)], hb⟩
theorem ref5_CheckTiles (a : Option Addr) (n c : Nat) (xs : List TileR) (w : World) (hS : Rd encTile w.heap.size w a n c xs) :
    Calls Try.prog 41 #[.slice a n c] w fun e w' => e = .returned (.int .i64 (chkT xs)) ∧ Below w.heap.size w w' := by
  have hsn := hS.len
  have hsf := hS.fit
  refine enterQ (N := 36) (C := fun _ => True) (H := []) (B := w.heap.size) (args := [_]) Try.func41 rfl rfl rfl (Nat.le_refl _) (Sat.nil _ _) fun Q hQ => ?_
  refine wp_seq' fun K1 hK1 => ?_
  refine wp_reg ?_
  refine ol_r (r_assign rfl) rfl ?_
  refine ol_nil (to_k0 (fun _ _ h => h) (hK1 _ _ _ _ _ ?_))
  clear hK1
  refine wp_seq' fun K2 hK2 => ?_
  refine wp_seq' fun K3 hK3 => ?_
  refine wp_reg ?_
  refine ol_r (r_move rfl) rfl ?_
  refine ol_r (r_len rfl sl45) rfl ?_
  refine ol_r (r_gtr rfl rfl) rfl ?_
  refine ol_nil (to_k0 (fun _ _ h => h) (hK3 _ _ _ _ _ ?_))
  clear hK3
  first | refine wp_condD rfl (fun hc7 => ?_) (fun hc7 => ?_) | refine wp_condN rfl (fun hc7 => ?_) (fun hc7 => ?_) | refine wp_condNB rfl (fun hc7 => ?_) (fun hc7 => ?_) | refine wp_cond' rfl (fun hc7 => ?_) (fun hc7 => ?_)
  ·refine wp_seq' fun K4 hK4 => ?_
   refine wp_reg ?_
   refine ol_r (r_assign rfl) rfl ?_
   refine ol_nil (to_k0 (fun _ _ h => h) (hK4 _ _ _ _ _ ?_))
   clear hK4
   refine hQ.ret (rvs1 (rv_t rfl)) (fun _ _ h => h) fun w hb hs hB hkd => ?_
   exact ⟨by rw [chkT_3 (by omega)], hb⟩
  ·refine wp_skip' (to_k0 (fun _ _ h => h) (hK2 _ _ _ _ _ ?_))
   clear hK2
   refine wp_seq' fun K5 hK5 => ?_
   refine wp_seq' fun K6 hK6 => ?_
   refine wp_reg ?_
   refine ol_r (r_move rfl) rfl ?_
   refine ol_r (r_len rfl sl45) rfl ?_
   refine ol_r (r_move rfl) rfl ?_
   refine ol_nil (to_k0 (fun _ _ h => h) (hK6 _ _ _ _ _ ?_))
   clear hK6
   refine wp_block' ?_
   apply wp_loopM (σ := Nat) (fun s => s ≤ n ∧ chkE fTi none xs = chkE fTi (ahead xs s) (xs.drop s)) (fun s => [(10, .int .i64 s)]) [(0, _), (8, _), (9, _)] (fun s => []) [] (fun s => n - s) (0)
   ·try dsimp only
    exact ⟨Nat.zero_le _, chkE_start _ _⟩
   ·exact (sub_cons rfl sub_nil)
   ·exact (sub_cons rfl (sub_cons rfl (sub_cons rfl sub_nil)))
   ·exact subH_nil
   ·exact subH_nil
   ·rintro k ⟨hk, hP⟩
    intro K7 hK7
    refine wp_seq' fun K8 hK8 => ?_
    refine wp_reg ?_
    refine ol_r (r_lss rfl rfl) rfl ?_
    refine ol_nil (to_k0 (fun _ _ h => h) (hK8 _ _ _ _ _ ?_))
    clear hK8
    refine wp_seq' fun K9 hK9 => ?_
    first | refine wp_condD rfl (fun hc11 => ?_) (fun hc11 => ?_) | refine wp_condN rfl (fun hc11 => ?_) (fun hc11 => ?_) | refine wp_condNB rfl (fun hc11 => ?_) (fun hc11 => ?_) | refine wp_cond' rfl (fun hc11 => ?_) (fun hc11 => ?_)
    ·refine wp_skip' (to_k0 (fun _ _ h => h) (hK9 _ _ _ _ _ ?_))
     clear hK9
     refine wp_seq' fun K10 hK10 => ?_
     refine wp_block' ?_
     refine wp_seq' fun K11 hK11 => ?_
     refine wp_reg ?_
     refine ol_r (r_move rfl) rfl ?_
     refine ol_ixr hS rfl rfl sl45 (by omega) rfl fun x13 hx13 => ?_
     try simp only [Int.toNat_natCast] at hx13
     refine ol_r (r_ldw rfl (fun w1 hb1 hs1 hB1 => Rd.loads hS ty42 hx13 hb1)) rfl ?_
     refine ol_alloc 4 z42 rfl fun b4 => ?_
     refine ol_r (r_assign rfl) rfl ?_
     refine ol_store (id := 4) rfl rfl rfl rfl sz42 rfl rfl (by first | decide | exact Nat.zero_lt_succ _ | simp) ?_
     refine ol_nil (to_k0 (fun _ _ h => h) (hK11 _ _ _ _ _ ?_))
     clear hK11
     refine wp_seq' fun K12 hK12 => ?_
     refine wp_seq' fun K13 hK13 => ?_
     refine wp_reg ?_
     refine ol_r (r_fa (o' := 0) rfl fl42_0 rfl) rfl ?_
     refine ol_r (r_ld (id := 4) rfl rfl rfl sc3) rfl ?_
     refine ol_call rfl rfl cb47 rfl (fun w1 hb1 hs1 hB1 => Calls.mono (ref5_outside _ _ _ _) ?_)
     rintro e w2 ⟨rfl, hb2⟩
     refine After.below rfl hb1 hs1 hB1 hb2 ?_
     clear hb2 hB1 hs1 hb1 w2 w1
     refine ol_r (r_move rfl) rfl ?_
     refine ol_split (d := 18) rfl (fun hs18 => ?_) (fun hs18 => ?_)
     ·have phs18 := hs18; try simp only [decide_eq_true_eq, decide_eq_false_iff_not, Bool.not_eq_true', Bool.not_eq_false', Bool.not_true, Bool.not_false] at phs18
      refine ol_s rfl rfl hs18 rfl ?_
      refine ol_s rfl rfl hs18 rfl ?_
      refine ol_s rfl rfl hs18 rfl ?_
      refine ol_r (r_pickT rfl hs18 rfl) rfl ?_
      refine ol_nil (to_k0 (fun _ _ h => h) (hK13 _ _ _ _ _ ?_))
      clear hK13
      refine wp_condT rfl ?_
      refine wp_seq' fun K14 hK14 => ?_
      refine wp_reg ?_
      refine ol_r (r_assign rfl) rfl ?_
      refine ol_nil (to_k0 (fun _ _ h => h) (hK14 _ _ _ _ _ ?_))
      clear hK14
      refine hQ.ret (rvs1 (rv_t rfl)) (fun _ _ h => h) fun w hb hs hB hkd => ?_
      exact ⟨by rw [chkT_g (by omega), chkE_bad hP hx13 (fTi_9 (by unfold ptB; rw [phs18]; rfl)) (by simp)], hb⟩
     ·have phs18 := hs18; try simp only [decide_eq_true_eq, decide_eq_false_iff_not, Bool.not_eq_true', Bool.not_eq_false', Bool.not_true, Bool.not_false] at phs18
      refine ol_g rfl rfl hs18 ?_
      refine ol_r (r_fa (o' := 1) rfl fl42_1 rfl) rfl ?_
      refine ol_g rfl rfl hs18 ?_
      refine ol_r (r_ld (id := 4) rfl rfl rfl sc3) rfl ?_
      refine ol_g rfl rfl hs18 ?_
      refine ol_call rfl rfl cb47 rfl (fun w1 hb1 hs1 hB1 => Calls.mono (ref5_outside _ _ _ _) ?_)
      rintro e w2 ⟨rfl, hb2⟩
      refine After.below rfl hb1 hs1 hB1 hb2 ?_
      clear hb2 hB1 hs1 hb1 w2 w1
      refine ol_r (r_pickF rfl hs18 rfl) rfl ?_
      refine ol_nil (to_k0 (fun _ _ h => h) (hK13 _ _ _ _ _ ?_))
      clear hK13
      first | refine wp_condD rfl (fun hc22 => ?_) (fun hc22 => ?_) | refine wp_condN rfl (fun hc22 => ?_) (fun hc22 => ?_) | refine wp_condNB rfl (fun hc22 => ?_) (fun hc22 => ?_) | refine wp_cond' rfl (fun hc22 => ?_) (fun hc22 => ?_)
      ·refine wp_seq' fun K15 hK15 => ?_
       refine wp_reg ?_
       refine ol_r (r_assign rfl) rfl ?_
       refine ol_nil (to_k0 (fun _ _ h => h) (hK15 _ _ _ _ _ ?_))
       clear hK15
       refine hQ.ret (rvs1 (rv_t rfl)) (fun _ _ h => h) fun w hb hs hB hkd => ?_
       exact ⟨by rw [chkT_g (by omega), chkE_bad hP hx13 (fTi_9 (by unfold ptB; rw [phs18, Bool.true_and]; simpa using hc22)) (by simp)], hb⟩
      ·refine wp_skip' (to_k0 (fun _ _ h => h) (hK12 _ _ _ _ _ ?_))
       clear hK12
       refine wp_seq' fun K16 hK16 => ?_
       refine wp_regq (by kernel_rfl) (by kernel_rfl) ?_
       have hpt : ptB x13.1 x13.2 = true := by unfold ptB; rw [phs18, Bool.true_and]; simpa using hc22
       refine ql_r (r_move rfl) rfl ?_
       refine ql_r (r_gtr rfl rfl) rfl ?_
       refine ql_r (r_move rfl) rfl ?_
       refine ql_split (d := 25) rfl (fun hs25 => ?_) (fun hs25 => ?_)
       ·have phs25 := hs25; try simp only [decide_eq_true_eq, decide_eq_false_iff_not, Bool.not_eq_true', Bool.not_eq_false', Bool.not_true, Bool.not_false] at phs25
        refine ql_g rfl rfl hs25 ?_
        refine ql_r (r_move rfl) rfl ?_
        refine ql_g rfl rfl hs25 ?_
        refine ql_r (r_move rfl) rfl ?_
        refine ql_g rfl rfl hs25 ?_
        refine ql_r (r_sub rfl rfl (by omega)) rfl ?_
        refine ql_g rfl rfl hs25 ?_
        refine ql_ixr hS rfl rfl sl45 (by omega) rfl fun x29 hx29 => ?_
        try simp only [Int.toNat_natCast] at hx29
        refine ql_g rfl rfl hs25 ?_
        refine ql_r (r_ldw rfl (fun w1 hb1 hs1 hB1 => Rd.loads hS ty42 hx29 hb1)) rfl ?_
        refine ql_g rfl rfl hs25 ?_
        refine ql_r (r_lda (id := 4) (n := 2) rfl rfl rfl ag42) rfl ?_
        refine ql_g rfl rfl hs25 ?_
        refine ql_call rfl rfl cb73 rfl (fun w1 hb1 hs1 hB1 => ref5_comes _ _ _) ?_
        refine ql_g rfl rfl hs25 ?_
        refine ql_r (r_not rfl) rfl ?_
        refine ql_r (r_pickT rfl hs25 rfl) rfl ?_
        refine ql_nil (to_k0 (fun _ _ h => h) (hK16 _ _ _ _ _ ?_))
        clear hK16
        first | refine wp_condD rfl (fun hc34 => ?_) (fun hc34 => ?_) | refine wp_condN rfl (fun hc34 => ?_) (fun hc34 => ?_) | refine wp_condNB rfl (fun hc34 => ?_) (fun hc34 => ?_) | refine wp_cond' rfl (fun hc34 => ?_) (fun hc34 => ?_)
        ·refine wp_seq' fun K17 hK17 => ?_
         refine wp_reg ?_
         refine ol_r (r_assign rfl) rfl ?_
         refine ol_nil (to_k0 (fun _ _ h => h) (hK17 _ _ _ _ _ ?_))
         clear hK17
         refine hQ.ret (rvs1 (rv_t rfl)) (fun _ _ h => h) fun w hb hs hB hkd => ?_
         exact ⟨by rw [chkT_g (by omega), chkE_bad hP hx13 (fTi_10 hpt (by rw [ordTi_1 (by omega) hx29]; simpa using hc34)) (by simp)], hb⟩
        ·refine wp_skip' (to_k0 (fun _ _ h => h) (hK10 _ _ _ _ _ ?_))
         clear hK10
         refine wp_reg ?_
         have ho : ordTi (ahead xs k) x13 = false := by
           first
           | (rw [ordTi_0 (by omega)]; done)
           | (rw [ordTi_1 (by omega) hx29]; simpa using hc34)
         refine ol_r (r_add rfl rfl (by omega)) rfl ?_
         refine ol_r (r_move rfl) rfl ?_
         refine ol_nil (to_k0 (fun _ _ h => h) (hK7 (k + 1) _ _ ?_ ?_ (sub_cons rfl sub_nil) (sub_cons rfl (sub_cons rfl (sub_cons rfl sub_nil))) (by exact subH_nil) subH_nil))
         ·try dsimp only
          exact ⟨by omega, chkE_next hP hx13 (fTi_0 hpt ho)⟩
         ·try dsimp only
          omega
       ·have phs25 := hs25; try simp only [decide_eq_true_eq, decide_eq_false_iff_not, Bool.not_eq_true', Bool.not_eq_false', Bool.not_true, Bool.not_false] at phs25
        refine ql_s rfl rfl hs25 rfl ?_
        refine ql_s rfl rfl hs25 rfl ?_
        refine ql_s rfl rfl hs25 rfl ?_
        refine ql_s rfl rfl hs25 rfl ?_
        refine ql_s rfl rfl hs25 rfl ?_
        refine ql_s rfl rfl hs25 rfl ?_
        refine ql_s rfl rfl hs25 rfl ?_
        refine ql_s rfl rfl hs25 rfl ?_
        refine ql_r (r_pickF rfl hs25 rfl) rfl ?_
        refine ql_nil (to_k0 (fun _ _ h => h) (hK16 _ _ _ _ _ ?_))
        clear hK16
        refine wp_condF rfl ?_
        refine wp_skip' (to_k0 (fun _ _ h => h) (hK10 _ _ _ _ _ ?_))
        clear hK10
        refine wp_reg ?_
        have ho : ordTi (ahead xs k) x13 = false := by
          first
          | (rw [ordTi_0 (by omega)]; done)
          | (rw [ordTi_1 (by omega) hx29]; simpa using hc34)
        refine ol_r (r_add rfl rfl (by omega)) rfl ?_
        refine ol_r (r_move rfl) rfl ?_
        refine ol_nil (to_k0 (fun _ _ h => h) (hK7 (k + 1) _ _ ?_ ?_ (sub_cons rfl sub_nil) (sub_cons rfl (sub_cons rfl (sub_cons rfl sub_nil))) (by exact subH_nil) subH_nil))
        ·try dsimp only
         exact ⟨by omega, chkE_next hP hx13 (fTi_0 hpt ho)⟩
        ·try dsimp only
         omega
    ·refine wp_exit' (to_k0 (fun _ _ h => h) (hK5 _ _ _ _ _ ?_))
     clear hK5
     refine wp_seq' fun K18 hK18 => ?_
     refine wp_reg ?_
     refine ol_r (r_assign rfl) rfl ?_
     refine ol_nil (to_k0 (fun _ _ h => h) (hK18 _ _ _ _ _ ?_))
     clear hK18
     refine hQ.ret (rvs1 (rv_t rfl)) (fun _ _ h => h) fun w hb hs hB hkd => ?_
     exact ⟨by rw [chkT_g (by omega), chkE_end hP (by omega)], hb⟩
theorem tile_ne (x : TileR) : eqs [Value.int .i64 x.1, .int .i64 x.2] [.int .i64 x.1, .int .i64 x.2] = true := by simp [eqs, eqV]
end Go.Proofs.Ytjflbnbofedlkaa

/-
  Entries under other numbers: a function that works in its caller's blocks.
-/

namespace Go.Proofs.Ytjflbnbofedlkaa.Hx
open Go Go.RowKit
def upH (k : Nat) (H : HL) : HL := H.map fun p => (p.1 + k, p.2)
theorem look_up (k : Nat) : ∀ (H : HL) (i : Nat), look (upH k H) (i + k) = look H i
  | [], i => rfl
  | (j, e) :: r, i => by
    show look ((j + k, e) :: upH k r) (i + k) = look ((j, e) :: r) i
    by_cases h : j = i
    · subst h; rw [look_cons_eq, look_cons_eq]
    · rw [look_cons_ne _ _ (by omega), look_cons_ne _ _ h, look_up k r i]
theorem look_up' (k : Nat) : ∀ (H : HL) (i : Nat) (e : Ent), look (upH k H) i = some e → ∃ j, i = j + k
  | [], i, e, h => by simp [upH, look] at h
  | (j, e') :: r, i, e, h => by
    by_cases hi : j + k = i
    · exact ⟨j, hi.symm⟩
    · have : look (upH k r) i = some e := by
        rw [← h]
        show _ = look ((j + k, e') :: upH k r) i
        rw [look_cons_ne _ _ hi]
      exact look_up' k r i e this
theorem Sat.up {B : Nat} {w : World} {H : HL} (k : Nat) (h : Sat B w H) : Sat B w (upH k H) := by
  refine ⟨fun i e hi => ?_, fun i j e f hij hi hj => ?_⟩
  · obtain ⟨j, rfl⟩ := look_up' k H i e hi
    rw [look_up] at hi
    exact h.ok j e hi
  · obtain ⟨i, rfl⟩ := look_up' k H i e hi
    obtain ⟨j, rfl⟩ := look_up' k H j f hj
    rw [look_up] at hi hj
    exact h.apart i j e f (by omega) hi hj
theorem Sat.down {B : Nat} {w : World} {H : HL} {H' : HL} (k : Nat) (h : Sat B w H) (hs : SubH (upH k H') H) : Sat B w H' := by
  have h1 := h.sub hs
  refine ⟨fun i e hi => h1.ok (i + k) e (by rw [look_up]; exact hi), fun i j e f hij hi hj => h1.apart (i + k) (j + k) e f (by omega) (by rw [look_up]; exact hi) (by rw [look_up]; exact hj)⟩
end Go.Proofs.Ytjflbnbofedlkaa.Hx

/-
  The tiles of an activity, by the reference.
-/



namespace Go.Proofs.Ytjflbnbofedlkaa
open Go Go.RowKit Hx
set_option linter.unusedVariables false
set_option linter.unusedSimpArgs false
set_option maxRecDepth 8000
abbrev eMap (b : Nat) (D : TM) : Ent := .ob b (MapO (pEnc encTile.val Value.bool D))
theorem ref5_column (B : Nat) (w : World) (b : Nat) (D : TM) (x lo hi : Int) (F5 F6 E2 E9 E10 E11 : Ent) (hB0 : B ≤ w.heap.size) (hlo : -9223372036854775807 ≤ lo ∧ lo ≤ 9223372036854775806) (hhi : hi < 9223372036854775806)
    (hs0 : Sat B w [(5, F5), (6, F6), (202, E2), (209, E9), (210, E10), (211, E11), (221, eMap b D)]) :
    Calls Try.prog 92 #[.map (some b), .int .i64 x, .int .i64 lo, .int .i64 hi] w fun e w' => e = .returned (.tuple #[]) ∧ Below B w w' ∧ Sat B w' [(5, F5), (6, F6), (202, E2), (209, E9), (210, E10), (211, E11), (221, eMap b (capC D (colT x lo hi)))] ∧ B ≤ w'.heap.size ∧ Kd (fun _ => True) w w' := by
  refine enterQ (N := 24) (C := fun _ => True) (H := [(5, F5), (6, F6), (202, E2), (209, E9), (210, E10), (211, E11), (221, eMap b D)]) (B := B) (args := [_, _, _, _]) Try.func92 rfl rfl rfl (hB0) (hs0) fun Q hQ => ?_
  refine wp_seq' fun K1 hK1 => ?_
  refine wp_reg ?_
  refine ol_r (r_move rfl) rfl ?_
  refine ol_r (r_assign rfl) rfl ?_
  refine ol_nil (to_k0 (fun _ _ h => h) (hK1 _ _ _ _ _ ?_))
  clear hK1
  refine wp_block' ?_
  apply wp_loopM (σ := Int × TM) (fun s => lo ≤ s.1 ∧ s.1 ≤ max lo (hi + 1) ∧ capC s.2 (colT x s.1 hi) = capC D (colT x lo hi)) (fun s => [(8, .int .i64 s.1)]) [(0, _), (1, _), (3, _)] (fun s => [(221, .ob b (MapO (pEnc encTile.val Value.bool s.2)))]) [(5, _), (6, _), (202, _), (209, _), (210, _), (211, _)] (fun s => (hi + 1 - s.1).toNat) ((lo, D))
  ·try dsimp only
   exact ⟨Int.le_refl _, by omega, rfl⟩
  ·exact (sub_cons rfl sub_nil)
  ·exact (sub_cons rfl (sub_cons rfl (sub_cons rfl sub_nil)))
  ·exact (subH_same rfl subH_nil)
  ·exact (subH_same rfl (subH_same rfl (subH_same rfl (subH_same rfl (subH_same rfl (subH_same rfl subH_nil))))))
  ·rintro ⟨y, D1⟩ ⟨h1, h2, hP⟩
   dsimp only at h1 h2 hP ⊢
   intro K2 hK2
   refine wp_seq' fun K3 hK3 => ?_
   refine wp_seq' fun K4 hK4 => ?_
   refine wp_reg ?_
   refine ol_r (r_move rfl) rfl ?_
   refine ol_r (r_move rfl) rfl ?_
   refine ol_r (r_leq rfl rfl) rfl ?_
   refine ol_r (r_move rfl) rfl ?_
   refine ol_split (d := 13) rfl (fun hs13 => ?_) (fun hs13 => ?_)
   ·have phs13 := hs13; try simp only [decide_eq_true_eq, decide_eq_false_iff_not, Bool.not_eq_true', Bool.not_eq_false', Bool.not_true, Bool.not_false] at phs13
    refine ol_g rfl rfl hs13 ?_
    refine ol_r (r_move rfl) rfl ?_
    refine ol_g rfl rfl hs13 ?_
    refine ol_r (r_mlen (K := encTile.val) (V := Value.bool) (z := false) (id := 221) rfl rfl mk100) rfl ?_
    refine ol_g rfl rfl hs13 ?_
    refine ol_r (r_leq rfl rfl) rfl ?_
    refine ol_r (r_pickT rfl hs13 rfl) rfl ?_
    refine ol_nil (to_k0 (fun _ _ h => h) (hK4 _ _ _ _ _ ?_))
    clear hK4
    first | refine wp_condD rfl (fun hc17 => ?_) (fun hc17 => ?_) | refine wp_condN rfl (fun hc17 => ?_) (fun hc17 => ?_) | refine wp_condNB rfl (fun hc17 => ?_) (fun hc17 => ?_) | refine wp_cond' rfl (fun hc17 => ?_) (fun hc17 => ?_)
    ·refine wp_skip' (to_k0 (fun _ _ h => h) (hK3 _ _ _ _ _ ?_))
     clear hK3
     refine wp_seq' fun K5 hK5 => ?_
     refine wp_block' ?_
     refine wp_reg ?_
     refine ol_r (r_move rfl) rfl ?_
     refine ol_r (r_move rfl) rfl ?_
     refine ol_r (r_move rfl) rfl ?_
     refine ol_r (r_build rfl (fun _ => bd42_0_1 _ _ _)) rfl ?_
     refine ol_mapset (K := encTile.val) (V := Value.bool) (z := false) (k := (x, y)) (id := 221) rfl rfl rfl rfl mk100 trivial ?_
     refine ol_nil (to_k0 (fun _ _ h => h) (hK5 _ _ _ _ _ ?_))
     clear hK5
     refine wp_reg ?_
     refine ol_r (r_move rfl) rfl ?_
     refine ol_r (r_add rfl rfl (by omega)) rfl ?_
     refine ol_r (r_assign rfl) rfl ?_
     refine ol_nil (to_k0 (fun _ _ h => h) (hK2 ((y + 1, pS D1 (x, y) true)) _ _ ?_ ?_ (sub_cons rfl sub_nil) (sub_cons rfl (sub_cons rfl (sub_cons rfl sub_nil))) (by exact (subH_same rfl subH_nil)) (subH_same rfl (subH_same rfl (subH_same rfl (subH_same rfl (subH_same rfl (subH_same rfl subH_nil))))))))
     ·try dsimp only
      refine ⟨by omega, by omega, ?_⟩
      rw [colT_cons (by omega), capC, if_pos (by omega)] at hP
      exact hP
     ·try dsimp only
      omega
    ·refine wp_exit' (hQ.fall rvs0 (fun _ _ h => h) fun w hb hs hB hkd => ?_)
     have he : D1 = capC D (colT x lo hi) := by
       rw [← hP]
       first
       | (rw [colT_nil (by omega)]; rfl)
       | (rw [capC_stop (by omega)])
     exact ⟨rfl, hb, by rw [← he]; exact hs.sub (by repeat' first | exact subH_nil | refine subH_same rfl ?_), hB, hkd⟩
   ·have phs13 := hs13; try simp only [decide_eq_true_eq, decide_eq_false_iff_not, Bool.not_eq_true', Bool.not_eq_false', Bool.not_true, Bool.not_false] at phs13
    refine ol_s rfl rfl hs13 rfl ?_
    refine ol_s rfl rfl hs13 rfl ?_
    refine ol_s rfl rfl hs13 rfl ?_
    refine ol_r (r_pickF rfl hs13 rfl) rfl ?_
    refine ol_nil (to_k0 (fun _ _ h => h) (hK4 _ _ _ _ _ ?_))
    clear hK4
    refine wp_condF rfl ?_
    refine wp_exit' (hQ.fall rvs0 (fun _ _ h => h) fun w hb hs hB hkd => ?_)
    have he : D1 = capC D (colT x lo hi) := by
      rw [← hP]
      first
      | (rw [colT_nil (by omega)]; rfl)
      | (rw [capC_stop (by omega)])
    exact ⟨rfl, hb, by rw [← he]; exact hs.sub (by repeat' first | exact subH_nil | refine subH_same rfl ?_), hB, hkd⟩
theorem ref5_step (B : Nat) (w : World) (b : Nat) (D : TM) (px py qx qy side : Int) (E2 E9 E10 E11 : Ent) (hB0 : B ≤ w.heap.size) (hst : StB px py qx qy side)
    (hs0 : Sat B w [(202, E2), (209, E9), (210, E10), (211, E11), (221, eMap b D)]) :
    Calls Try.prog 62 #[.map (some b), .agg #[.int .i64 px, .int .i64 py], .agg #[.int .i64 qx, .int .i64 qy], .int .i64 side] w fun e w' => e = .returned (.tuple #[]) ∧ Below B w w' ∧ Sat B w' [(202, E2), (209, E9), (210, E10), (211, E11), (221, eMap b (capC D (eastT px py qx qy side)))] ∧ B ≤ w'.heap.size ∧ Kd (fun _ => True) w w' := by
  have hpx := hst.bpx; have hpy := hst.bpy; have hqx := hst.bqx; have hqy := hst.bqy; have hsd := hst.bs; have hle := hst.le
  have hf1 := flo_bd (a := px) (b := side) (by omega) (N := 100000000) (by omega)
  have hf2 := flo_bd (a := qx) (b := side) (by omega) (N := 100000000) (by omega)
  have hf3 := flo_bd (a := min py qy) (b := side) (by omega) (N := 100000000) (by omega)
  have hf4 := flo_bd (a := max py qy) (b := side) (by omega) (N := 100000000) (by omega)
  refine enterQ (N := 141) (C := fun _ => True) (H := [(202, E2), (209, E9), (210, E10), (211, E11), (221, eMap b D)]) (B := B) (args := [_, _, _, _]) Try.func62 rfl rfl rfl (hB0) (hs0) fun Q hQ => ?_
  refine wp_seq' fun K1 hK1 => ?_
  refine wp_reg ?_
  refine ol_box 5 rfl rfl rfl fun b5 => ?_
  refine ol_box 6 rfl rfl rfl fun b6 => ?_
  refine ol_nil (to_k0 (fun _ _ h => h) (hK1 _ _ _ _ _ ?_))
  clear hK1
  refine wp_seq' fun K2 hK2 => ?_
  refine wp_regq (by kernel_rfl) (by kernel_rfl) ?_
  refine ql_r (r_fa (o' := 0) rfl fl41_0 rfl) rfl ?_
  refine ql_r (r_ld (id := 6) rfl rfl rfl sc3) rfl ?_
  refine ql_r (r_fa (o' := 0) rfl fl41_0 rfl) rfl ?_
  refine ql_r (r_ld (id := 5) rfl rfl rfl sc3) rfl ?_
  refine ql_r (r_sub rfl rfl (by omega)) rfl ?_
  refine ql_r (r_fa (o' := 1) rfl fl41_1 rfl) rfl ?_
  refine ql_r (r_ld (id := 6) rfl rfl rfl sc3) rfl ?_
  refine ql_r (r_fa (o' := 1) rfl fl41_1 rfl) rfl ?_
  refine ql_r (r_ld (id := 5) rfl rfl rfl sc3) rfl ?_
  refine ql_r (r_sub rfl rfl (by omega)) rfl ?_
  refine ql_r (r_assign rfl) rfl ?_
  refine ql_r (r_assign rfl) rfl ?_
  refine ql_nil (to_k0 (fun _ _ h => h) (hK2 _ _ _ _ _ ?_))
  clear hK2
  refine wp_seq' fun K3 hK3 => ?_
  refine wp_seq' fun K4 hK4 => ?_
  refine wp_reg ?_
  refine ol_r (r_move rfl) rfl ?_
  refine ol_r (r_eql rfl rfl) rfl ?_
  refine ol_nil (to_k0 (fun _ _ h => h) (hK4 _ _ _ _ _ ?_))
  clear hK4
  first | refine wp_condD rfl (fun hc28 => ?_) (fun hc28 => ?_) | refine wp_condN rfl (fun hc28 => ?_) (fun hc28 => ?_) | refine wp_condNB rfl (fun hc28 => ?_) (fun hc28 => ?_) | refine wp_cond' rfl (fun hc28 => ?_) (fun hc28 => ?_)
  ·refine wp_seq' fun K5 hK5 => ?_
   refine wp_regqt 19 (by kernel_rfl) (by kernel_rfl) ?_
   simp only [List.take_succ_cons, List.take_zero, List.drop_succ_cons, List.drop_zero]
   refine ql_r (r_move rfl) rfl ?_
   refine ql_r (r_fa (o' := 0) rfl fl41_0 rfl) rfl ?_
   refine ql_r (r_ld (id := 5) rfl rfl rfl sc3) rfl ?_
   refine ql_r (r_move rfl) rfl ?_
   refine ql_call rfl rfl cb53 rfl (fun w1 hb1 hs1 hB1 => ref5_floor _ _ _ (by omega) (by omega)) ?_
   refine ql_r (r_fa (o' := 1) rfl fl41_1 rfl) rfl ?_
   refine ql_r (r_ld (id := 5) rfl rfl rfl sc3) rfl ?_
   refine ql_r (r_fa (o' := 1) rfl fl41_1 rfl) rfl ?_
   refine ql_r (r_ld (id := 6) rfl rfl rfl sc3) rfl ?_
   refine ql_r (r_min rfl rfl) rfl ?_
   refine ql_r (r_move rfl) rfl ?_
   refine ql_call rfl rfl cb53 rfl (fun w1 hb1 hs1 hB1 => ref5_floor _ _ _ (by omega) (by omega)) ?_
   refine ql_r (r_fa (o' := 1) rfl fl41_1 rfl) rfl ?_
   refine ql_r (r_ld (id := 5) rfl rfl rfl sc3) rfl ?_
   refine ql_r (r_fa (o' := 1) rfl fl41_1 rfl) rfl ?_
   refine ql_r (r_ld (id := 6) rfl rfl rfl sc3) rfl ?_
   refine ql_r (r_max rfl rfl) rfl ?_
   refine ql_r (r_move rfl) rfl ?_
   refine ql_call rfl rfl cb53 rfl (fun w1 hb1 hs1 hB1 => ref5_floor _ _ _ (by omega) (by omega)) ?_
   refine ql_tail ?_
   refine ol_call rfl rfl cb92 rfl (fun w1 hb1 hs1 hB1 => ?_)
   refine Calls.mono (ref5_column B _ b D _ _ _ _ _ E2 E9 E10 E11 hB1 (by omega) (by omega) (hs1.sub (by repeat' first | exact subH_nil | refine subH_same rfl ?_))) ?_
   rintro e w2 ⟨rfl, hbw, hs2, hB2, hkd2⟩
   refine After.sat rfl hb1 hbw hs2 hB2 hkd2 ?_
   clear hkd2 hB2 hs2 hbw hB1 hs1 hb1 w2 w1
   refine ol_nil (to_k0 (fun _ _ h => h) (hK5 _ _ _ _ _ ?_))
   clear hK5
   refine hQ.ret rvs0 (fun _ _ h => h) fun w hb hs hB hkd => ?_
   exact ⟨rfl, hb, by rw [eastT_flat hc28]; exact hs.sub (by repeat' first | exact subH_nil | refine subH_same rfl ?_), hB, hkd⟩
  ·refine wp_skip' (to_k0 (fun _ _ h => h) (hK3 _ _ _ _ _ ?_))
   clear hK3
   refine wp_seq' fun K6 hK6 => ?_
   refine wp_reg ?_
   refine ol_r (r_fa (o' := 0) rfl fl41_0 rfl) rfl ?_
   refine ol_r (r_ld (id := 6) rfl rfl rfl sc3) rfl ?_
   refine ol_r (r_move rfl) rfl ?_
   refine ol_call rfl rfl cb53 rfl (fun w1 hb1 hs1 hB1 => Calls.mono (ref5_floor _ _ _ (by omega) (by omega)) ?_)
   rintro e w2 ⟨rfl, hb2⟩
   refine After.below rfl hb1 hs1 hB1 hb2 ?_
   clear hb2 hB1 hs1 hb1 w2 w1
   refine ol_r (r_assign rfl) rfl ?_
   refine ol_nil (to_k0 (fun _ _ h => h) (hK6 _ _ _ _ _ ?_))
   clear hK6
   refine wp_seq' fun K7 hK7 => ?_
   refine wp_reg ?_
   refine ol_r (r_fa (o' := 0) rfl fl41_0 rfl) rfl ?_
   refine ol_r (r_ld (id := 5) rfl rfl rfl sc3) rfl ?_
   refine ol_r (r_move rfl) rfl ?_
   refine ol_call rfl rfl cb53 rfl (fun w1 hb1 hs1 hB1 => Calls.mono (ref5_floor _ _ _ (by omega) (by omega)) ?_)
   rintro e w2 ⟨rfl, hb2⟩
   refine After.below rfl hb1 hs1 hB1 hb2 ?_
   clear hb2 hB1 hs1 hb1 w2 w1
   refine ol_r (r_assign rfl) rfl ?_
   refine ol_nil (to_k0 (fun _ _ h => h) (hK7 _ _ _ _ _ ?_))
   clear hK7
   refine wp_block' ?_
   apply wp_loopM (σ := Int × TM) (fun s => px / side ≤ s.1 ∧ s.1 ≤ qx / side + 1 ∧ capC s.2 (colsT px py qx qy side s.1) = capC D (eastT px py qx qy side)) (fun s => [(11, .int .i64 s.1)]) [(0, _), (3, _), (5, _), (6, _), (8, _), (9, _), (10, _)] (fun s => [(221, .ob b (MapO (pEnc encTile.val Value.bool s.2)))]) [(5, _), (6, _), (202, _), (209, _), (210, _), (211, _)] (fun s => (qx / side + 1 - s.1).toNat) ((px / side, D))
   ·try dsimp only
    exact ⟨Int.le_refl _, by have := Int.ediv_le_ediv (show 0 < side by omega) hle; omega, rfl⟩
   ·exact (sub_cons rfl sub_nil)
   ·exact (sub_cons rfl (sub_cons rfl (sub_cons rfl (sub_cons rfl (sub_cons rfl (sub_cons rfl (sub_cons rfl sub_nil)))))))
   ·exact (subH_same rfl subH_nil)
   ·exact (subH_same rfl (subH_same rfl (subH_same rfl (subH_same rfl (subH_same rfl (subH_same rfl subH_nil))))))
   ·rintro ⟨c, D1⟩ ⟨h1, h2, hP⟩
    dsimp only at h1 h2 hP ⊢
    intro K8 hK8
    refine wp_seq' fun K9 hK9 => ?_
    refine wp_seq' fun K10 hK10 => ?_
    refine wp_reg ?_
    refine ol_r (r_move rfl) rfl ?_
    refine ol_r (r_move rfl) rfl ?_
    refine ol_r (r_leq rfl rfl) rfl ?_
    refine ol_r (r_move rfl) rfl ?_
    refine ol_split (d := 60) rfl (fun hs60 => ?_) (fun hs60 => ?_)
    ·have phs60 := hs60; try simp only [decide_eq_true_eq, decide_eq_false_iff_not, Bool.not_eq_true', Bool.not_eq_false', Bool.not_true, Bool.not_false] at phs60
     refine ol_g rfl rfl hs60 ?_
     refine ol_r (r_move rfl) rfl ?_
     refine ol_g rfl rfl hs60 ?_
     refine ol_r (r_mlen (K := encTile.val) (V := Value.bool) (z := false) (id := 221) rfl rfl mk100) rfl ?_
     refine ol_g rfl rfl hs60 ?_
     refine ol_r (r_leq rfl rfl) rfl ?_
     refine ol_r (r_pickT rfl hs60 rfl) rfl ?_
     refine ol_nil (to_k0 (fun _ _ h => h) (hK10 _ _ _ _ _ ?_))
     clear hK10
     first | refine wp_condD rfl (fun hc64 => ?_) (fun hc64 => ?_) | refine wp_condN rfl (fun hc64 => ?_) (fun hc64 => ?_) | refine wp_condNB rfl (fun hc64 => ?_) (fun hc64 => ?_) | refine wp_cond' rfl (fun hc64 => ?_) (fun hc64 => ?_)
     ·refine wp_skip' (to_k0 (fun _ _ h => h) (hK9 _ _ _ _ _ ?_))
      clear hK9
      refine wp_seq' fun K11 hK11 => ?_
      refine wp_block' ?_
      refine wp_seq' fun K12 hK12 => ?_
      refine wp_reg ?_
      have hdx : 0 < qx - px := by omega
      have hcol := hst.col (c := c) h1 (by omega)
      obtain ⟨k1, k2, k3, k4, k5, k6⟩ := hst.all (c := c) h1 (by omega)
      have hm := k6 hdx
      have hTo : -64000000000000000 ≤ stTo px py qx qy side c ∧ stTo px py qx qy side c ≤ 64000000000000000 := by unfold stTo; split <;> omega
      have hFr : -64000000000000000 ≤ stFrom px py qx qy side c ∧ stFrom px py qx qy side c ≤ 64000000000000000 := by unfold stFrom; omega
      have hLo := flo_bd (a := min (stFrom px py qx qy side c) (stTo px py qx qy side c)) (b := (qx - px) * side) hm (N := 64000000000000000) (by omega)
      have hHi := flo_bd (a := max (stFrom px py qx qy side c) (stTo px py qx qy side c)) (b := (qx - px) * side) hm (N := 64000000000000000) (by omega)
      have hs1' : stLo px py qx qy side c = min (stFrom px py qx qy side c) (stTo px py qx qy side c) / ((qx - px) * side) := by rw [stLo, if_neg (by omega)]
      refine ol_r (r_fa (o' := 0) rfl fl41_0 rfl) rfl ?_
      refine ol_r (r_ld (id := 5) rfl rfl rfl sc3) rfl ?_
      refine ol_r (r_move rfl) rfl ?_
      refine ol_r (r_move rfl) rfl ?_
      refine ol_r (r_mul rfl rfl (by omega)) rfl ?_
      refine ol_r (r_max rfl rfl) rfl ?_
      refine ol_r (r_assign rfl) rfl ?_
      refine ol_nil (to_k0 (fun _ _ h => h) (hK12 _ _ _ _ _ ?_))
      clear hK12
      refine wp_seq' fun K13 hK13 => ?_
      refine wp_reg ?_
      refine ol_r (r_fa (o' := 1) rfl fl41_1 rfl) rfl ?_
      refine ol_r (r_ld (id := 5) rfl rfl rfl sc3) rfl ?_
      refine ol_r (r_move rfl) rfl ?_
      refine ol_r (r_mul rfl rfl (by omega)) rfl ?_
      refine ol_r (r_move rfl) rfl ?_
      refine ol_r (r_move rfl) rfl ?_
      refine ol_r (r_fa (o' := 0) rfl fl41_0 rfl) rfl ?_
      refine ol_r (r_ld (id := 5) rfl rfl rfl sc3) rfl ?_
      refine ol_r (r_sub rfl rfl (by omega)) rfl ?_
      refine ol_r (r_mul rfl rfl (by omega)) rfl ?_
      refine ol_r (r_add rfl rfl (by omega)) rfl ?_
      refine ol_r (r_assign rfl) rfl ?_
      refine ol_nil (to_k0 (fun _ _ h => h) (hK13 _ _ _ _ _ ?_))
      clear hK13
      refine wp_seq' fun K14 hK14 => ?_
      refine wp_reg ?_
      refine ol_r (r_fa (o' := 1) rfl fl41_1 rfl) rfl ?_
      refine ol_r (r_ld (id := 6) rfl rfl rfl sc3) rfl ?_
      refine ol_r (r_move rfl) rfl ?_
      refine ol_r (r_mul rfl rfl (by omega)) rfl ?_
      refine ol_r (r_assign rfl) rfl ?_
      refine ol_nil (to_k0 (fun _ _ h => h) (hK14 _ _ _ _ _ ?_))
      clear hK14
      apply wp_seq_cutM (σ := Unit) (fun s => True) (fun s => [(14, .int .i64 (stTo px py qx qy side c))]) [(0, _), (3, _), (5, _), (6, _), (8, _), (9, _), (10, _), (11, _), (13, _)] (fun s => []) [(5, _), (6, _), (202, _), (209, _), (210, _), (211, _), (221, _)]
      ·exact (sub_cons rfl (sub_cons rfl (sub_cons rfl (sub_cons rfl (sub_cons rfl (sub_cons rfl (sub_cons rfl (sub_cons rfl (sub_cons rfl sub_nil)))))))))
      ·exact (subH_same rfl (subH_same rfl (subH_same rfl (subH_same rfl (subH_same rfl (subH_same rfl (subH_same rfl subH_nil)))))))
      ·intro K15 hK15
       refine wp_seq' fun K16 hK16 => ?_
       refine wp_reg ?_
       refine ol_r (r_move rfl) rfl ?_
       refine ol_r (r_move rfl) rfl ?_
       refine ol_r (r_lss rfl rfl) rfl ?_
       refine ol_nil (to_k0 (fun _ _ h => h) (hK16 _ _ _ _ _ ?_))
       clear hK16
       first | refine wp_condD rfl (fun hc90 => ?_) (fun hc90 => ?_) | refine wp_condN rfl (fun hc90 => ?_) (fun hc90 => ?_) | refine wp_condNB rfl (fun hc90 => ?_) (fun hc90 => ?_) | refine wp_cond' rfl (fun hc90 => ?_) (fun hc90 => ?_)
       ·refine wp_reg ?_
        refine ol_r (r_fa (o' := 1) rfl fl41_1 rfl) rfl ?_
        refine ol_r (r_ld (id := 5) rfl rfl rfl sc3) rfl ?_
        refine ol_r (r_move rfl) rfl ?_
        refine ol_r (r_mul rfl rfl (by omega)) rfl ?_
        refine ol_r (r_move rfl) rfl ?_
        refine ol_r (r_move rfl) rfl ?_
        refine ol_r (r_add rfl rfl (by omega)) rfl ?_
        refine ol_r (r_move rfl) rfl ?_
        refine ol_r (r_mul rfl rfl (by omega)) rfl ?_
        refine ol_r (r_fa (o' := 0) rfl fl41_0 rfl) rfl ?_
        refine ol_r (r_ld (id := 5) rfl rfl rfl sc3) rfl ?_
        refine ol_r (r_sub rfl rfl (by omega)) rfl ?_
        refine ol_r (r_mul rfl rfl (by omega)) rfl ?_
        refine ol_r (r_add rfl rfl (by omega)) rfl ?_
        refine ol_r (r_assign rfl) rfl ?_
        refine ol_nil (to_k0 (fun _ _ h => h) (hK15 (()) _ _ ?_ (sub_cons (by first | rfl | (first | (rw [stTo, if_pos (by omega)]; rfl) | (rw [stTo, if_neg (by omega)]; rfl))) sub_nil) (sub_cons rfl (sub_cons rfl (sub_cons rfl (sub_cons rfl (sub_cons rfl (sub_cons rfl (sub_cons rfl (sub_cons rfl (sub_cons rfl sub_nil))))))))) subH_nil (subH_same rfl (subH_same rfl (subH_same rfl (subH_same rfl (subH_same rfl (subH_same rfl (subH_same rfl subH_nil)))))))))
        try dsimp only
        all_goals trivial
       ·refine wp_skip' (to_k0 (fun _ _ h => h) (hK15 (()) _ _ ?_ (sub_cons (by first | rfl | (first | (rw [stTo, if_pos (by omega)]; rfl) | (rw [stTo, if_neg (by omega)]; rfl))) sub_nil) (sub_cons rfl (sub_cons rfl (sub_cons rfl (sub_cons rfl (sub_cons rfl (sub_cons rfl (sub_cons rfl (sub_cons rfl (sub_cons rfl sub_nil))))))))) subH_nil (subH_same rfl (subH_same rfl (subH_same rfl (subH_same rfl (subH_same rfl (subH_same rfl (subH_same rfl subH_nil)))))))))
        try dsimp only
        all_goals trivial
      ·rintro s hI
       refine wp_seq' fun K17 hK17 => ?_
       refine wp_reg ?_
       have hraw : py * (qx - px) + (qy - py) * (max px (c * side) - px) = stFrom px py qx qy side c := rfl
       rw [hraw]
       refine ol_r (r_move rfl) rfl ?_
       refine ol_r (r_move rfl) rfl ?_
       refine ol_r (r_min rfl rfl) rfl ?_
       refine ol_r (r_move rfl) rfl ?_
       refine ol_r (r_move rfl) rfl ?_
       refine ol_r (r_mul rfl rfl (by omega)) rfl ?_
       refine ol_call rfl rfl cb53 rfl (fun w1 hb1 hs1 hB1 => Calls.mono (ref5_floor _ _ _ (by omega) (by omega)) ?_)
       rintro e w2 ⟨rfl, hb2⟩
       refine After.below rfl hb1 hs1 hB1 hb2 ?_
       clear hb2 hB1 hs1 hb1 w2 w1
       refine ol_r (r_move rfl) rfl ?_
       refine ol_r (r_move rfl) rfl ?_
       refine ol_r (r_max rfl rfl) rfl ?_
       refine ol_r (r_move rfl) rfl ?_
       refine ol_r (r_move rfl) rfl ?_
       refine ol_r (r_mul rfl rfl (by omega)) rfl ?_
       refine ol_call rfl rfl cb53 rfl (fun w1 hb1 hs1 hB1 => Calls.mono (ref5_floor _ _ _ (by omega) (by omega)) ?_)
       rintro e w2 ⟨rfl, hb2⟩
       refine After.below rfl hb1 hs1 hB1 hb2 ?_
       clear hb2 hB1 hs1 hb1 w2 w1
       refine ol_r (r_assign rfl) rfl ?_
       refine ol_r (r_assign rfl) rfl ?_
       refine ol_nil (to_k0 (fun _ _ h => h) (hK17 _ _ _ _ _ ?_))
       clear hK17
       apply wp_seq_cutM (σ := Unit) (fun s => True) (fun s => [(16, .int .i64 (stHi px py qx qy side c))]) [(0, _), (3, _), (5, _), (6, _), (8, _), (9, _), (10, _), (11, _), (15, _)] (fun s => []) [(5, _), (6, _), (202, _), (209, _), (210, _), (211, _), (221, _)]
       ·exact (sub_cons rfl (sub_cons rfl (sub_cons rfl (sub_cons rfl (sub_cons rfl (sub_cons rfl (sub_cons rfl (sub_cons rfl (sub_cons rfl sub_nil)))))))))
       ·exact (subH_same rfl (subH_same rfl (subH_same rfl (subH_same rfl (subH_same rfl (subH_same rfl (subH_same rfl subH_nil)))))))
       ·intro K18 hK18
        refine wp_seq' fun K19 hK19 => ?_
        refine wp_reg ?_
        refine ol_r (r_move rfl) rfl ?_
        refine ol_r (r_move rfl) rfl ?_
        refine ol_r (r_lss rfl rfl) rfl ?_
        refine ol_r (r_move rfl) rfl ?_
        refine ol_split (d := 122) rfl (fun hs122 => ?_) (fun hs122 => ?_)
        ·have phs122 := hs122; try simp only [decide_eq_true_eq, decide_eq_false_iff_not, Bool.not_eq_true', Bool.not_eq_false', Bool.not_true, Bool.not_false] at phs122
         refine ol_g rfl rfl hs122 ?_
         refine ol_r (r_move rfl) rfl ?_
         refine ol_g rfl rfl hs122 ?_
         refine ol_r (r_gtr rfl rfl) rfl ?_
         refine ol_r (r_pickT rfl hs122 rfl) rfl ?_
         refine ol_r (r_move rfl) rfl ?_
         refine ol_split (d := 126) rfl (fun hs126 => ?_) (fun hs126 => ?_)
         ·have phs126 := hs126; try simp only [decide_eq_true_eq, decide_eq_false_iff_not, Bool.not_eq_true', Bool.not_eq_false', Bool.not_true, Bool.not_false] at phs126
          refine ol_g rfl rfl hs126 ?_
          refine ol_r (r_move rfl) rfl ?_
          refine ol_g rfl rfl hs126 ?_
          refine ol_r (r_move rfl) rfl ?_
          refine ol_g rfl rfl hs126 ?_
          refine ol_r (r_move rfl) rfl ?_
          refine ol_g rfl rfl hs126 ?_
          refine ol_r (r_mul rfl rfl (by omega)) rfl ?_
          refine ol_g rfl rfl hs126 ?_
          first | refine ol_r (r_rem rfl rfl (by omega)) rfl ?_ | refine ol_r (r_trem rfl rfl (by omega)) rfl ?_
          refine ol_g rfl rfl hs126 ?_
          refine ol_r (r_eql rfl rfl) rfl ?_
          refine ol_r (r_pickT rfl hs126 rfl) rfl ?_
          refine ol_nil (to_k0 (fun _ _ h => h) (hK19 _ _ _ _ _ ?_))
          clear hK19
          first | refine wp_condD rfl (fun hc133 => ?_) (fun hc133 => ?_) | refine wp_condN rfl (fun hc133 => ?_) (fun hc133 => ?_) | refine wp_condNB rfl (fun hc133 => ?_) (fun hc133 => ?_) | refine wp_cond' rfl (fun hc133 => ?_) (fun hc133 => ?_)
          ·refine wp_reg ?_
           refine ol_r (r_move rfl) rfl ?_
           refine ol_r (r_sub rfl rfl (by omega)) rfl ?_
           refine ol_r (r_assign rfl) rfl ?_
           refine ol_nil (to_k0 (fun _ _ h => h) (hK18 (()) _ _ ?_ (sub_cons (by first | rfl | (first | (rw [stHi, if_neg (by omega), if_pos ⟨by omega, by omega, by omega⟩]; rfl) | (rw [stHi, if_neg (by omega), if_neg (by omega)]; rfl))) sub_nil) (sub_cons rfl (sub_cons rfl (sub_cons rfl (sub_cons rfl (sub_cons rfl (sub_cons rfl (sub_cons rfl (sub_cons rfl (sub_cons rfl sub_nil))))))))) subH_nil (subH_same rfl (subH_same rfl (subH_same rfl (subH_same rfl (subH_same rfl (subH_same rfl (subH_same rfl subH_nil)))))))))
           try dsimp only
           all_goals trivial
          ·refine wp_skip' (to_k0 (fun _ _ h => h) (hK18 (()) _ _ ?_ (sub_cons (by first | rfl | (first | (rw [stHi, if_neg (by omega), if_pos ⟨by omega, by omega, by omega⟩]; rfl) | (rw [stHi, if_neg (by omega), if_neg (by omega)]; rfl))) sub_nil) (sub_cons rfl (sub_cons rfl (sub_cons rfl (sub_cons rfl (sub_cons rfl (sub_cons rfl (sub_cons rfl (sub_cons rfl (sub_cons rfl sub_nil))))))))) subH_nil (subH_same rfl (subH_same rfl (subH_same rfl (subH_same rfl (subH_same rfl (subH_same rfl (subH_same rfl subH_nil)))))))))
           try dsimp only
           all_goals trivial
         ·have phs126 := hs126; try simp only [decide_eq_true_eq, decide_eq_false_iff_not, Bool.not_eq_true', Bool.not_eq_false', Bool.not_true, Bool.not_false] at phs126
          refine ol_s rfl rfl hs126 rfl ?_
          refine ol_s rfl rfl hs126 rfl ?_
          refine ol_s rfl rfl hs126 rfl ?_
          refine ol_s rfl rfl hs126 rfl ?_
          refine ol_s rfl rfl hs126 rfl ?_
          refine ol_s rfl rfl hs126 rfl ?_
          refine ol_r (r_pickF rfl hs126 rfl) rfl ?_
          refine ol_nil (to_k0 (fun _ _ h => h) (hK19 _ _ _ _ _ ?_))
          clear hK19
          refine wp_condF rfl ?_
          refine wp_skip' (to_k0 (fun _ _ h => h) (hK18 (()) _ _ ?_ (sub_cons (by first | rfl | (first | (rw [stHi, if_neg (by omega), if_pos ⟨by omega, by omega, by omega⟩]; rfl) | (rw [stHi, if_neg (by omega), if_neg (by omega)]; rfl))) sub_nil) (sub_cons rfl (sub_cons rfl (sub_cons rfl (sub_cons rfl (sub_cons rfl (sub_cons rfl (sub_cons rfl (sub_cons rfl (sub_cons rfl sub_nil))))))))) subH_nil (subH_same rfl (subH_same rfl (subH_same rfl (subH_same rfl (subH_same rfl (subH_same rfl (subH_same rfl subH_nil)))))))))
          try dsimp only
          all_goals trivial
        ·have phs122 := hs122; try simp only [decide_eq_true_eq, decide_eq_false_iff_not, Bool.not_eq_true', Bool.not_eq_false', Bool.not_true, Bool.not_false] at phs122
         refine ol_s rfl rfl hs122 rfl ?_
         refine ol_s rfl rfl hs122 rfl ?_
         refine ol_r (r_pickF rfl hs122 rfl) rfl ?_
         refine ol_r (r_move rfl) rfl ?_
         refine ol_s rfl rfl rfl rfl ?_
         refine ol_s rfl rfl rfl rfl ?_
         refine ol_s rfl rfl rfl rfl ?_
         refine ol_s rfl rfl rfl rfl ?_
         refine ol_s rfl rfl rfl rfl ?_
         refine ol_s rfl rfl rfl rfl ?_
         refine ol_r (r_pickF rfl rfl rfl) rfl ?_
         refine ol_nil (to_k0 (fun _ _ h => h) (hK19 _ _ _ _ _ ?_))
         clear hK19
         refine wp_condF rfl ?_
         refine wp_skip' (to_k0 (fun _ _ h => h) (hK18 (()) _ _ ?_ (sub_cons (by first | rfl | (first | (rw [stHi, if_neg (by omega), if_pos ⟨by omega, by omega, by omega⟩]; rfl) | (rw [stHi, if_neg (by omega), if_neg (by omega)]; rfl))) sub_nil) (sub_cons rfl (sub_cons rfl (sub_cons rfl (sub_cons rfl (sub_cons rfl (sub_cons rfl (sub_cons rfl (sub_cons rfl (sub_cons rfl sub_nil))))))))) subH_nil (subH_same rfl (subH_same rfl (subH_same rfl (subH_same rfl (subH_same rfl (subH_same rfl (subH_same rfl subH_nil)))))))))
         try dsimp only
         all_goals trivial
       ·rintro s hI
        refine wp_reg ?_
        rw [← hs1']
        have hH2 : -64000000000000001 ≤ stHi px py qx qy side c ∧ stHi px py qx qy side c ≤ 64000000000000000 := by
          rw [stHi, if_neg (by omega)]; split <;> omega
        refine ol_r (r_move rfl) rfl ?_
        refine ol_r (r_move rfl) rfl ?_
        refine ol_r (r_move rfl) rfl ?_
        refine ol_r (r_move rfl) rfl ?_
        refine ol_call rfl rfl cb92 rfl (fun w1 hb1 hs1 hB1 => ?_)
        refine Calls.mono (ref5_column B _ b D1 _ _ _ _ _ E2 E9 E10 E11 hB1 (by omega) (by omega) (hs1.sub (by repeat' first | exact subH_nil | refine subH_same rfl ?_))) ?_
        rintro e w2 ⟨rfl, hbw, hs2, hB2, hkd2⟩
        refine After.sat rfl hb1 hbw hs2 hB2 hkd2 ?_
        clear hkd2 hB2 hs2 hbw hB1 hs1 hb1 w2 w1
        refine ol_nil (to_k0 (fun _ _ h => h) (hK11 _ _ _ _ _ ?_))
        clear hK11
        refine wp_reg ?_
        refine ol_r (r_move rfl) rfl ?_
        refine ol_r (r_add rfl rfl (by omega)) rfl ?_
        refine ol_r (r_assign rfl) rfl ?_
        refine ol_nil (to_k0 (fun _ _ h => h) (hK8 ((c + 1, capC D1 (colT c (stLo px py qx qy side c) (stHi px py qx qy side c)))) _ _ ?_ ?_ (sub_cons rfl sub_nil) (sub_cons rfl (sub_cons rfl (sub_cons rfl (sub_cons rfl (sub_cons rfl (sub_cons rfl (sub_cons rfl sub_nil))))))) (by exact (subH_same rfl subH_nil)) (subH_same rfl (subH_same rfl (subH_same rfl (subH_same rfl (subH_same rfl (subH_same rfl subH_nil))))))))
        ·try dsimp only
         refine ⟨by omega, by omega, ?_⟩
         rw [colsT_cons (by omega), capC_app] at hP
         exact hP
        ·try dsimp only
         omega
     ·refine wp_exit' (hQ.fall rvs0 (fun _ _ h => h) fun w hb hs hB hkd => ?_)
      have he : D1 = capC D (eastT px py qx qy side) := by
        rw [← hP]
        first
        | (rw [colsT_nil (by omega)]; rfl)
        | (rw [capC_stop (by omega)])
      exact ⟨rfl, hb, by rw [← he]; exact hs.sub (by repeat' first | exact subH_nil | refine subH_same rfl ?_), hB, hkd⟩
    ·have phs60 := hs60; try simp only [decide_eq_true_eq, decide_eq_false_iff_not, Bool.not_eq_true', Bool.not_eq_false', Bool.not_true, Bool.not_false] at phs60
     refine ol_s rfl rfl hs60 rfl ?_
     refine ol_s rfl rfl hs60 rfl ?_
     refine ol_s rfl rfl hs60 rfl ?_
     refine ol_r (r_pickF rfl hs60 rfl) rfl ?_
     refine ol_nil (to_k0 (fun _ _ h => h) (hK10 _ _ _ _ _ ?_))
     clear hK10
     refine wp_condF rfl ?_
     refine wp_exit' (hQ.fall rvs0 (fun _ _ h => h) fun w hb hs hB hkd => ?_)
     have he : D1 = capC D (eastT px py qx qy side) := by
       rw [← hP]
       first
       | (rw [colsT_nil (by omega)]; rfl)
       | (rw [capC_stop (by omega)])
     exact ⟨rfl, hb, by rw [← he]; exact hs.sub (by repeat' first | exact subH_nil | refine subH_same rfl ?_), hB, hkd⟩
end Go.Proofs.Ytjflbnbofedlkaa

/-
  The tiles of a step, by the program.
-/

namespace Go.Proofs.Ytjflbnbofedlkaa
open Go Go.RowKit Hx
set_option linter.unusedVariables false
set_option linter.unusedSimpArgs false
set_option maxRecDepth 8000
abbrev vH (E2 E3 E4 E5 E8 E9 E1 : Ent) (b7 b : Nat) (D : TM) : HL := [(202, E2), (203, E3), (204, E4), (205, E5), (208, E8), (209, E9), (1201, E1), (207, .blk b7 [(0, .map (some b))] 54), (219, eMap b D)]
theorem match_seen (B : Nat) (w : World) (C : Nat → Prop) (b7 b : Nat) (D : TM) (t : TileR) (F4 F5 E2 E3 E4 E5 E8 E9 E1 : Ent) (hB0 : B ≤ w.heap.size) (hC : C b) (hl : D.length ≤ 100000)
    (hs0 : Sat B w ((4, F4) :: (5, F5) :: vH E2 E3 E4 E5 E8 E9 E1 b7 b D)) :
    Calls Try.prog 58 #[encTile.val t, .pointer (some ⟨b7, 0, none⟩)] w fun e w' => e = .returned (.bool (decide ((pS D t true).length ≤ 100000))) ∧ Below B w w' ∧ Sat B w' ((4, F4) :: (5, F5) :: vH E2 E3 E4 E5 E8 E9 E1 b7 b (pS D t true)) ∧ B ≤ w'.heap.size ∧ Kd C w w' := by
  have hpl := (pS_len D t).2
  refine enterQ (N := 9) (C := C) (H := (4, F4) :: (5, F5) :: vH E2 E3 E4 E5 E8 E9 E1 b7 b D) (B := B) (args := [_, _]) Try.func58 rfl rfl rfl (hB0) (hs0) fun Q hQ => ?_
  refine wp_seq' fun K1 hK1 => ?_
  refine wp_reg ?_
  refine ol_box 2 rfl rfl rfl fun b2 => ?_
  refine ol_r (r_assign rfl) rfl ?_
  refine ol_nil (to_k0 (fun _ _ h => h) (hK1 _ _ _ _ _ ?_))
  clear hK1
  refine wp_seq' fun K2 hK2 => ?_
  refine wp_reg ?_
  refine ol_r (r_ld (id := 207) rfl rfl rfl sc54) rfl ?_
  refine ol_r (r_lda (id := 2) (n := 2) rfl rfl rfl ag42) rfl ?_
  refine ol_mapset (K := encTile.val) (V := Value.bool) (z := false) (k := t) (id := 219) rfl rfl rfl rfl mk54 hC ?_
  refine ol_nil (to_k0 (fun _ _ h => h) (hK2 _ _ _ _ _ ?_))
  clear hK2
  refine wp_seq' fun K3 hK3 => ?_
  refine wp_reg ?_
  refine ol_r (r_ld (id := 207) rfl rfl rfl sc54) rfl ?_
  refine ol_r (r_mlen (K := encTile.val) (V := Value.bool) (z := false) (id := 219) rfl rfl mk54) rfl ?_
  refine ol_r (r_leq rfl rfl) rfl ?_
  refine ol_r (r_assign rfl) rfl ?_
  refine ol_nil (to_k0 (fun _ _ h => h) (hK3 _ _ _ _ _ ?_))
  clear hK3
  refine hQ.ret (rvs1 (rv_t rfl)) (fun _ _ h => h) fun w hb hs hB hkd => ?_
  refine ⟨?_, hb, hs.sub (by repeat' first | exact subH_nil | refine subH_same rfl ?_), hB, hkd⟩
  first
  | rfl
  | (congr 3; exact propext (by omega))
theorem match_visit (B : Nat) (w : World) (C : Nat → Prop) (b7 b : Nat) (D : TM) (px py qx qy side : Int) (E2 E3 E4 E5 E8 E9 E1 : Ent) (hB0 : B ≤ w.heap.size) (hC : C b) (hl : D.length ≤ 100000)
    (hst0 : if px > qx then StB qx qy px py side else StB px py qx qy side)
    (hs0 : Sat B w (vH E2 E3 E4 E5 E8 E9 E1 b7 b D)) :
    Calls Try.prog 57 #[.agg #[.int .i64 px, .int .i64 py], .agg #[.int .i64 qx, .int .i64 qy], .int .i64 side, .func (.func 58) #[] #[.pointer (some ⟨b7, 0, none⟩)]] w fun e w' =>
      e = .returned (.bool (decide ((capC D (stepT px py qx qy side)).length ≤ 100000))) ∧ Below B w w' ∧ Sat B w' (vH E2 E3 E4 E5 E8 E9 E1 b7 b (capC D (stepT px py qx qy side))) ∧ B ≤ w'.heap.size ∧ Kd C w w' := by
  obtain ⟨T, hT⟩ : ∃ T, T = capC D (stepT px py qx qy side) := ⟨_, rfl⟩
  rw [← hT]
  refine enterQ (N := 151) (C := C) (H := vH E2 E3 E4 E5 E8 E9 E1 b7 b D) (B := B) (args := [_, _, _, _]) Try.func57 rfl rfl rfl (hB0) (hs0) fun Q hQ => ?_
  refine wp_seq' fun K1 hK1 => ?_
  refine wp_reg ?_
  refine ol_box 4 rfl rfl rfl fun b4 => ?_
  refine ol_box 5 rfl rfl rfl fun b5 => ?_
  refine ol_r (r_assign rfl) rfl ?_
  refine ol_nil (to_k0 (fun _ _ h => h) (hK1 _ _ _ _ _ ?_))
  clear hK1
  apply wp_seq_cutM (σ := Int × Int × Int × Int) (fun s => StB s.1 s.2.1 s.2.2.1 s.2.2.2 side ∧ T = capC D (eastT s.1 s.2.1 s.2.2.1 s.2.2.2 side)) (fun s => []) [(2, _), (3, _), (4, _), (5, _), (8, _)] (fun s => [(4, .blk b4 [(0, .int .i64 s.1), (1, .int .i64 s.2.1)] 41), (5, .blk b5 [(0, .int .i64 s.2.2.1), (1, .int .i64 s.2.2.2)] 41)]) [(202, _), (203, _), (204, _), (205, _), (207, _), (208, _), (209, _), (219, _), (1201, _)]
  ·exact (sub_cons rfl (sub_cons rfl (sub_cons rfl (sub_cons rfl (sub_cons rfl sub_nil)))))
  ·exact (subH_same rfl (subH_same rfl (subH_same rfl (subH_same rfl (subH_same rfl (subH_same rfl (subH_same rfl (subH_same rfl (subH_same rfl subH_nil)))))))))
  ·intro K2 hK2
   refine wp_seq' fun K3 hK3 => ?_
   refine wp_reg ?_
   refine ol_r (r_fa (o' := 0) rfl fl41_0 rfl) rfl ?_
   refine ol_r (r_ld (id := 4) rfl rfl rfl sc3) rfl ?_
   refine ol_r (r_fa (o' := 0) rfl fl41_0 rfl) rfl ?_
   refine ol_r (r_ld (id := 5) rfl rfl rfl sc3) rfl ?_
   refine ol_r (r_gtr rfl rfl) rfl ?_
   refine ol_nil (to_k0 (fun _ _ h => h) (hK3 _ _ _ _ _ ?_))
   clear hK3
   first | refine wp_condD rfl (fun hc27 => ?_) (fun hc27 => ?_) | refine wp_condN rfl (fun hc27 => ?_) (fun hc27 => ?_) | refine wp_condNB rfl (fun hc27 => ?_) (fun hc27 => ?_) | refine wp_cond' rfl (fun hc27 => ?_) (fun hc27 => ?_)
   ·refine wp_reg ?_
    refine ol_r (r_lda (id := 5) (n := 2) rfl rfl rfl ag41) rfl ?_
    refine ol_r (r_lda (id := 4) (n := 2) rfl rfl rfl ag41) rfl ?_
    refine ol_store (id := 4) rfl rfl rfl rfl sz41 rfl rfl (by first | decide | exact Nat.zero_lt_succ _ | simp) ?_
    refine ol_store (id := 5) rfl rfl rfl rfl sz41 rfl rfl (by first | decide | exact Nat.zero_lt_succ _ | simp) ?_
    refine ol_nil (to_k0 (fun _ _ h => h) (hK2 ((_, _, _, _)) _ _ ?_ sub_nil (sub_cons rfl (sub_cons rfl (sub_cons rfl (sub_cons rfl (sub_cons rfl sub_nil))))) (subH_blk rfl (by repeat' first | exact sub_nil | refine sub_cons rfl ?_) (subH_blk rfl (by repeat' first | exact sub_nil | refine sub_cons rfl ?_) subH_nil)) (subH_same rfl (subH_same rfl (subH_same rfl (subH_same rfl (subH_same rfl (subH_same rfl (subH_same rfl (subH_same rfl (subH_same rfl subH_nil)))))))))))
    try dsimp only
    first
    | exact ⟨by rw [if_pos (by omega)] at hst0; exact hst0, by rw [hT, stepT, if_pos (by omega)]⟩
    | exact ⟨by rw [if_neg (by omega)] at hst0; exact hst0, by rw [hT, stepT, if_neg (by omega)]⟩
   ·refine wp_skip' (to_k0 (fun _ _ h => h) (hK2 ((_, _, _, _)) _ _ ?_ sub_nil (sub_cons rfl (sub_cons rfl (sub_cons rfl (sub_cons rfl (sub_cons rfl sub_nil))))) (subH_blk rfl (by repeat' first | exact sub_nil | refine sub_cons rfl ?_) (subH_blk rfl (by repeat' first | exact sub_nil | refine sub_cons rfl ?_) subH_nil)) (subH_same rfl (subH_same rfl (subH_same rfl (subH_same rfl (subH_same rfl (subH_same rfl (subH_same rfl (subH_same rfl (subH_same rfl subH_nil)))))))))))
    try dsimp only
    first
    | exact ⟨by rw [if_pos (by omega)] at hst0; exact hst0, by rw [hT, stepT, if_pos (by omega)]⟩
    | exact ⟨by rw [if_neg (by omega)] at hst0; exact hst0, by rw [hT, stepT, if_neg (by omega)]⟩
  ·rintro ⟨px, py, qx, qy⟩ ⟨hst, hE⟩
   dsimp only at hst hE ⊢
   have hpx := hst.bpx; have hpy := hst.bpy; have hqx := hst.bqx; have hqy := hst.bqy; have hsd := hst.bs; have hle := hst.le
   have hf1 := flo_bd (a := px) (b := side) (by omega) (N := 100000000) (by omega)
   have hf2 := flo_bd (a := qx) (b := side) (by omega) (N := 100000000) (by omega)
   have hf3 := flo_bd (a := min py qy) (b := side) (by omega) (N := 100000000) (by omega)
   have hf4 := flo_bd (a := max py qy) (b := side) (by omega) (N := 100000000) (by omega)
   refine wp_seq' fun K4 hK4 => ?_
   refine wp_regq (by kernel_rfl) (by kernel_rfl) ?_
   refine ql_r (r_fa (o' := 0) rfl fl41_0 rfl) rfl ?_
   refine ql_r (r_ld (id := 5) rfl rfl rfl sc3) rfl ?_
   refine ql_r (r_fa (o' := 0) rfl fl41_0 rfl) rfl ?_
   refine ql_r (r_ld (id := 4) rfl rfl rfl sc3) rfl ?_
   refine ql_r (r_sub rfl rfl (by omega)) rfl ?_
   refine ql_r (r_fa (o' := 1) rfl fl41_1 rfl) rfl ?_
   refine ql_r (r_ld (id := 5) rfl rfl rfl sc3) rfl ?_
   refine ql_r (r_fa (o' := 1) rfl fl41_1 rfl) rfl ?_
   refine ql_r (r_ld (id := 4) rfl rfl rfl sc3) rfl ?_
   refine ql_r (r_sub rfl rfl (by omega)) rfl ?_
   refine ql_r (r_assign rfl) rfl ?_
   refine ql_r (r_assign rfl) rfl ?_
   refine ql_nil (to_k0 (fun _ _ h => h) (hK4 _ _ _ _ _ ?_))
   clear hK4
   refine wp_seq' fun K5 hK5 => ?_
   refine wp_seq' fun K6 hK6 => ?_
   refine wp_reg ?_
   refine ol_r (r_fa (o' := 0) rfl fl41_0 rfl) rfl ?_
   refine ol_r (r_ld (id := 4) rfl rfl rfl sc3) rfl ?_
   refine ol_r (r_move rfl) rfl ?_
   refine ol_call rfl rfl cb82 rfl (fun w1 hb1 hs1 hB1 => Calls.mono (match_floor _ _ _ (by omega) (by omega)) ?_)
   rintro e w2 ⟨rfl, hb2⟩
   refine After.below rfl hb1 hs1 hB1 hb2 ?_
   clear hb2 hB1 hs1 hb1 w2 w1
   refine ol_r (r_assign rfl) rfl ?_
   refine ol_nil (to_k0 (fun _ _ h => h) (hK6 _ _ _ _ _ ?_))
   clear hK6
   refine wp_block' ?_
   apply wp_loopM (σ := Int × TM) (fun s => px / side ≤ s.1 ∧ s.1 ≤ qx / side + 1 ∧ s.2.length ≤ 100000 ∧ capC s.2 (colsT px py qx qy side s.1) = T) (fun s => [(11, .int .i64 s.1)]) [(2, _), (3, _), (4, _), (5, _), (9, _), (10, _)] (fun s => [(219, .ob b (MapO (pEnc encTile.val Value.bool s.2)))]) [(4, _), (5, _), (202, _), (203, _), (204, _), (205, _), (207, _), (208, _), (209, _), (1201, _)] (fun s => (qx / side + 1 - s.1).toNat) ((px / side, D))
   ·try dsimp only
    exact ⟨Int.le_refl _, by have := Int.ediv_le_ediv (show 0 < side by omega) hle; omega, hl, hE.symm⟩
   ·exact (sub_cons rfl sub_nil)
   ·exact (sub_cons rfl (sub_cons rfl (sub_cons rfl (sub_cons rfl (sub_cons rfl (sub_cons rfl sub_nil))))))
   ·exact (subH_same rfl subH_nil)
   ·exact (subH_same rfl (subH_same rfl (subH_same rfl (subH_same rfl (subH_same rfl (subH_same rfl (subH_same rfl (subH_same rfl (subH_same rfl (subH_same rfl subH_nil))))))))))
   ·rintro ⟨c, D1⟩ ⟨h1, h2, hl1, hP⟩
    dsimp only at h1 h2 hl1 hP ⊢
    intro K7 hK7
    refine wp_seq' fun K8 hK8 => ?_
    refine wp_seq' fun K9 hK9 => ?_
    refine wp_reg ?_
    refine ol_r (r_move rfl) rfl ?_
    refine ol_r (r_fa (o' := 0) rfl fl41_0 rfl) rfl ?_
    refine ol_r (r_ld (id := 5) rfl rfl rfl sc3) rfl ?_
    refine ol_r (r_move rfl) rfl ?_
    refine ol_call rfl rfl cb82 rfl (fun w1 hb1 hs1 hB1 => Calls.mono (match_floor _ _ _ (by omega) (by omega)) ?_)
    rintro e w2 ⟨rfl, hb2⟩
    refine After.below rfl hb1 hs1 hB1 hb2 ?_
    clear hb2 hB1 hs1 hb1 w2 w1
    refine ol_r (r_leq rfl rfl) rfl ?_
    refine ol_nil (to_k0 (fun _ _ h => h) (hK9 _ _ _ _ _ ?_))
    clear hK9
    first | refine wp_condD rfl (fun hc49 => ?_) (fun hc49 => ?_) | refine wp_condN rfl (fun hc49 => ?_) (fun hc49 => ?_) | refine wp_condNB rfl (fun hc49 => ?_) (fun hc49 => ?_) | refine wp_cond' rfl (fun hc49 => ?_) (fun hc49 => ?_)
    ·refine wp_skip' (to_k0 (fun _ _ h => h) (hK8 _ _ _ _ _ ?_))
     clear hK8
     refine wp_seq' fun K10 hK10 => ?_
     refine wp_block' ?_
     refine wp_seq' fun K11 hK11 => ?_
     refine wp_regq (by kernel_rfl) (by kernel_rfl) ?_
     have hcol := hst.col (c := c) h1 (by omega)
     obtain ⟨k1, k2, k3, k4, k5, k6⟩ := hst.all (c := c) h1 (by omega)
     obtain ⟨k7, k8⟩ := stMul hst (c := c) h1 (by omega)
     obtain ⟨k9, k10⟩ := stBds hst (c := c) h1 (by omega)
     refine ql_r (r_fa (o' := 1) rfl fl41_1 rfl) rfl ?_
     refine ql_r (r_ld (id := 4) rfl rfl rfl sc3) rfl ?_
     refine ql_r (r_fa (o' := 1) rfl fl41_1 rfl) rfl ?_
     refine ql_r (r_ld (id := 5) rfl rfl rfl sc3) rfl ?_
     refine ql_r (r_min rfl rfl) rfl ?_
     refine ql_r (r_fa (o' := 1) rfl fl41_1 rfl) rfl ?_
     refine ql_r (r_ld (id := 4) rfl rfl rfl sc3) rfl ?_
     refine ql_r (r_fa (o' := 1) rfl fl41_1 rfl) rfl ?_
     refine ql_r (r_ld (id := 5) rfl rfl rfl sc3) rfl ?_
     refine ql_r (r_max rfl rfl) rfl ?_
     refine ql_r (r_assign rfl) rfl ?_
     refine ql_r (r_assign rfl) rfl ?_
     refine ql_nil (to_k0 (fun _ _ h => h) (hK11 _ _ _ _ _ ?_))
     clear hK11
     refine wp_seq' fun K12 hK12 => ?_
     refine wp_reg ?_
     refine ol_r (r_move rfl) rfl ?_
     refine ol_r (r_move rfl) rfl ?_
     refine ol_call rfl rfl cb82 rfl (fun w1 hb1 hs1 hB1 => Calls.mono (match_floor _ _ _ (by omega) (by omega)) ?_)
     rintro e w2 ⟨rfl, hb2⟩
     refine After.below rfl hb1 hs1 hB1 hb2 ?_
     clear hb2 hB1 hs1 hb1 w2 w1
     refine ol_r (r_move rfl) rfl ?_
     refine ol_r (r_move rfl) rfl ?_
     refine ol_call rfl rfl cb82 rfl (fun w1 hb1 hs1 hB1 => Calls.mono (match_floor _ _ _ (by omega) (by omega)) ?_)
     rintro e w2 ⟨rfl, hb2⟩
     refine After.below rfl hb1 hs1 hB1 hb2 ?_
     clear hb2 hB1 hs1 hb1 w2 w1
     refine ol_r (r_assign rfl) rfl ?_
     refine ol_r (r_assign rfl) rfl ?_
     refine ol_nil (to_k0 (fun _ _ h => h) (hK12 _ _ _ _ _ ?_))
     clear hK12
     apply wp_seq_cutM (σ := Unit) (fun s => True) (fun s => [(14, .int .i64 (stLo px py qx qy side c)), (15, .int .i64 (stHi px py qx qy side c))]) [(2, _), (3, _), (4, _), (5, _), (9, _), (10, _), (11, _)] (fun s => []) [(4, _), (5, _), (202, _), (203, _), (204, _), (205, _), (207, _), (208, _), (209, _), (219, _), (1201, _)]
     ·exact (sub_cons rfl (sub_cons rfl (sub_cons rfl (sub_cons rfl (sub_cons rfl (sub_cons rfl (sub_cons rfl sub_nil)))))))
     ·exact (subH_same rfl (subH_same rfl (subH_same rfl (subH_same rfl (subH_same rfl (subH_same rfl (subH_same rfl (subH_same rfl (subH_same rfl (subH_same rfl (subH_same rfl subH_nil)))))))))))
     ·intro K13 hK13
      refine wp_seq' fun K14 hK14 => ?_
      refine wp_reg ?_
      refine ol_r (r_move rfl) rfl ?_
      refine ol_r (r_gtr rfl rfl) rfl ?_
      refine ol_nil (to_k0 (fun _ _ h => h) (hK14 _ _ _ _ _ ?_))
      clear hK14
      first | refine wp_condD rfl (fun hc69 => ?_) (fun hc69 => ?_) | refine wp_condN rfl (fun hc69 => ?_) (fun hc69 => ?_) | refine wp_condNB rfl (fun hc69 => ?_) (fun hc69 => ?_) | refine wp_cond' rfl (fun hc69 => ?_) (fun hc69 => ?_)
      ·refine wp_seq' fun K15 hK15 => ?_
       refine wp_reg ?_
       have hm := k6 (by omega)
       have k11 := flo_bd (a := -(py * (qx - px) + (min qx ((c + 1) * side) - px) * (qy - py))) hm (N := 64000000000000000) (by omega)
       refine ol_r (r_fa (o' := 0) rfl fl41_0 rfl) rfl ?_
       refine ol_r (r_ld (id := 4) rfl rfl rfl sc3) rfl ?_
       refine ol_r (r_move rfl) rfl ?_
       refine ol_r (r_move rfl) rfl ?_
       refine ol_r (r_mul rfl rfl (by omega)) rfl ?_
       refine ol_r (r_max rfl rfl) rfl ?_
       refine ol_r (r_move rfl) rfl ?_
       refine ol_r (r_add rfl rfl (by omega)) rfl ?_
       refine ol_r (r_move rfl) rfl ?_
       refine ol_r (r_mul rfl rfl (by omega)) rfl ?_
       refine ol_r (r_assign rfl) rfl ?_
       refine ol_r (r_assign rfl) rfl ?_
       refine ol_nil (to_k0 (fun _ _ h => h) (hK15 _ _ _ _ _ ?_))
       clear hK15
       refine wp_seq' fun K16 hK16 => ?_
       refine wp_reg ?_
       refine ol_r (r_fa (o' := 0) rfl fl41_0 rfl) rfl ?_
       refine ol_r (r_ld (id := 5) rfl rfl rfl sc3) rfl ?_
       refine ol_r (r_move rfl) rfl ?_
       refine ol_r (r_geq rfl rfl) rfl ?_
       refine ol_r (r_assign rfl) rfl ?_
       refine ol_nil (to_k0 (fun _ _ h => h) (hK16 _ _ _ _ _ ?_))
       clear hK16
       refine wp_seq' fun K17 hK17 => ?_
       refine wp_reg ?_
       refine ol_r (r_fa (o' := 0) rfl fl41_0 rfl) rfl ?_
       refine ol_r (r_ld (id := 5) rfl rfl rfl sc3) rfl ?_
       refine ol_r (r_move rfl) rfl ?_
       refine ol_r (r_min rfl rfl) rfl ?_
       refine ol_r (r_assign rfl) rfl ?_
       refine ol_nil (to_k0 (fun _ _ h => h) (hK17 _ _ _ _ _ ?_))
       clear hK17
       refine wp_seq' fun K18 hK18 => ?_
       refine wp_regq (by kernel_rfl) (by kernel_rfl) ?_
       refine ql_r (r_fa (o' := 1) rfl fl41_1 rfl) rfl ?_
       refine ql_r (r_ld (id := 4) rfl rfl rfl sc3) rfl ?_
       refine ql_r (r_move rfl) rfl ?_
       refine ql_r (r_mul rfl rfl (by omega)) rfl ?_
       refine ql_r (r_move rfl) rfl ?_
       refine ql_r (r_fa (o' := 0) rfl fl41_0 rfl) rfl ?_
       refine ql_r (r_ld (id := 4) rfl rfl rfl sc3) rfl ?_
       refine ql_r (r_sub rfl rfl (by omega)) rfl ?_
       refine ql_r (r_move rfl) rfl ?_
       refine ql_r (r_mul rfl rfl (by omega)) rfl ?_
       refine ql_r (r_add rfl rfl (by omega)) rfl ?_
       refine ql_r (r_fa (o' := 1) rfl fl41_1 rfl) rfl ?_
       refine ql_r (r_ld (id := 4) rfl rfl rfl sc3) rfl ?_
       refine ql_r (r_move rfl) rfl ?_
       refine ql_r (r_mul rfl rfl (by omega)) rfl ?_
       refine ql_r (r_move rfl) rfl ?_
       refine ql_r (r_fa (o' := 0) rfl fl41_0 rfl) rfl ?_
       refine ql_r (r_ld (id := 4) rfl rfl rfl sc3) rfl ?_
       refine ql_r (r_sub rfl rfl (by omega)) rfl ?_
       refine ql_r (r_move rfl) rfl ?_
       refine ql_r (r_mul rfl rfl (by omega)) rfl ?_
       refine ql_r (r_add rfl rfl (by omega)) rfl ?_
       refine ql_r (r_assign rfl) rfl ?_
       refine ql_r (r_assign rfl) rfl ?_
       refine ql_nil (to_k0 (fun _ _ h => h) (hK18 _ _ _ _ _ ?_))
       clear hK18
       refine wp_seq' fun K19 hK19 => ?_
       refine wp_reg ?_
       refine ol_r (r_move rfl) rfl ?_
       refine ol_r (r_move rfl) rfl ?_
       refine ol_r (r_min rfl rfl) rfl ?_
       refine ol_r (r_move rfl) rfl ?_
       refine ol_r (r_move rfl) rfl ?_
       refine ol_r (r_mul rfl rfl (by omega)) rfl ?_
       refine ol_call rfl rfl cb82 rfl (fun w1 hb1 hs1 hB1 => Calls.mono (match_floor _ _ _ (by omega) (by omega)) ?_)
       rintro e w2 ⟨rfl, hb2⟩
       refine After.below rfl hb1 hs1 hB1 hb2 ?_
       clear hb2 hB1 hs1 hb1 w2 w1
       refine ol_r (r_move rfl) rfl ?_
       refine ol_r (r_move rfl) rfl ?_
       refine ol_r (r_max rfl rfl) rfl ?_
       refine ol_r (r_move rfl) rfl ?_
       refine ol_r (r_move rfl) rfl ?_
       refine ol_r (r_mul rfl rfl (by omega)) rfl ?_
       refine ol_call rfl rfl cb82 rfl (fun w1 hb1 hs1 hB1 => Calls.mono (match_floor _ _ _ (by omega) (by omega)) ?_)
       rintro e w2 ⟨rfl, hb2⟩
       refine After.below rfl hb1 hs1 hB1 hb2 ?_
       clear hb2 hB1 hs1 hb1 w2 w1
       refine ol_r (r_assign rfl) rfl ?_
       refine ol_r (r_assign rfl) rfl ?_
       refine ol_nil (to_k0 (fun _ _ h => h) (hK19 _ _ _ _ _ ?_))
       clear hK19
       refine wp_seq' fun K20 hK20 => ?_
       refine wp_reg ?_
       refine ol_r (r_move rfl) rfl ?_
       refine ol_r (r_move rfl) rfl ?_
       refine ol_split (d := 125) rfl (fun hs125 => ?_) (fun hs125 => ?_)
       ·have phs125 := hs125; try simp only [decide_eq_true_eq, decide_eq_false_iff_not, Bool.not_eq_true', Bool.not_eq_false', Bool.not_true, Bool.not_false] at phs125
        refine ol_g rfl rfl hs125 ?_
        refine ol_r (r_move rfl) rfl ?_
        refine ol_g rfl rfl hs125 ?_
        refine ol_r (r_gtr rfl rfl) rfl ?_
        refine ol_r (r_pickT rfl hs125 rfl) rfl ?_
        refine ol_nil (to_k0 (fun _ _ h => h) (hK20 _ _ _ _ _ ?_))
        clear hK20
        first | refine wp_condD rfl (fun hc128 => ?_) (fun hc128 => ?_) | refine wp_condN rfl (fun hc128 => ?_) (fun hc128 => ?_) | refine wp_condNB rfl (fun hc128 => ?_) (fun hc128 => ?_) | refine wp_cond' rfl (fun hc128 => ?_) (fun hc128 => ?_)
        ·refine wp_reg ?_
         refine ol_r (r_move rfl) rfl ?_
         refine ol_r (r_move rfl) rfl ?_
         refine ol_r (r_neg rfl (by omega)) rfl ?_
         refine ol_r (r_move rfl) rfl ?_
         refine ol_r (r_move rfl) rfl ?_
         refine ol_r (r_mul rfl rfl (by omega)) rfl ?_
         refine ol_call rfl rfl cb82 rfl (fun w1 hb1 hs1 hB1 => Calls.mono (match_floor _ _ _ (by omega) (by omega)) ?_)
         rintro e w2 ⟨rfl, hb2⟩
         refine After.below rfl hb1 hs1 hB1 hb2 ?_
         clear hb2 hB1 hs1 hb1 w2 w1
         refine ol_r (r_neg rfl (by omega)) rfl ?_
         refine ol_r (r_sub rfl rfl (by omega)) rfl ?_
         refine ol_r (r_max rfl rfl) rfl ?_
         refine ol_r (r_assign rfl) rfl ?_
         refine ol_nil (to_k0 (fun _ _ h => h) (hK13 (()) _ _ ?_ (sub_cons (by first | rfl | (first | (rw [(stLo_flat (c := c) hc69 hle).1]; rfl) | (rw [(stLo_flat (c := c) hc69 hle).2]; rfl) | (rw [(stLo_is hc69 (by omega)).1]; rfl) | (rw [stHi_ends hst h1 (by omega) hc69 (by omega) (by omega)]; rfl) | (rw [stHi_else hst hc69 (by omega)]; rfl))) (sub_cons (by first | rfl | (first | (rw [(stLo_flat (c := c) hc69 hle).1]; rfl) | (rw [(stLo_flat (c := c) hc69 hle).2]; rfl) | (rw [(stLo_is hc69 (by omega)).1]; rfl) | (rw [stHi_ends hst h1 (by omega) hc69 (by omega) (by omega)]; rfl) | (rw [stHi_else hst hc69 (by omega)]; rfl))) sub_nil)) (sub_cons rfl (sub_cons rfl (sub_cons rfl (sub_cons rfl (sub_cons rfl (sub_cons rfl (sub_cons rfl sub_nil))))))) subH_nil (subH_same rfl (subH_same rfl (subH_same rfl (subH_same rfl (subH_same rfl (subH_same rfl (subH_same rfl (subH_same rfl (subH_same rfl (subH_same rfl (subH_same rfl subH_nil)))))))))))))
         try dsimp only
         all_goals trivial
        ·refine wp_skip' (to_k0 (fun _ _ h => h) (hK13 (()) _ _ ?_ (sub_cons (by first | rfl | (first | (rw [(stLo_flat (c := c) hc69 hle).1]; rfl) | (rw [(stLo_flat (c := c) hc69 hle).2]; rfl) | (rw [(stLo_is hc69 (by omega)).1]; rfl) | (rw [stHi_ends hst h1 (by omega) hc69 (by omega) (by omega)]; rfl) | (rw [stHi_else hst hc69 (by omega)]; rfl))) (sub_cons (by first | rfl | (first | (rw [(stLo_flat (c := c) hc69 hle).1]; rfl) | (rw [(stLo_flat (c := c) hc69 hle).2]; rfl) | (rw [(stLo_is hc69 (by omega)).1]; rfl) | (rw [stHi_ends hst h1 (by omega) hc69 (by omega) (by omega)]; rfl) | (rw [stHi_else hst hc69 (by omega)]; rfl))) sub_nil)) (sub_cons rfl (sub_cons rfl (sub_cons rfl (sub_cons rfl (sub_cons rfl (sub_cons rfl (sub_cons rfl sub_nil))))))) subH_nil (subH_same rfl (subH_same rfl (subH_same rfl (subH_same rfl (subH_same rfl (subH_same rfl (subH_same rfl (subH_same rfl (subH_same rfl (subH_same rfl (subH_same rfl subH_nil)))))))))))))
         try dsimp only
         all_goals trivial
       ·have phs125 := hs125; try simp only [decide_eq_true_eq, decide_eq_false_iff_not, Bool.not_eq_true', Bool.not_eq_false', Bool.not_true, Bool.not_false] at phs125
        refine ol_s rfl rfl hs125 rfl ?_
        refine ol_s rfl rfl hs125 rfl ?_
        refine ol_r (r_pickF rfl hs125 rfl) rfl ?_
        refine ol_nil (to_k0 (fun _ _ h => h) (hK20 _ _ _ _ _ ?_))
        clear hK20
        refine wp_condF rfl ?_
        refine wp_skip' (to_k0 (fun _ _ h => h) (hK13 (()) _ _ ?_ (sub_cons (by first | rfl | (first | (rw [(stLo_flat (c := c) hc69 hle).1]; rfl) | (rw [(stLo_flat (c := c) hc69 hle).2]; rfl) | (rw [(stLo_is hc69 (by omega)).1]; rfl) | (rw [stHi_ends hst h1 (by omega) hc69 (by omega) (by omega)]; rfl) | (rw [stHi_else hst hc69 (by omega)]; rfl))) (sub_cons (by first | rfl | (first | (rw [(stLo_flat (c := c) hc69 hle).1]; rfl) | (rw [(stLo_flat (c := c) hc69 hle).2]; rfl) | (rw [(stLo_is hc69 (by omega)).1]; rfl) | (rw [stHi_ends hst h1 (by omega) hc69 (by omega) (by omega)]; rfl) | (rw [stHi_else hst hc69 (by omega)]; rfl))) sub_nil)) (sub_cons rfl (sub_cons rfl (sub_cons rfl (sub_cons rfl (sub_cons rfl (sub_cons rfl (sub_cons rfl sub_nil))))))) subH_nil (subH_same rfl (subH_same rfl (subH_same rfl (subH_same rfl (subH_same rfl (subH_same rfl (subH_same rfl (subH_same rfl (subH_same rfl (subH_same rfl (subH_same rfl subH_nil)))))))))))))
        try dsimp only
        all_goals trivial
      ·refine wp_skip' (to_k0 (fun _ _ h => h) (hK13 (()) _ _ ?_ (sub_cons (by first | rfl | (first | (rw [(stLo_flat (c := c) hc69 hle).1]; rfl) | (rw [(stLo_flat (c := c) hc69 hle).2]; rfl) | (rw [(stLo_is hc69 (by omega)).1]; rfl) | (rw [stHi_ends hst h1 (by omega) hc69 (by omega) (by omega)]; rfl) | (rw [stHi_else hst hc69 (by omega)]; rfl))) (sub_cons (by first | rfl | (first | (rw [(stLo_flat (c := c) hc69 hle).1]; rfl) | (rw [(stLo_flat (c := c) hc69 hle).2]; rfl) | (rw [(stLo_is hc69 (by omega)).1]; rfl) | (rw [stHi_ends hst h1 (by omega) hc69 (by omega) (by omega)]; rfl) | (rw [stHi_else hst hc69 (by omega)]; rfl))) sub_nil)) (sub_cons rfl (sub_cons rfl (sub_cons rfl (sub_cons rfl (sub_cons rfl (sub_cons rfl (sub_cons rfl sub_nil))))))) subH_nil (subH_same rfl (subH_same rfl (subH_same rfl (subH_same rfl (subH_same rfl (subH_same rfl (subH_same rfl (subH_same rfl (subH_same rfl (subH_same rfl (subH_same rfl subH_nil)))))))))))))
       try dsimp only
       all_goals trivial
     ·rintro s hI
      refine wp_seq' fun K21 hK21 => ?_
      refine wp_reg ?_
      refine ol_r (r_move rfl) rfl ?_
      refine ol_r (r_assign rfl) rfl ?_
      refine ol_nil (to_k0 (fun _ _ h => h) (hK21 _ _ _ _ _ ?_))
      clear hK21
      refine wp_block' ?_
      apply wp_loopM (σ := Int × TM) (fun s => stLo px py qx qy side c ≤ s.1 ∧ s.1 ≤ max (stLo px py qx qy side c) (stHi px py qx qy side c + 1) ∧ s.2.length ≤ 100000 ∧ capC s.2 (colT c s.1 (stHi px py qx qy side c)) = capC D1 (colT c (stLo px py qx qy side c) (stHi px py qx qy side c))) (fun s => [(22, .int .i64 s.1)]) [(2, _), (3, _), (4, _), (5, _), (9, _), (10, _), (11, _), (15, _)] (fun s => [(219, .ob b (MapO (pEnc encTile.val Value.bool s.2)))]) [(4, _), (5, _), (202, _), (203, _), (204, _), (205, _), (207, _), (208, _), (209, _), (1201, _)] (fun s => (stHi px py qx qy side c + 1 - s.1).toNat) ((stLo px py qx qy side c, D1))
      ·try dsimp only
       exact ⟨Int.le_refl _, by omega, hl1, rfl⟩
      ·exact (sub_cons rfl sub_nil)
      ·exact (sub_cons rfl (sub_cons rfl (sub_cons rfl (sub_cons rfl (sub_cons rfl (sub_cons rfl (sub_cons rfl (sub_cons rfl sub_nil))))))))
      ·exact (subH_same rfl subH_nil)
      ·exact (subH_same rfl (subH_same rfl (subH_same rfl (subH_same rfl (subH_same rfl (subH_same rfl (subH_same rfl (subH_same rfl (subH_same rfl (subH_same rfl subH_nil))))))))))
      ·rintro ⟨y, D2⟩ ⟨h3, h4, hl2, hQ2⟩
       dsimp only at h3 h4 hl2 hQ2 ⊢
       intro K22 hK22
       refine wp_seq' fun K23 hK23 => ?_
       refine wp_seq' fun K24 hK24 => ?_
       refine wp_reg ?_
       refine ol_r (r_move rfl) rfl ?_
       refine ol_r (r_move rfl) rfl ?_
       refine ol_r (r_leq rfl rfl) rfl ?_
       refine ol_nil (to_k0 (fun _ _ h => h) (hK24 _ _ _ _ _ ?_))
       clear hK24
       first | refine wp_condD rfl (fun hc142 => ?_) (fun hc142 => ?_) | refine wp_condN rfl (fun hc142 => ?_) (fun hc142 => ?_) | refine wp_condNB rfl (fun hc142 => ?_) (fun hc142 => ?_) | refine wp_cond' rfl (fun hc142 => ?_) (fun hc142 => ?_)
       ·refine wp_skip' (to_k0 (fun _ _ h => h) (hK23 _ _ _ _ _ ?_))
        clear hK23
        refine wp_seq' fun K25 hK25 => ?_
        refine wp_block' ?_
        refine wp_seq' fun K26 hK26 => ?_
        refine wp_reg ?_
        refine ol_r (r_move rfl) rfl ?_
        refine ol_r (r_move rfl) rfl ?_
        refine ol_r (r_move rfl) rfl ?_
        refine ol_call rfl rfl cb66 rfl (fun w1 hb1 hs1 hB1 => Calls.mono (match_tile _ _ _) ?_)
        rintro e w2 ⟨rfl, hb2⟩
        refine After.below rfl hb1 hs1 hB1 hb2 ?_
        clear hb2 hB1 hs1 hb1 w2 w1
        refine ol_call rfl rfl cb58 rfl (fun w1 hb1 hs1 hB1 => ?_)
        refine Calls.mono (match_seen B _ C b7 b D2 (c, y) _ _ E2 E3 E4 E5 E8 E9 E1 hB1 hC hl2 (hs1.sub (by repeat' first | exact subH_nil | refine subH_same rfl ?_))) ?_
        rintro e w2 ⟨rfl, hbw, hs2, hB2, hkd2⟩
        refine After.sat rfl hb1 hbw hs2 hB2 hkd2 ?_
        clear hkd2 hB2 hs2 hbw hB1 hs1 hb1 w2 w1
        refine ol_r (r_not rfl) rfl ?_
        refine ol_nil (to_k0 (fun _ _ h => h) (hK26 _ _ _ _ _ ?_))
        clear hK26
        first | refine wp_condD rfl (fun hc150 => ?_) (fun hc150 => ?_) | refine wp_condN rfl (fun hc150 => ?_) (fun hc150 => ?_) | refine wp_condNB rfl (fun hc150 => ?_) (fun hc150 => ?_) | refine wp_cond' rfl (fun hc150 => ?_) (fun hc150 => ?_)
        ·refine wp_seq' fun K27 hK27 => ?_
         refine wp_reg ?_
         refine ol_r (r_assign rfl) rfl ?_
         refine ol_nil (to_k0 (fun _ _ h => h) (hK27 _ _ _ _ _ ?_))
         clear hK27
         refine hQ.ret (rvs1 (rv_t rfl)) (fun _ _ h => h) fun w hb hs hB hkd => ?_
         have hno : ¬(pS D2 (c, y) true).length ≤ 100000 := by simpa using hc150
         have he : pS D2 (c, y) true = T := by
           rw [colsT_cons (by omega), capC_app, ← hQ2, colT_cons (by omega), capC, if_pos hl2, capC_stop hno, capC_stop hno] at hP
           exact hP
         exact ⟨by rw [← he, decide_eq_false hno], hb, by rw [← he]; exact hs.sub (by repeat' first | exact subH_nil | refine subH_same rfl ?_), hB, hkd⟩
        ·refine wp_skip' (to_k0 (fun _ _ h => h) (hK25 _ _ _ _ _ ?_))
         clear hK25
         refine wp_reg ?_
         refine ol_r (r_move rfl) rfl ?_
         refine ol_r (r_add rfl rfl (by omega)) rfl ?_
         refine ol_r (r_assign rfl) rfl ?_
         refine ol_nil (to_k0 (fun _ _ h => h) (hK22 ((y + 1, pS D2 (c, y) true)) _ _ ?_ ?_ (sub_cons rfl sub_nil) (sub_cons rfl (sub_cons rfl (sub_cons rfl (sub_cons rfl (sub_cons rfl (sub_cons rfl (sub_cons rfl (sub_cons rfl sub_nil)))))))) (by exact (subH_same rfl subH_nil)) (subH_same rfl (subH_same rfl (subH_same rfl (subH_same rfl (subH_same rfl (subH_same rfl (subH_same rfl (subH_same rfl (subH_same rfl (subH_same rfl subH_nil))))))))))))
         ·try dsimp only
          refine ⟨by omega, by omega, by simpa using hc150, ?_⟩
          rw [colT_cons (by omega), capC, if_pos hl2] at hQ2
          exact hQ2
         ·try dsimp only
          omega
       ·refine wp_exit' (to_k0 (fun _ _ h => h) (hK10 _ _ _ _ _ ?_))
        clear hK10
        refine wp_reg ?_
        refine ol_r (r_move rfl) rfl ?_
        refine ol_r (r_add rfl rfl (by omega)) rfl ?_
        refine ol_r (r_assign rfl) rfl ?_
        refine ol_nil (to_k0 (fun _ _ h => h) (hK7 ((c + 1, D2)) _ _ ?_ ?_ (sub_cons rfl sub_nil) (sub_cons rfl (sub_cons rfl (sub_cons rfl (sub_cons rfl (sub_cons rfl (sub_cons rfl sub_nil)))))) (by exact (subH_same rfl subH_nil)) (subH_same rfl (subH_same rfl (subH_same rfl (subH_same rfl (subH_same rfl (subH_same rfl (subH_same rfl (subH_same rfl (subH_same rfl (subH_same rfl subH_nil))))))))))))
        ·try dsimp only
         refine ⟨by omega, by omega, hl2, ?_⟩
         rw [colsT_cons (by omega), capC_app, ← hQ2, colT_nil (by omega)] at hP
         exact hP
        ·try dsimp only
         omega
    ·refine wp_exit' (to_k0 (fun _ _ h => h) (hK5 _ _ _ _ _ ?_))
     clear hK5
     refine wp_seq' fun K28 hK28 => ?_
     refine wp_reg ?_
     refine ol_r (r_assign rfl) rfl ?_
     refine ol_nil (to_k0 (fun _ _ h => h) (hK28 _ _ _ _ _ ?_))
     clear hK28
     refine hQ.ret (rvs1 (rv_t rfl)) (fun _ _ h => h) fun w hb hs hB hkd => ?_
     have he : D1 = T := by
       rw [colsT_nil (by omega)] at hP
       exact hP
     exact ⟨by rw [← he, decide_eq_true hl1], hb, by rw [← he]; exact hs.sub (by repeat' first | exact subH_nil | refine subH_same rfl ?_), hB, hkd⟩
end Go.Proofs.Ytjflbnbofedlkaa

/-
  The tiles of an activity, by the program.
-/


namespace Go.Proofs.Ytjflbnbofedlkaa
open Go Go.RowKit Hx
set_option linter.unusedVariables false
set_option linter.unusedSimpArgs false
set_option maxRecDepth 8000
theorem match_Sorted (b : Nat) (D : TM) (w : World) (hM : Ob w.heap.size w b (MapO (pEnc encTile.val Value.bool D))) (hl : D.length ≤ 1000000) :
    Calls Try.prog 59 #[.map (some b)] w fun e w' => ∃ b m k, e = .returned (.slice b m k) ∧ Fresh encTile 42 w w' b m k (sortL tlt (pKeys D)) := by
  refine enterQ (N := 18) (C := fun _ => True) (H := []) (B := w.heap.size) (args := [_]) Try.func59 rfl rfl rfl (Nat.le_refl _) (Sat.nil _ _) fun Q hQ => ?_
  refine wp_seq' fun K1 hK1 => ?_
  refine wp_reg ?_
  refine ol_r (r_assign rfl) rfl ?_
  refine ol_nil (to_k0 (fun _ _ h => h) (hK1 _ _ _ _ _ ?_))
  clear hK1
  refine wp_seq' fun K2 hK2 => ?_
  refine wp_reg ?_
  refine ol_nilrow 3 42 2 ?_
  refine ol_r (r_assign rfl) rfl ?_
  refine ol_nil (to_k0 (fun _ _ h => h) (hK2 _ _ _ _ _ ?_))
  clear hK2
  refine wp_seq' fun K3 hK3 => ?_
  refine wp_seq' fun K4 hK4 => ?_
  refine wp_reg ?_
  refine ol_r (r_move rfl) rfl ?_
  refine ol_rangeR (K := encTile.val) (V := Value.bool) (z := false) 6 hM rfl mk54 rfl fun r6 bs6 ck6 hbs6 hMb6 => ?_
  refine ol_nil (to_k0 (fun _ _ h => h) (hK4 _ _ _ _ _ ?_))
  clear hK4
  refine wp_block' ?_
  apply wp_loopM (σ := List Nat × List TileR × Option Addr × Nat × Nat) (fun s => s.2.2.2.1 = s.2.1.length ∧ Vis (pKeys D) s.1 s.2.1) (fun s => [(3, .slice s.2.2.1 s.2.2.2.1 s.2.2.2.2)]) [(2, _), (6, _)] (fun s => [(3, .row s.2.2.1 s.2.2.2.1 s.2.2.2.2 (encTile.enc s.2.1) 42 2), (6, .ob r6 (IterO b bs6 ck6 s.1))]) [] (fun s => D.length - s.1.length) (([], [], none, 0, 0))
  ·try dsimp only
   exact ⟨rfl, Vis.nil _⟩
  ·exact (sub_cons rfl sub_nil)
  ·exact (sub_cons rfl (sub_cons rfl sub_nil))
  ·exact (subH_row rfl (by first | (dsimp only; rfl; done) | (rfl; done) | (dsimp only; done)) (subH_same rfl subH_nil))
  ·exact subH_nil
  ·rintro ⟨js, ks, oa, m, oc⟩ ⟨hm, hV⟩
   dsimp only at hm hV ⊢
   have hvl := hV.len
   have hvb := hV.le
   rw [keys_len] at hvb
   intro K5 hK5
   refine wp_seq' fun K6 hK6 => ?_
   refine wp_reg ?_
   refine ol_nextG (K := encTile.val) (V := Value.bool) (idi := 6) rfl rfl (mapB_ro hMb6) hbs6.2.1 hbs6.2.2 trivial rfl (fun hall7 => ?_) (fun j7 k7 v7 hj7 hv7 => ?_)
   ·refine ol_r (r_extract rfl rfl) rfl ?_
    refine ol_nil (to_k0 (fun _ _ h => h) (hK6 _ _ _ _ _ ?_))
    clear hK6
    refine wp_seq' fun K7 hK7 => ?_
    refine wp_condF rfl ?_
    refine wp_exit' (to_k0 (fun _ _ h => h) (hK3 _ _ _ _ _ ?_))
    clear hK3
    refine wp_seq' fun K8 hK8 => ?_
    refine wp_reg ?_
    refine ol_r (r_move rfl) rfl ?_
    refine ol_call rfl rfl cb68 rfl (fun w1 hb1 hs1 hB1 => ?_)
    refine Calls.mono (sort_tiles _ 3 _ _ _ ks _ _ _ hB1 hs1 rfl (by omega)) ?_
    rintro e w2 ⟨rfl, hbw, hs2, hB2, hkd2⟩
    refine After.sat rfl hb1 hbw hs2 hB2 (hkd2.imp (fun _ h => h.elim)) ?_
    clear hkd2 hB2 hs2 hbw hB1 hs1 hb1 w2 w1
    refine ol_nil (to_k0 (fun _ _ h => h) (hK8 _ _ _ _ _ ?_))
    clear hK8
    refine wp_seq' fun K9 hK9 => ?_
    refine wp_reg ?_
    refine ol_r (r_move rfl) rfl ?_
    refine ol_r (r_assign rfl) rfl ?_
    refine ol_nil (to_k0 (fun _ _ h => h) (hK9 _ _ _ _ _ ?_))
    clear hK9
    refine hQ.ret (rvs1 (rv_t rfl)) (fun _ _ h => h) fun w hb hs hB hkd => ?_
    have hp := hV.all (fun j hj => hall7 j (by rwa [keys_len] at hj))
    exact ⟨_, _, _, rfl, hb, by rw [← sortL_perm_eq tlt_tot hp]; exact hs.ok 3 _ rfl⟩
   ·refine ol_r (r_extract rfl rfl) rfl ?_
    refine ol_nil (to_k0 (fun _ _ h => h) (hK6 _ _ _ _ _ ?_))
    clear hK6
    refine wp_seq' fun K10 hK10 => ?_
    refine wp_condT rfl ?_
    refine wp_skip' (to_k0 (fun _ _ h => h) (hK10 _ _ _ _ _ ?_))
    clear hK10
    refine wp_block' ?_
    refine wp_seq' fun K11 hK11 => ?_
    refine wp_reg ?_
    refine ol_r (r_entry (K := encTile.val) (V := Value.bool) (idi := 6) rfl rfl (mapB_ro hMb6) hbs6.2.1 hv7) rfl ?_
    refine ol_r (r_extract rfl rfl) rfl ?_
    have hmr := hV.more hj7 (List.getElem?_eq_some_iff.1 (keys_get hv7)).1
    rw [keys_len] at hmr
    refine ol_alloc 4 z42 rfl fun b4 => ?_
    refine ol_store (id := 4) rfl rfl rfl rfl sz42 rfl rfl (by first | decide | exact Nat.zero_lt_succ _ | simp) ?_
    refine ol_nil (to_k0 (fun _ _ h => h) (hK11 _ _ _ _ _ ?_))
    clear hK11
    refine wp_reg ?_
    refine ol_r (r_move rfl) rfl ?_
    refine ol_r (r_lda (id := 4) (n := 2) rfl rfl rfl ag42) rfl ?_
    refine ol_bs1 13 rfl rfl rw45 rfl rfl rfl fun a13 => ?_
    refine ol_append1 (id := 3) (id2 := 13) rfl rfl rfl rfl rfl rw45 (by omega) rfl fun a14 c14 => ?_
    refine ol_r (r_assign rfl) rfl ?_
    refine ol_nil (to_k0 (fun _ _ h => h) (hK5 ((js ++ [j7], ks ++ [k7], _, _, _)) _ _ ?_ ?_ (sub_cons rfl sub_nil) (sub_cons rfl (sub_cons rfl sub_nil)) (by exact (subH_row rfl (by first | (dsimp only; rw [Enc.enc_append]; rfl; done) | (rw [Enc.enc_append]; rfl; done) | (dsimp only; done)) (subH_same rfl subH_nil))) subH_nil))
    ·try dsimp only
     exact ⟨by rw [List.length_append, hm]; rfl, hV.step hj7 (keys_get hv7)⟩
    ·try dsimp only
     rw [List.length_append, List.length_singleton]; omega
theorem match_Tiles (A : ActV) (side : Int) (w : World) (hA : A.Ok w.heap.size w) :
    Calls Try.prog 16 #[.agg #[.string A.name, .int .i64 A.sport, .int .i64 A.start, .slice A.sa A.sn A.sc, .slice A.la A.ln A.lc, .slice A.ta A.tn A.tc], .int .i64 side] w fun e w' => ∃ b m k, e = .returned (.tuple #[.slice b m k, .int .i64 (tilesR A.d side).2]) ∧ Fresh encTile 42 w w' b m k (tilesR A.d side).1 := by
  have hsn := hA.s.len
  have hsf := hA.s.fit
  have hlen := stepsL_len A.ss
  refine enterQ (N := 47) (C := fun _ => True) (H := []) (B := w.heap.size) (args := [_, _]) Try.func16 rfl rfl rfl (Nat.le_refl _) (Sat.nil _ _) fun Q hQ => ?_
  refine wp_seq' fun K1 hK1 => ?_
  refine wp_reg ?_
  refine ol_box 2 rfl rfl rfl fun b2 => ?_
  refine ol_box 3 rfl rfl rfl fun b3 => ?_
  refine ol_alloc 4 z45 rfl fun b4 => ?_
  refine ol_alloc 5 z26 rfl fun b5 => ?_
  refine ol_nil (to_k0 (fun _ _ h => h) (hK1 _ _ _ _ _ ?_))
  clear hK1
  refine wp_seq' fun K2 hK2 => ?_
  refine wp_seq' fun K3 hK3 => ?_
  refine wp_reg ?_
  refine ol_r (r_lda (id := 2) (n := 6) rfl rfl rfl ag39) rfl ?_
  refine ol_call rfl rfl cb54 rfl (fun w1 hb1 hs1 hB1 => Calls.mono (record_Check A _ (hA.at hb1 hB1)) ?_)
  rintro e w2 ⟨rfl, hb2⟩
  refine After.below rfl hb1 hs1 hB1 hb2 ?_
  clear hb2 hB1 hs1 hb1 w2 w1
  refine ol_r (r_assign rfl) rfl ?_
  refine ol_nil (to_k0 (fun _ _ h => h) (hK3 _ _ _ _ _ ?_))
  clear hK3
  refine wp_seq' fun K4 hK4 => ?_
  refine wp_reg ?_
  refine ol_r (r_move rfl) rfl ?_
  refine ol_r (r_neq rfl rfl) rfl ?_
  refine ol_nil (to_k0 (fun _ _ h => h) (hK4 _ _ _ _ _ ?_))
  clear hK4
  first | refine wp_condD rfl (fun hc14 => ?_) (fun hc14 => ?_) | refine wp_condN rfl (fun hc14 => ?_) (fun hc14 => ?_) | refine wp_condNB rfl (fun hc14 => ?_) (fun hc14 => ?_) | refine wp_cond' rfl (fun hc14 => ?_) (fun hc14 => ?_)
  ·refine wp_seq' fun K5 hK5 => ?_
   refine wp_reg ?_
   refine ol_r (r_move rfl) rfl ?_
   refine ol_store (id := 4) rfl rfl rfl rfl sz45 rfl rfl (by first | decide | exact Nat.zero_lt_succ _ | simp) ?_
   refine ol_store (id := 5) rfl rfl rfl rfl sz26 rfl rfl (by first | decide | exact Nat.zero_lt_succ _ | simp) ?_
   refine ol_nil (to_k0 (fun _ _ h => h) (hK5 _ _ _ _ _ ?_))
   clear hK5
   refine hQ.ret (rvs2 (rv_c1 (id := 4) rfl rfl sc45 rfl) (rv_c1 (id := 5) rfl rfl sc26 rfl)) (fun _ _ h => h) fun w hb hs hB hkd => ?_
   exact ⟨none, 0, 0, by rw [tilesR_e hc14], by rw [tilesR_e hc14]; exact Fresh.nil hb⟩
  ·refine wp_skip' (to_k0 (fun _ _ h => h) (hK2 _ _ _ _ _ ?_))
   clear hK2
   refine wp_seq' fun K6 hK6 => ?_
   refine wp_seq' fun K7 hK7 => ?_
   refine wp_reg ?_
   refine ol_r (r_ld (id := 3) rfl rfl rfl sc3) rfl ?_
   refine ol_call rfl rfl cb45 rfl (fun w1 hb1 hs1 hB1 => Calls.mono (match_in _ _ _ _) ?_)
   rintro e w2 ⟨rfl, hb2⟩
   refine After.below rfl hb1 hs1 hB1 hb2 ?_
   clear hb2 hB1 hs1 hb1 w2 w1
   refine ol_r (r_not rfl) rfl ?_
   refine ol_nil (to_k0 (fun _ _ h => h) (hK7 _ _ _ _ _ ?_))
   clear hK7
   first | refine wp_condD rfl (fun hc18 => ?_) (fun hc18 => ?_) | refine wp_condN rfl (fun hc18 => ?_) (fun hc18 => ?_) | refine wp_condNB rfl (fun hc18 => ?_) (fun hc18 => ?_) | refine wp_cond' rfl (fun hc18 => ?_) (fun hc18 => ?_)
   ·refine wp_seq' fun K8 hK8 => ?_
    refine wp_reg ?_
    refine ol_store (id := 4) rfl rfl rfl rfl sz45 rfl rfl (by first | decide | exact Nat.zero_lt_succ _ | simp) ?_
    refine ol_store (id := 5) rfl rfl rfl rfl sz26 rfl rfl (by first | decide | exact Nat.zero_lt_succ _ | simp) ?_
    refine ol_nil (to_k0 (fun _ _ h => h) (hK8 _ _ _ _ _ ?_))
    clear hK8
    refine hQ.ret (rvs2 (rv_c1 (id := 4) rfl rfl sc45 rfl) (rv_c1 (id := 5) rfl rfl sc26 rfl)) (fun _ _ h => h) fun w hb hs hB hkd => ?_
    have hc := Decidable.not_not.1 hc14
    have h9 : inB side 1 10000000 = false := by simpa using hc18
    exact ⟨none, 0, 0, by rw [tilesR_9 hc h9], by rw [tilesR_9 hc h9]; exact Fresh.nil hb⟩
   ·refine wp_skip' (to_k0 (fun _ _ h => h) (hK6 _ _ _ _ _ ?_))
    clear hK6
    refine wp_seq' fun K9 hK9 => ?_
    refine wp_reg ?_
    have hok := (goodA (Decidable.not_not.1 hc14)).smp
    have hl20 := hok.len
    have hsd : inB side 1 10000000 = true := by simpa using hc18
    have hsd2 := inB_iff.1 hsd
    refine ol_mkmapE (encTile.val) (Value.bool) 19 rfl fun b19 => ?_
    refine ol_alloc 7 z54 rfl fun b7 => ?_
    refine ol_store (id := 7) rfl rfl rfl rfl sz54 rfl rfl (by first | decide | exact Nat.zero_lt_succ _ | simp) ?_
    refine ol_nil (to_k0 (fun _ _ h => h) (hK9 _ _ _ _ _ ?_))
    clear hK9
    apply wp_seq_cutM (σ := TM) (fun s => s = capC [] (tlN A.ss side 1)) (fun s => []) [(2, _), (3, _), (4, _), (5, _), (7, _)] (fun s => [(19, .ob b19 (MapO (pEnc encTile.val Value.bool s)))]) [(2, _), (3, _), (4, _), (5, _), (7, _)]
    ·exact (sub_cons rfl (sub_cons rfl (sub_cons rfl (sub_cons rfl (sub_cons rfl sub_nil)))))
    ·exact (subH_same rfl (subH_same rfl (subH_same rfl (subH_same rfl (subH_same rfl subH_nil)))))
    ·intro K10 hK10
     refine wp_seq' fun K11 hK11 => ?_
     refine wp_reg ?_
     refine ol_r (r_fa (o' := 3) rfl fl39_3 rfl) rfl ?_
     refine ol_r (r_ld (id := 2) rfl rfl rfl sc35) rfl ?_
     refine ol_r (r_len rfl sl35) rfl ?_
     refine ol_r (r_gtr rfl rfl) rfl ?_
     refine ol_nil (to_k0 (fun _ _ h => h) (hK11 _ _ _ _ _ ?_))
     clear hK11
     first | refine wp_condD rfl (fun hc23 => ?_) (fun hc23 => ?_) | refine wp_condN rfl (fun hc23 => ?_) (fun hc23 => ?_) | refine wp_condNB rfl (fun hc23 => ?_) (fun hc23 => ?_) | refine wp_cond' rfl (fun hc23 => ?_) (fun hc23 => ?_)
     ·refine wp_regqt 8 (by kernel_rfl) (by kernel_rfl) ?_
      simp only [List.take_succ_cons, List.take_zero, List.drop_succ_cons, List.drop_zero]
      refine ql_r (r_ld (id := 7) rfl rfl rfl sc54) rfl ?_
      refine ql_r (r_fa (o' := 3) rfl fl39_3 rfl) rfl ?_
      refine ql_r (r_ld (id := 2) rfl rfl rfl sc35) rfl ?_
      refine ql_ixr hA.s rfl rfl sl35 (by omega) rfl fun x27 hx27 => ?_
      try simp only [Int.toNat_natCast] at hx27
      refine ql_r (r_ldw rfl (fun w1 hb1 hs1 hB1 => Rd.loads hA.s ty51 hx27 hb1)) rfl ?_
      obtain ⟨hpl1, hpl2⟩ := hok.place (List.mem_of_getElem? hx27)
      refine ql_call rfl rfl cb55 rfl (fun w1 hb1 hs1 hB1 => match_pointOf _ _) ?_
      refine ql_r (r_ld (id := 3) rfl rfl rfl sc3) rfl ?_
      refine ql_call rfl rfl cb51 rfl (fun w1 hb1 hs1 hB1 => match_cellOf _ _ _ _ (by omega) (by omega) (by omega)) ?_
      refine ql_tail ?_
      refine ol_mapset (K := encTile.val) (V := Value.bool) (z := false) (k := cellR x27.x x27.y side) (id := 19) rfl rfl rfl rfl mk54 trivial ?_
      refine ol_nil (to_k0 (fun _ _ h => h) (hK10 (_) _ _ ?_ sub_nil (sub_cons rfl (sub_cons rfl (sub_cons rfl (sub_cons rfl (sub_cons rfl sub_nil))))) (subH_same rfl subH_nil) (subH_same rfl (subH_same rfl (subH_same rfl (subH_same rfl (subH_same rfl subH_nil)))))))
      try dsimp only
      first
      | exact tl1_some hx27
      | exact tl1_none (List.getElem?_eq_none (by omega))
     ·refine wp_skip' (to_k0 (fun _ _ h => h) (hK10 (_) _ _ ?_ sub_nil (sub_cons rfl (sub_cons rfl (sub_cons rfl (sub_cons rfl (sub_cons rfl sub_nil))))) (subH_same rfl subH_nil) (subH_same rfl (subH_same rfl (subH_same rfl (subH_same rfl (subH_same rfl subH_nil)))))))
      try dsimp only
      first
      | exact tl1_some hx27
      | exact tl1_none (List.getElem?_eq_none (by omega))
    ·rintro D0 hD0
     subst hD0
     refine wp_seq' fun K12 hK12 => ?_
     refine wp_seq' fun K13 hK13 => ?_
     refine wp_reg ?_
     refine ol_r (r_lda (id := 2) (n := 6) rfl rfl rfl ag39) rfl ?_
     refine ol_call rfl rfl cb56 rfl (fun w1 hb1 hs1 hB1 => ?_)
     refine Calls.mono (track_Steps A _ (hA.at hb1 hB1)) ?_
     rintro e w2 ⟨b0, T0, rfl, hb2, hs2⟩
     refine After.more rfl hb1 hs1 hB1 hb2 hs2 ?_
     clear hs2 hb2 hB1 hs1 hb1 w2 w1
     refine ol_nil (to_k0 (fun _ _ h => h) (hK13 _ _ _ _ _ ?_))
     clear hK13
     refine wp_block' ?_
     refine wp_rf (σ := Unit) (τ := Unit) (encs := fun x : SmpR × SmpR => [.agg #[.int .i64 x.1.at_, .int .i64 x.1.x, .int .i64 x.1.y, .int .i64 x.1.z, .int .i64 x.1.pulse, .int .i64 x.1.power, .int .i64 x.1.steps], .agg #[.int .i64 x.2.at_, .int .i64 x.2.x, .int .i64 x.2.y, .int .i64 x.2.z, .int .i64 x.2.pulse, .int .i64 x.2.power, .int .i64 x.2.steps]]) (zs := stepsL A.ss) rfl cb87 (steps_iter A _ b0 _ hA.s) (by rfl) (by rfl) (by rfl) (fun _ => rfl) (fun k s => k ≤ (stepsL A.ss).length ∧ (capC [] (tlN A.ss side (k + 1))).length ≤ 100000) (fun k s => [(7, .blk b7 [(0, .map (some b19))] 54), (4, .blk b4 [(0, .slice none 0 0)] 45), (5, .blk b5 [(0, .int .i64 0)] 26), (19, .ob b19 (MapO (pEnc encTile.val Value.bool (capC [] (tlN A.ss side (k + 1))))))]) [(2, _), (3, _), (1001, _)] (fun t => ∃ k, k ≤ A.ss.length ∧ ¬(capC [] (tlN A.ss side k)).length ≤ 100000) (fun t => [(7, .blk b7 [(0, .map (some b19))] 54), (4, .blk b4 [(0, .slice none 0 0)] 45), (5, .blk b5 [(0, .int .i64 3)] 26)]) (()) ?_ (by exact (subH_blk rfl (sub_cons rfl sub_nil) (subH_blk rfl (sub_cons rfl sub_nil) (subH_blk rfl (sub_cons rfl sub_nil) (subH_same rfl subH_nil))))) (subH_same rfl (subH_same rfl (subH_same rfl subH_nil))) ?_ ?_ ?_ ?_
     ·try dsimp only
      exact ⟨Nat.zero_le _, tl1_len _ _⟩
     ·intro k s W hI hbW hsW hBW
      exact ⟨hbW, ⟨_, hsW.one 1001 100 rfl (Ent.le_refl _)⟩, hBW⟩
     ·rintro k x _ B0 W hx ⟨hkk, hkl⟩ hbW hBW hB0
      have hxx := stepsL_inv hx
      have hp := hok.place (List.mem_of_getElem? hxx.1)
      have hq := hok.place (List.mem_of_getElem? hxx.2)
      intro Ka14 hKa14
      simp only [alp]
      refine wp_seq' fun K15 hK15 => ?_
      refine wp_reg ?_
      refine ol_alloc 8 z51 rfl fun b8 => ?_
      refine ol_store (id := 8) rfl rfl rfl rfl sz51 rfl rfl (by first | decide | exact Nat.zero_lt_succ _ | simp) ?_
      refine ol_nil (to_k0 (fun _ _ h => h) (hK15 _ _ _ _ _ ?_))
      clear hK15
      refine wp_reg ?_
      refine ol_alloc 9 z51 rfl fun b9 => ?_
      refine ol_store (id := 9) rfl rfl rfl rfl sz51 rfl rfl (by first | decide | exact Nat.zero_lt_succ _ | simp) ?_
      refine ol_nil (to_k0 (fun _ _ h => h) (hKa14 _ _ fun Wb R hbw hBw hn hr => ?_))
      refine wp_block' ?_
      refine wp_seq' fun K16 hK16 => ?_
      refine wp_regqt 6 (by kernel_rfl) (by kernel_rfl) ?_
      simp only [List.take_succ_cons, List.take_zero, List.drop_succ_cons, List.drop_zero]
      refine ql_r (r_lda (id := 8) (n := 7) rfl rfl rfl ag51) rfl ?_
      refine ql_call rfl rfl cb55 rfl (fun w1 hb1 hs1 hB1 => match_pointOf _ _) ?_
      refine ql_r (r_lda (id := 9) (n := 7) rfl rfl rfl ag51) rfl ?_
      refine ql_call rfl rfl cb55 rfl (fun w1 hb1 hs1 hB1 => match_pointOf _ _) ?_
      refine ql_r (r_ld (id := 3) rfl rfl rfl sc3) rfl ?_
      refine ql_r (r_func rfl) rfl ?_
      refine ql_tail ?_
      refine ol_call rfl rfl cb57 rfl (fun w1 hb1 hs1 hB1 => ?_)
      refine Calls.mono (match_visit _ _ (fun j => True ∧ j < B0) b7 b19 _ _ _ _ _ side _ _ _ _ _ _ _ hB1 ⟨trivial, hB0 19 _ b19 rfl rfl⟩ hkl (by split; exact stB_of hq hp hsd (by omega); exact stB_of hp hq hsd (by omega)) ((hs1.up 200).sub (by repeat' first | exact subH_nil | refine subH_same rfl ?_ | refine subH_blk rfl (sub_cons rfl sub_nil) ?_))) ?_
      rintro e w2 ⟨rfl, hbw, hs2, hB2, hkd2⟩
      refine After.sat rfl hb1 hbw (hs2.down 200 (H' := [(2, _), (3, _), (4, _), (5, _), (8, _), (9, _), (1001, _), (7, _), (19, _)]) (by repeat' first | exact subH_nil | refine subH_same rfl ?_)) hB2 hkd2 ?_
      clear hkd2 hB2 hs2 hbw hB1 hs1 hb1 w2 w1
      rw [show stepT x.1.x x.1.y x.2.x x.2.y side = stN A.ss side (k + 1) from (stN_is hxx.1 hxx.2).symm, ← tlN_cap]
      refine ol_r (r_assign rfl) rfl ?_
      refine ol_nil (to_k0 (fun _ _ h => h) (hK16 _ _ _ _ _ ?_))
      clear hK16
      refine wp_seq' fun K17 hK17 => ?_
      refine wp_reg ?_
      refine ol_r (r_move rfl) rfl ?_
      refine ol_r (r_not rfl) rfl ?_
      refine ol_nil (to_k0 (fun _ _ h => h) (hK17 _ _ _ _ _ ?_))
      clear hK17
      first | refine wp_condD rfl (fun hc44 => ?_) (fun hc44 => ?_) | refine wp_condN rfl (fun hc44 => ?_) (fun hc44 => ?_) | refine wp_condNB rfl (fun hc44 => ?_) (fun hc44 => ?_) | refine wp_cond' rfl (fun hc44 => ?_) (fun hc44 => ?_)
      ·refine wp_seq' fun K18 hK18 => ?_
       refine wp_reg ?_
       refine ol_store (id := 4) rfl rfl rfl rfl sz45 rfl rfl (by first | decide | exact Nat.zero_lt_succ _ | simp) ?_
       refine ol_store (id := 5) rfl rfl rfl rfl sz26 rfl rfl (by first | decide | exact Nat.zero_lt_succ _ | simp) ?_
       refine ol_nil (to_k0 (fun _ _ h => h) (hK18 _ _ _ _ _ ?_))
       clear hK18
       refine wp_ret' (QP.of (hr (()) _ _ ?_ (by exact (subH_blk rfl (sub_cons rfl sub_nil) (subH_blk rfl (sub_cons rfl sub_nil) (subH_blk rfl (sub_cons rfl sub_nil) subH_nil)))) (subH_same rfl (subH_same rfl (subH_same rfl subH_nil)))) (fun _ _ h => h))
       try dsimp only
       exact ⟨k + 2, by have := (List.getElem?_eq_some_iff.1 hxx.2).1; omega, by simpa using hc44⟩
      ·refine wp_skip' (QP.of (hn (()) _ _ ?_ (by exact (subH_blk rfl (sub_cons rfl sub_nil) (subH_blk rfl (sub_cons rfl sub_nil) (subH_blk rfl (sub_cons rfl sub_nil) (subH_same rfl subH_nil))))) (subH_same rfl (subH_same rfl (subH_same rfl subH_nil)))) (fun _ _ h => h))
       try dsimp only
       exact ⟨by have := (List.getElem?_eq_some_iff.1 hx).1; omega, by simpa using hc44⟩
     ·rintro _ dd ⟨hI, hlast⟩
      refine (to_k0 (fun _ _ h => h) (hK12 _ _ _ _ _ ?_))
      clear hK12
      refine wp_seq' fun K19 hK19 => ?_
      refine wp_reg ?_
      refine ol_r (r_ld (id := 7) rfl rfl rfl sc54) rfl ?_
      refine ol_call rfl rfl cb59 rfl (fun w1 hb1 hs1 hB1 => Calls.mono (match_Sorted _ _ _ (hs1.ob (id := 19) rfl) (by omega)) ?_)
      rintro e w2 ⟨a46, n46, c46, rfl, hf46⟩
      refine After.fresh (id := 46) rfl hb1 hs1 hB1 hf46 ?_
      have hl46 := hf46.len; clear hf46 hB1 hs1 hb1 w2 w1
      refine ol_store (id := 4) rfl rfl rfl rfl sz45 rfl rfl (by first | decide | exact Nat.zero_lt_succ _ | simp) ?_
      refine ol_store (id := 5) rfl rfl rfl rfl sz26 rfl rfl (by first | decide | exact Nat.zero_lt_succ _ | simp) ?_
      refine ol_nil (to_k0 (fun _ _ h => h) (hK19 _ _ _ _ _ ?_))
      clear hK19
      refine hQ.ret (rvs2 (rv_c1 (id := 4) rfl rfl sc45 rfl) (rv_c1 (id := 5) rfl rfl sc26 rfl)) (fun _ _ h => h) fun w hb hs hB hkd => ?_
      rw [hlen, tl_end] at hlast
      have h0 := tilesR_0 (a := A.d) (ks := pKeys (capC [] (tlN A.ss side A.ss.length))) (Decidable.not_not.1 hc14) hsd hlast (List.Perm.refl _)
      exact ⟨_, _, _, by rw [h0], by rw [h0]; refine ⟨hb, ?_⟩; have h9 := hs.ok 46 _ rfl; rw [hlen, tl_end] at h9; exact h9⟩
     ·rintro t dd ⟨k, hk, hbig⟩
      refine hQ.retq (rvs2 (rv_c1 (id := 4) rfl rfl sc45 rfl) (rv_c1 (id := 5) rfl rfl sc26 rfl)) (fun _ _ h => h) fun w hb hs hB hkd => ?_
      have h3 := tilesR_3 (a := A.d) (k := k) (Decidable.not_not.1 hc14) hsd hk hbig
      exact ⟨none, 0, 0, by rw [h3], by rw [h3]; exact Fresh.nil hb⟩
end Go.Proofs.Ytjflbnbofedlkaa

/-
  The tiles of a step are those that its points lie in. No program stands here.
-/


namespace Go.Proofs.Ytjflbnbofedlkaa
open Hx
set_option linter.unusedVariables false
set_option linter.unusedSimpArgs false
/-- A point of the way, u of v parts from p to q: its tile. -/
def ptT (px py qx qy side u v : Int) : TileR := ((px * v + (qx - px) * u) / (v * side), (py * v + (qy - py) * u) / (v * side))
def OnT (px py qx qy side : Int) (t : TileR) : Prop := ∃ u v, 0 < v ∧ 0 ≤ u ∧ u ≤ v ∧ t = ptT px py qx qy side u v
theorem mem_colT {x lo hi : Int} {t : TileR} : t ∈ colT x lo hi ↔ t.1 = x ∧ lo ≤ t.2 ∧ t.2 ≤ hi := by
  unfold colT
  rw [List.mem_map]
  constructor
  · rintro ⟨i, hi, rfl⟩
    rw [List.mem_range] at hi
    exact ⟨rfl, by dsimp only; omega, by dsimp only; omega⟩
  · rintro ⟨h1, h2, h3⟩
    exact ⟨(t.2 - lo).toNat, List.mem_range.2 (by omega), Prod.ext h1.symm (by dsimp only; omega)⟩
theorem mem_eastT {px py qx qy side : Int} {t : TileR} : t ∈ eastT px py qx qy side ↔ px / side ≤ t.1 ∧ t.1 ≤ qx / side ∧ stLo px py qx qy side t.1 ≤ t.2 ∧ t.2 ≤ stHi px py qx qy side t.1 := by
  unfold eastT colsT
  rw [List.mem_flatMap]
  constructor
  · rintro ⟨i, hi, h⟩
    rw [List.mem_range] at hi
    rw [mem_colT] at h
    obtain ⟨h1, h2, h3⟩ := h
    rw [h1]
    exact ⟨by omega, by omega, h2, h3⟩
  · rintro ⟨h1, h2, h3, h4⟩
    refine ⟨(t.1 - px / side).toNat, List.mem_range.2 (by omega), ?_⟩
    rw [show px / side + (((t.1 - px / side).toNat : Nat) : Int) = t.1 by omega, mem_colT]
    exact ⟨rfl, h3, h4⟩
theorem ediv_iff {a m q : Int} (hm : 0 < m) : a / m = q ↔ q * m ≤ a ∧ a < (q + 1) * m := by
  constructor
  · rintro rfl
    exact ⟨Int.ediv_mul_le a (by omega), Int.lt_ediv_add_one_mul_self a hm⟩
  · rintro ⟨h1, h2⟩
    have h3 := (Int.le_ediv_iff_mul_le hm).2 h1
    have h4 := (Int.ediv_lt_iff_lt_mul hm).2 h2
    omega
/-- A point lies in the tile of its column and row. -/
theorem onT_of {px py qx qy side c r u v : Int} (hs : 0 < side) (hv : 0 < v) (h0 : 0 ≤ u) (h1 : u ≤ v) (hc1 : c * (v * side) ≤ px * v + (qx - px) * u) (hc2 : px * v + (qx - px) * u < (c + 1) * (v * side))
    (hr1 : r * (v * side) ≤ py * v + (qy - py) * u) (hr2 : py * v + (qy - py) * u < (r + 1) * (v * side)) : OnT px py qx qy side (c, r) := by
  have hm : 0 < v * side := Int.mul_pos hv hs
  exact ⟨u, v, hv, h0, h1, Prod.ext ((ediv_iff hm).2 ⟨hc1, hc2⟩).symm ((ediv_iff hm).2 ⟨hr1, hr2⟩).symm⟩
section
variable {px py qx qy side : Int}
theorem mul_leR {a b c : Int} (h : a ≤ b) (hc : 0 ≤ c) : a * c ≤ b * c := Int.mul_le_mul_of_nonneg_right h hc
theorem mul_ltR {a b c : Int} (h : a < b) (hc : 0 < c) : a * c < b * c := Int.mul_lt_mul_of_pos_right h hc
theorem le_tr {L R l r : Int} (h : l ≤ r) (e : R - L = r - l) : L ≤ R := by omega
theorem lt_tr {L R l r : Int} (h : l < r) (e : R - L = r - l) : L < R := by omega
/-- Upright steps. -/
theorem onT_flat (hb : StB px py qx qy side) (hd : qx - px = 0) {c r : Int} (h1 : px / side ≤ c) (h2 : c ≤ qx / side) (h3 : min py qy / side ≤ r) (h4 : r ≤ max py qy / side) : OnT px py qx qy side (c, r) := by
  have hs : 0 < side := by have := hb.bs; omega
  obtain rfl : qx = px := by omega
  obtain rfl : c = qx / side := by omega
  have f1 := Int.ediv_mul_le qx (show side ≠ 0 by omega)
  have f2 := Int.lt_ediv_add_one_mul_self qx hs
  generalize qx / side = c at *
  have g1 : min py qy < (r + 1) * side := (Int.ediv_lt_iff_lt_mul hs).1 (by omega)
  have g2 : r * side ≤ max py qy := (Int.le_ediv_iff_mul_le hs).1 h4
  clear h1 h2 h3 h4 hb
  rcases Int.lt_trichotomy (qy - py) 0 with hy | hy | hy
  · have k1 : qy ≤ max qy (r * side) := by omega
    have k2 : r * side ≤ max qy (r * side) := by omega
    have k3 : max qy (r * side) < (r + 1) * side := by have : (r + 1) * side = r * side + side := by grind
                                                       omega
    have k4 : max qy (r * side) ≤ py := by omega
    generalize max qy (r * side) = Y at *
    obtain ⟨v, hv⟩ : ∃ v, v = py - qy := ⟨_, rfl⟩
    have hv0 : 0 < v := by omega
    have a1 := mul_leR f1 (show 0 ≤ v by omega)
    have a2 := mul_ltR f2 hv0
    have a3 := mul_leR k2 (show 0 ≤ v by omega)
    have a4 := mul_ltR k3 hv0
    subst hv
    exact onT_of hs hv0 (show 0 ≤ py - Y by omega) (by omega) (by grind) (by grind) (by grind) (by grind)
  · exact onT_of (u := 0) (v := 1) hs (by omega) (by omega) (by omega) (by grind) (by grind) (by grind) (by grind)
  · have k1 : py ≤ max py (r * side) := by omega
    have k2 : r * side ≤ max py (r * side) := by omega
    have k3 : max py (r * side) < (r + 1) * side := by have : (r + 1) * side = r * side + side := by grind
                                                       omega
    have k4 : max py (r * side) ≤ qy := by omega
    generalize max py (r * side) = Y at *
    obtain ⟨v, hv⟩ : ∃ v, v = qy - py := ⟨_, rfl⟩
    have hv0 : 0 < v := by omega
    have a1 := mul_leR f1 (show 0 ≤ v by omega)
    have a2 := mul_ltR f2 hv0
    have a3 := mul_leR k2 (show 0 ≤ v by omega)
    have a4 := mul_ltR k3 hv0
    subst hv
    exact onT_of hs hv0 (show 0 ≤ Y - py by omega) (by omega) (by grind) (by grind) (by grind) (by grind)
/-- The two ends of what lies in a column. -/
structure ColE (px py qx qy side c X0 X1 : Int) : Prop where
  eF : stFrom px py qx qy side c = py * (qx - px) + (qy - py) * (X0 - px)
  eT : stTo px py qx qy side c = py * (qx - px) + (qy - py) * (X1 - px)
  ea : px ≤ X0
  eb : c * side ≤ X0
  ec : X0 ≤ X1
  ed : X1 ≤ qx
  ee : (c < qx / side ∧ X1 = (c + 1) * side ∧ X0 < X1) ∨ (¬c < qx / side ∧ X1 = qx ∧ X1 < (c + 1) * side)
theorem colE (hb : StB px py qx qy side) {c : Int} (h1 : px / side ≤ c) (h2 : c ≤ qx / side) : ∃ X1, ColE px py qx qy side c (max px (c * side)) X1 := by
  have hs : 0 < side := by have := hb.bs; omega
  have hcol := hb.col h1 h2
  have hle := hb.le
  by_cases h : c < qx / side
  · have h5 : (c + 1) * side ≤ qx := (Int.le_ediv_iff_mul_le hs).1 (by omega)
    exact ⟨(c + 1) * side, rfl, by rw [stTo, if_pos h], by omega, by omega, by omega, by omega, .inl ⟨h, rfl, by omega⟩⟩
  · have h5 : qx < (c + 1) * side := (Int.ediv_lt_iff_lt_mul hs).1 (by omega)
    exact ⟨qx, rfl, by rw [stTo, if_neg h]; grind, by omega, by omega, by omega, by omega, .inr ⟨h, rfl, h5⟩⟩
/-- Each tile that is told has a point of the way. -/
theorem onT_steep (hb : StB px py qx qy side) (hd : 0 < qx - px) {c r : Int} (h1 : px / side ≤ c) (h2 : c ≤ qx / side) (h3 : stLo px py qx qy side c ≤ r) (h4 : r ≤ stHi px py qx qy side c) : OnT px py qx qy side (c, r) := by
  have hs : 0 < side := by have := hb.bs; omega
  obtain ⟨X1, hE⟩ := colE hb h1 h2
  have hX0 : max px (c * side) < (c + 1) * side := by have := hb.col h1 h2; omega
  generalize max px (c * side) = X0 at *
  have hm : 0 < (qx - px) * side := Int.mul_pos hd hs
  rw [stLo, if_neg (by omega)] at h3
  rw [stHi, if_neg (show ¬(qx - px = 0) by omega)] at h4
  have hF := hE.eF
  have hT := hE.eT
  generalize stFrom px py qx qy side c = F at *
  generalize stTo px py qx qy side c = T at *
  have g1 : min F T < (r + 1) * ((qx - px) * side) := (Int.ediv_lt_iff_lt_mul hm).1 (by omega)
  have ha := hE.ea; have hbb := hE.eb; have hc := hE.ec; have hdd := hE.ed; have he := hE.ee
  clear hE h3 hb
  obtain ⟨dx, hdx⟩ : ∃ dx, dx = qx - px := ⟨_, rfl⟩
  obtain ⟨dy, hdy⟩ : ∃ dy, dy = qy - py := ⟨_, rfl⟩
  rw [← hdx] at hd hm hF hT h4 g1
  rw [← hdy] at hF hT h4
  have hon : ∀ u v : Int, 0 < v → 0 ≤ u → u ≤ v → c * (v * side) ≤ px * v + dx * u → px * v + dx * u < (c + 1) * (v * side) → r * (v * side) ≤ py * v + dy * u → py * v + dy * u < (r + 1) * (v * side) → OnT px py qx qy side (c, r) := fun u v a1 a2 a3 a4 a5 a6 a7 => by
    subst hdx hdy; exact onT_of hs a1 a2 a3 a4 a5 a6 a7
  rcases Int.lt_trichotomy dy 0 with hy | hy | hy
  · -- to the south
    rw [if_neg (by omega)] at h4
    have g2 : r * (dx * side) ≤ max F T := (Int.le_ediv_iff_mul_le hm).1 h4
    obtain ⟨e, rfl⟩ : ∃ e, dy = -e := ⟨-dy, by omega⟩
    have he0 : 0 < e := by omega
    have c1 := mul_leR hc (show 0 ≤ e by omega)
    have hTF : T ≤ F := le_tr c1 (by grobner)
    have hFT : X0 < X1 → T < F := fun h => lt_tr (mul_ltR h he0) (by grobner)
    generalize hmm : dx * side = m at *
    have e1 : (r + 1) * m = r * m + m := by grobner
    obtain ⟨W, hW⟩ : ∃ W, W = min (2 * F) (2 * ((r + 1) * m) - 1) := ⟨_, rfl⟩
    have w1 : W ≤ 2 * F := by omega
    have w2 : 2 * (r * m) ≤ W := by omega
    have w3 : W < 2 * ((r + 1) * m) := by omega
    have w4 : 2 * T ≤ W := by omega
    have w5 : X0 < X1 → 2 * T < W := fun h => by have := hFT h; omega
    clear hW h4 g1 g2
    have hv : 0 < 2 * (e * dx) := by have := Int.mul_pos he0 hd; omega
    have c2 := mul_leR hbb (show 0 ≤ e by omega)
    have c3 := mul_leR ha (show 0 ≤ e by omega)
    have c4 := mul_leR hdd (show 0 ≤ e by omega)
    have i1 : F = py * dx - X0 * e + px * e := by grobner
    have i3 : T = py * dx - X1 * e + px * e := by grobner
    have i7 : e * dx = qx * e - px * e := by grobner
    have b1 : c * side * (2 * e) ≤ 2 * (px * e) + 2 * (py * dx) - W := by
      have i2 : c * side * (2 * e) = 2 * (c * side * e) := by grobner
      omega
    have b2 : 2 * (px * e) + 2 * (py * dx) - W < (c + 1) * side * (2 * e) := by
      rcases he with ⟨_, hx, hlt⟩ | ⟨_, hx, hlt⟩
      · have h6 := w5 hlt
        have i4 : (c + 1) * side * (2 * e) = 2 * (X1 * e) := by grobner
        omega
      · have h6 := mul_ltR hlt he0
        have i4 : (c + 1) * side * (2 * e) = 2 * ((c + 1) * side * e) := by grobner
        omega
    have d1 := mul_leR b1 (show 0 ≤ dx by omega)
    have d2 := mul_ltR b2 hd
    have d3 := mul_leR w2 (show 0 ≤ e by omega)
    have d4 := mul_ltR w3 he0
    exact hon (2 * (py * dx) - W) (2 * (e * dx)) hv (by omega) (by omega) (le_tr d1 (by grobner)) (lt_tr d2 (by grobner)) (le_tr d3 (by grobner)) (lt_tr d4 (by grobner))
  · -- level
    subst hy
    rw [if_neg (by omega)] at h4
    have g2 : r * (dx * side) ≤ max F T := (Int.le_ediv_iff_mul_le hm).1 h4
    have hFT : F = T := by grobner
    have e1 : F = py * dx := by grobner
    have g1' : F < (r + 1) * (dx * side) := by omega
    have g2' : r * (dx * side) ≤ F := by omega
    have c1 := mul_leR hbb (show 0 ≤ dx by omega)
    have c2 := mul_ltR hX0 hd
    exact hon (X0 - px) dx hd (by omega) (by omega) (le_tr c1 (by grobner)) (lt_tr c2 (by grobner)) (le_tr g2' (by grobner)) (lt_tr g1' (by grobner))
  · -- to the north
    have c1 := mul_leR hc (show 0 ≤ dy by omega)
    have hTF : F ≤ T := le_tr c1 (by grobner)
    have hFT : X0 < X1 → F < T := fun h => lt_tr (mul_ltR h hy) (by grobner)
    rw [Int.max_eq_right hTF] at h4
    rw [Int.min_eq_left hTF] at g1
    generalize hmm : dx * side = m at *
    have t1 : T / m * m ≤ T := Int.ediv_mul_le T (by omega)
    have g2 : r * m ≤ T ∧ (c < qx / side → r * m < T) := by
      by_cases hz : c < qx / side ∧ 0 < dy ∧ T.tmod m = 0
      · rw [if_pos hz] at h4
        have h5 := mul_leR h4 (show 0 ≤ m by omega)
        have h6 : (T / m - 1) * m = T / m * m - m := by grobner
        omega
      · rw [if_neg hz] at h4
        have h5 := mul_leR h4 (show 0 ≤ m by omega)
        refine ⟨by omega, fun hc' => ?_⟩
        by_cases hne : r * m = T
        · exact absurd ⟨hc', hy, Int.dvd_iff_tmod_eq_zero.1 ⟨r, by rw [← hne, Int.mul_comm]⟩⟩ hz
        · omega
    have e1 : (r + 1) * m = r * m + m := by grobner
    obtain ⟨W, hW⟩ : ∃ W, W = max F (r * m) := ⟨_, rfl⟩
    have w1 : F ≤ W := by omega
    have w2 : r * m ≤ W := by omega
    have w3 : W < (r + 1) * m := by omega
    have w4 : W ≤ T := by omega
    have w5 : c < qx / side ∧ X0 < X1 → W < T := fun h => by have := hFT h.2; have := g2.2 h.1; omega
    clear hW h4 g1 g2
    have hv : 0 < dy * dx := Int.mul_pos hy hd
    have c2 := mul_leR hbb (show 0 ≤ dy by omega)
    have c3 := mul_leR ha (show 0 ≤ dy by omega)
    have c4 := mul_leR hdd (show 0 ≤ dy by omega)
    have i1 : F = py * dx + X0 * dy - px * dy := by grobner
    have i3 : T = py * dx + X1 * dy - px * dy := by grobner
    have i7 : dy * dx = qx * dy - px * dy := by grobner
    have b1 : c * side * dy ≤ px * dy + W - py * dx := by omega
    have b2 : px * dy + W - py * dx < (c + 1) * side * dy := by
      rcases he with ⟨hcc, hx, hlt⟩ | ⟨_, hx, hlt⟩
      · have h6 := w5 ⟨hcc, hlt⟩
        rw [← hx]; omega
      · have h6 := mul_ltR hlt hy
        omega
    have d1 := mul_leR b1 (show 0 ≤ dx by omega)
    have d2 := mul_ltR b2 hd
    have d3 := mul_leR w2 (show 0 ≤ dy by omega)
    have d4 := mul_ltR w3 hy
    exact hon (W - py * dx) (dy * dx) hv (by omega) (by omega) (le_tr d1 (by grobner)) (lt_tr d2 (by grobner)) (le_tr d3 (by grobner)) (lt_tr d4 (by grobner))
/-- Each tile with a point of the way is told. -/
theorem onT_in (hb : StB px py qx qy side) {t : TileR} (h : OnT px py qx qy side t) : t ∈ eastT px py qx qy side := by
  have hs : 0 < side := by have := hb.bs; omega
  obtain ⟨u, v, hv, hu0, hu1, rfl⟩ := h
  have hvs : 0 < v * side := Int.mul_pos hv hs
  obtain ⟨c, hc⟩ : ∃ c, c = (px * v + (qx - px) * u) / (v * side) := ⟨_, rfl⟩
  obtain ⟨r, hr⟩ : ∃ r, r = (py * v + (qy - py) * u) / (v * side) := ⟨_, rfl⟩
  rw [mem_eastT]
  unfold ptT
  dsimp only
  rw [← hc, ← hr]
  obtain ⟨c1, c2⟩ := (ediv_iff hvs).1 hc.symm
  obtain ⟨r1, r2⟩ := (ediv_iff hvs).1 hr.symm
  have hle := hb.le
  have ux := mul_leR hu1 (show 0 ≤ qx - px by omega)
  have ux0 := Int.mul_nonneg hu0 (show 0 ≤ qx - px by omega)
  have hA : px / side ≤ c := by
    rw [hc]
    refine (Int.le_ediv_iff_mul_le hvs).2 ?_
    have a1 := mul_leR (Int.ediv_mul_le px (show side ≠ 0 by omega)) (show 0 ≤ v by omega)
    generalize px / side = z at *
    grind
  have hB : c ≤ qx / side := by
    refine (Int.le_ediv_iff_mul_le hs).2 (Int.le_of_mul_le_mul_right (a := v) ?_ hv)
    grind
  refine ⟨hA, hB, ?_⟩
  by_cases hd : qx - px = 0
  · rw [stLo, stHi, if_pos hd, if_pos hd]
    rcases Int.le_total 0 (qy - py) with hy | hy
    · have uy := mul_leR hu1 hy
      have uy0 := Int.mul_nonneg hu0 hy
      rw [Int.min_eq_left (by omega), Int.max_eq_right (by omega)]
      constructor
      · rw [hr]
        refine (Int.le_ediv_iff_mul_le hvs).2 ?_
        have a1 := mul_leR (Int.ediv_mul_le py (show side ≠ 0 by omega)) (show 0 ≤ v by omega)
        generalize py / side = z at *
        grind
      · refine (Int.le_ediv_iff_mul_le hs).2 (Int.le_of_mul_le_mul_right (a := v) ?_ hv)
        grind
    · have uy := mul_leR hu1 (show 0 ≤ -(qy - py) by omega)
      have uy0 := Int.mul_nonneg hu0 (show 0 ≤ -(qy - py) by omega)
      rw [Int.min_eq_right (by omega), Int.max_eq_left (by omega)]
      constructor
      · rw [hr]
        refine (Int.le_ediv_iff_mul_le hvs).2 ?_
        have a1 := mul_leR (Int.ediv_mul_le qy (show side ≠ 0 by omega)) (show 0 ≤ v by omega)
        generalize qy / side = z at *
        grind
      · refine (Int.le_ediv_iff_mul_le hs).2 (Int.le_of_mul_le_mul_right (a := v) ?_ hv)
        grind
  · have hd0 : 0 < qx - px := by omega
    obtain ⟨X1, hE⟩ := colE hb hA hB
    have hX0 : max px (c * side) * v ≤ px * v + (qx - px) * u := by
      rcases Int.le_total px (c * side) with h | h
      · rw [Int.max_eq_right h]; exact le_tr c1 (by grobner)
      · rw [Int.max_eq_left h]; exact le_tr ux0 (by grobner)
    generalize max px (c * side) = X0 at *
    have hm : 0 < (qx - px) * side := Int.mul_pos hd0 hs
    rw [stLo, if_neg hd, stHi, if_neg hd]
    have hF := hE.eF
    have hT := hE.eT
    generalize stFrom px py qx qy side c = F at *
    generalize stTo px py qx qy side c = T at *
    have hX1 : px * v + (qx - px) * u ≤ X1 * v ∧ (c < qx / side → px * v + (qx - px) * u < X1 * v) := by
      rcases hE.ee with ⟨hcc, hx, hlt⟩ | ⟨hcc, hx, hlt⟩
      · rw [hx]; exact ⟨Int.le_of_lt (lt_tr c2 (by grobner)), fun _ => lt_tr c2 (by grobner)⟩
      · rw [hx]; exact ⟨le_tr ux (by grobner), fun h => absurd h hcc⟩
    have hc01 := hE.ec
    clear hE hc hr hA hB c1 c2 ux ux0
    have q1 := mul_leR r1 (show 0 ≤ qx - px by omega)
    have q2 := mul_ltR r2 hd0
    clear r1 r2
    obtain ⟨dx, hdx⟩ : ∃ dx, dx = qx - px := ⟨_, rfl⟩
    obtain ⟨dy, hdy⟩ : ∃ dy, dy = qy - py := ⟨_, rfl⟩
    rw [← hdx] at hd0 hm hF hT q1 q2 hX0 hX1 ⊢
    rw [← hdy] at hF hT q1 q2 ⊢
    obtain ⟨A, hA⟩ : ∃ A, A = px * v + dx * u := ⟨_, rfl⟩
    rw [← hA] at hX0 hX1
    obtain ⟨Bd, hBd⟩ : ∃ Bd, Bd = (py * v + dy * u) * dx := ⟨_, rfl⟩
    rw [← hBd] at q1 q2
    have hBd' : Bd = v * (py * dx) + dy * (A - px * v) := by rw [hBd, hA]; grobner
    generalize hmm : dx * side = m at *
    have q1' : r * m * v ≤ Bd := le_tr q1 (by grobner)
    have q2' : Bd < (r + 1) * m * v := lt_tr q2 (by grobner)
    clear q1 q2 hBd
    rcases Int.le_total 0 dy with hy | hy
    · have p1 := mul_leR hX0 hy
      have p2 := mul_leR hX1.1 hy
      have f1 : F * v ≤ Bd := le_tr p1 (by grobner)
      have f2 : Bd ≤ T * v := le_tr p2 (by grobner)
      have hTF : F ≤ T := le_tr (mul_leR hc01 hy) (by grobner)
      rw [Int.min_eq_left hTF, Int.max_eq_right hTF]
      constructor
      · have : F < (r + 1) * m := Int.lt_of_mul_lt_mul_right (a := v) (by omega) (by omega)
        have := (Int.ediv_lt_iff_lt_mul hm).2 this
        omega
      · have k1 : r * m ≤ T := Int.le_of_mul_le_mul_right (a := v) (by omega) hv
        have k2 := (Int.le_ediv_iff_mul_le hm).2 k1
        split
        · rename_i hz
          have p3 := mul_ltR (hX1.2 hz.1) hz.2.1
          have f3 : Bd < T * v := lt_tr p3 (by grobner)
          have k3 : r * m < T := Int.lt_of_mul_lt_mul_right (a := v) (by omega) (by omega)
          have hdv : m ∣ T := (Int.dvd_iff_tmod_eq_zero).2 hz.2.2
          have k4 : T / m * m = T := Int.ediv_mul_cancel hdv
          have : r ≠ T / m := fun h => by rw [h, k4] at k3; omega
          omega
        · exact k2
    · have p1 := mul_leR hX0 (show 0 ≤ -dy by omega)
      have p2 := mul_leR hX1.1 (show 0 ≤ -dy by omega)
      have f1 : T * v ≤ Bd := le_tr p2 (by grobner)
      have f2 : Bd ≤ F * v := le_tr p1 (by grobner)
      have hTF : T ≤ F := le_tr (mul_leR hc01 (show 0 ≤ -dy by omega)) (by grobner)
      rw [Int.min_eq_right hTF, Int.max_eq_left hTF, if_neg (by omega)]
      constructor
      · have : T < (r + 1) * m := Int.lt_of_mul_lt_mul_right (a := v) (by omega) (by omega)
        have := (Int.ediv_lt_iff_lt_mul hm).2 this
        omega
      · have k1 : r * m ≤ F := Int.le_of_mul_le_mul_right (a := v) (by omega) hv
        exact (Int.le_ediv_iff_mul_le hm).2 k1
theorem eastT_iff (hb : StB px py qx qy side) {t : TileR} : t ∈ eastT px py qx qy side ↔ OnT px py qx qy side t := by
  constructor
  · intro h
    obtain ⟨h1, h2, h3, h4⟩ := mem_eastT.1 h
    obtain ⟨c, r⟩ := t
    dsimp only at h1 h2 h3 h4
    by_cases hd : qx - px = 0
    · rw [stLo, if_pos hd] at h3
      rw [stHi, if_pos hd] at h4
      exact onT_flat hb hd h1 h2 h3 h4
    · exact onT_steep hb (by have := hb.le; omega) h1 h2 h3 h4
  · exact onT_in hb
end
/-! #### halves -/
def halfT (t : TileR) : TileR := (t.1 / 2, t.2 / 2)
theorem ptT_half {px py qx qy side u v : Int} (hs : 0 < side) (hv : 0 < v) : ptT px py qx qy (2 * side) u v = halfT (ptT px py qx qy side u v) := by
  have h0 : 0 ≤ v * side := Int.le_of_lt (Int.mul_pos hv hs)
  unfold ptT halfT
  rw [Int.ediv_ediv_of_nonneg h0, Int.ediv_ediv_of_nonneg h0, show v * (2 * side) = v * side * 2 by grobner]
theorem onT_half {px py qx qy side : Int} (hs : 0 < side) {t : TileR} : OnT px py qx qy (2 * side) t ↔ ∃ s, OnT px py qx qy side s ∧ t = halfT s := by
  constructor
  · rintro ⟨u, v, hv, h0, h1, rfl⟩
    exact ⟨_, ⟨u, v, hv, h0, h1, rfl⟩, ptT_half hs hv⟩
  · rintro ⟨s, ⟨u, v, hv, h0, h1, rfl⟩, rfl⟩
    exact ⟨u, v, hv, h0, h1, (ptT_half hs hv).symm⟩
theorem onT_end {px py qx qy side : Int} (hs : 0 < side) : OnT px py qx qy side (cellR qx qy side) ∧ OnT px py qx qy side (cellR px py side) := by
  refine ⟨⟨1, 1, by omega, by omega, by omega, ?_⟩, ⟨0, 1, by omega, by omega, by omega, ?_⟩⟩
  · unfold cellR ptT
    rw [Int.one_mul, Int.mul_one, Int.mul_one, Int.mul_one, Int.mul_one, show px + (qx - px) = qx by omega, show py + (qy - py) = qy by omega]
  · unfold cellR ptT
    rw [Int.one_mul, Int.mul_one, Int.mul_zero, Int.mul_one, Int.mul_zero, Int.add_zero, Int.add_zero]
theorem StB.two {px py qx qy side : Int} (h : StB px py qx qy side) (h2 : 2 * side ≤ 10000000) : StB px py qx qy (2 * side) := ⟨h.bpx, h.bpy, h.bqx, h.bqy, by have := h.bs; omega, h.le⟩
/-- What a step's list holds. -/
theorem stepT_two {p q : SmpR} {side : Int} (hp : PlaceOk p) (hq : PlaceOk q) (hs : inB side 1 10000000 = true) (hs2 : inB (2 * side) 1 10000000 = true) {t : TileR} :
    t ∈ stepT p.x p.y q.x q.y (2 * side) ↔ ∃ s, s ∈ stepT p.x p.y q.x q.y side ∧ t = halfT s := by
  have hs0 := inB_iff.1 hs
  have hs1 := inB_iff.1 hs2
  unfold stepT
  by_cases h : p.x > q.x
  · rw [if_pos h]
    have hb := stB_of hq hp hs (by omega)
    rw [eastT_iff (hb.two (by omega)), onT_half (by omega)]
    constructor
    · rintro ⟨s, h1, h2⟩; exact ⟨s, by rw [if_pos h, eastT_iff hb]; exact h1, h2⟩
    · rintro ⟨s, h1, h2⟩; rw [if_pos h, eastT_iff hb] at h1; exact ⟨s, h1, h2⟩
  · rw [if_neg h]
    have hb := stB_of hp hq hs (by omega)
    rw [eastT_iff (hb.two (by omega)), onT_half (by omega)]
    constructor
    · rintro ⟨s, h1, h2⟩; exact ⟨s, by rw [if_neg h, eastT_iff hb]; exact h1, h2⟩
    · rintro ⟨s, h1, h2⟩; rw [if_neg h, eastT_iff hb] at h1; exact ⟨s, h1, h2⟩
theorem stepT_end {p q : SmpR} {side : Int} (hp : PlaceOk p) (hq : PlaceOk q) (hs : inB side 1 10000000 = true) : cellR q.x q.y side ∈ stepT p.x p.y q.x q.y side := by
  have hs0 := inB_iff.1 hs
  unfold stepT
  by_cases h : p.x > q.x
  · rw [if_pos h, eastT_iff (stB_of hq hp hs (by omega))]; exact (onT_end (by omega)).2
  · rw [if_neg h, eastT_iff (stB_of hp hq hs (by omega))]; exact (onT_end (by omega)).1
/-! #### an activity's tiles -/
theorem mem_pS {D : TM} {t s : TileR} : s ∈ pKeys (pS D t true) ↔ s ∈ pKeys D ∨ s = t := by
  rw [pKeys_pS]
  by_cases h : t ∈ pKeys D
  · rw [if_pos h]
    constructor
    · exact .inl
    · rintro (h1 | rfl)
      · exact h1
      · exact h
  · rw [if_neg h, List.mem_append, List.mem_singleton]
theorem mem_capC : ∀ (L : List TileR) {D : TM} {s : TileR}, (capC D L).length ≤ 100000 → (s ∈ pKeys (capC D L) ↔ s ∈ pKeys D ∨ s ∈ L)
  | [], D, s, h => by rw [capC]; simp
  | t :: r, D, s, h => by
    rw [capC] at h ⊢
    by_cases h1 : D.length ≤ 100000
    · rw [if_pos h1] at h ⊢
      rw [mem_capC r h, mem_pS, List.mem_cons, or_assoc]
    · rw [if_neg h1] at h
      exact absurd h h1
def atT (ss : List SmpR) (side : Int) : TM := capC [] (tlN ss side ss.length)
theorem mem_atT {ss : List SmpR} {side : Int} (h : (atT ss side).length ≤ 100000) {t : TileR} : t ∈ pKeys (atT ss side) ↔ ∃ i p q, ss[i - 1]? = some p ∧ ss[i]? = some q ∧ t ∈ stepT p.x p.y q.x q.y side := by
  unfold atT at *
  rw [mem_capC _ h]
  simp only [pKeys, List.map_nil, List.not_mem_nil, false_or]
  unfold tlN
  rw [List.mem_flatMap]
  constructor
  · rintro ⟨i, hi, ht⟩
    rw [List.mem_range] at hi
    have h1 := List.getElem?_eq_getElem hi
    have h2 := List.getElem?_eq_getElem (l := ss) (i := i - 1) (by omega)
    rw [stN_is h2 h1] at ht
    exact ⟨i, _, _, h2, h1, ht⟩
  · rintro ⟨i, p, q, h1, h2, ht⟩
    exact ⟨i, List.mem_range.2 (List.getElem?_eq_some_iff.1 h2).1, by rw [stN_is h1 h2]; exact ht⟩
structure SeenOk (a : ActD) (side : Int) : Prop where
  good : GoodA a
  s1 : inB side 1 10000000 = true
  s2 : inB (2 * side) 1 10000000 = true
  l1 : (atT a.ss side).length ≤ 100000
  l2 : (atT a.ss (2 * side)).length ≤ 100000
theorem tilesR_ok {a : ActD} {side : Int} (h : (tilesR a side).2 = 0) : chkA a = 0 ∧ inB side 1 10000000 = true ∧ (atT a.ss side).length ≤ 100000 ∧ (tilesR a side).1 = sortL tlt (pKeys (atT a.ss side)) := by
  unfold tilesR at *
  by_cases h1 : chkA a ≠ 0
  · rw [if_pos h1] at h; exact absurd h h1
  rw [if_neg h1] at h ⊢
  by_cases h2 : inB side 1 10000000 = false
  · rw [if_pos h2] at h; cases h
  rw [if_neg h2] at h ⊢
  by_cases h3 : (capC [] (tlN a.ss side a.ss.length)).length > 100000
  · rw [if_pos h3] at h; cases h
  rw [if_neg h3]
  exact ⟨by omega, by simpa using h2, by unfold atT; omega, rfl⟩
theorem SeenOk.two {a : ActD} {side : Int} (h : SeenOk a side) {t : TileR} : t ∈ pKeys (atT a.ss (2 * side)) ↔ ∃ s, s ∈ pKeys (atT a.ss side) ∧ t = halfT s := by
  have hok := h.good.smp
  rw [mem_atT h.l2]
  constructor
  · rintro ⟨i, p, q, h1, h2, h3⟩
    obtain ⟨s, h4, h5⟩ := (stepT_two (hok.place (List.mem_of_getElem? h1)) (hok.place (List.mem_of_getElem? h2)) h.s1 h.s2).1 h3
    exact ⟨s, (mem_atT h.l1).2 ⟨i, p, q, h1, h2, h4⟩, h5⟩
  · rintro ⟨s, h3, h4⟩
    obtain ⟨i, p, q, h1, h2, h5⟩ := (mem_atT h.l1).1 h3
    exact ⟨i, p, q, h1, h2, (stepT_two (hok.place (List.mem_of_getElem? h1)) (hok.place (List.mem_of_getElem? h2)) h.s1 h.s2).2 ⟨s, h5, h4⟩⟩
theorem SeenOk.cell {a : ActD} {side : Int} (h : SeenOk a side) {i : Nat} {x : SmpR} (hx : a.ss[i]? = some x) : cellR x.x x.y side ∈ pKeys (atT a.ss side) := by
  have hok := h.good.smp
  obtain ⟨h1, rfl⟩ := List.getElem?_eq_some_iff.1 hx
  have h2 := List.getElem?_eq_getElem (l := a.ss) (i := i - 1) (by omega)
  exact (mem_atT h.l1).2 ⟨i, _, _, h2, hx, stepT_end (hok.place (List.mem_of_getElem? h2)) (hok.place (List.mem_of_getElem? hx)) h.s1⟩
theorem SeenOk.bd {a : ActD} {side : Int} (h : SeenOk a side) {t : TileR} (ht : t ∈ pKeys (atT a.ss side)) : (-9000000000000000000 ≤ t.1 ∧ t.1 ≤ 9000000000000000000) ∧ (-9000000000000000000 ≤ t.2 ∧ t.2 ≤ 9000000000000000000) := by
  have hok := h.good.smp
  obtain ⟨i, p, q, h1, h2, h3⟩ := (mem_atT h.l1).1 ht
  have hp := hok.place (List.mem_of_getElem? h1)
  have hq := hok.place (List.mem_of_getElem? h2)
  have key : ∀ {px py qx qy : Int}, StB px py qx qy side → t ∈ eastT px py qx qy side → (-9000000000000000000 ≤ t.1 ∧ t.1 ≤ 9000000000000000000) ∧ (-9000000000000000000 ≤ t.2 ∧ t.2 ≤ 9000000000000000000) := by
    intro px py qx qy hb hm
    obtain ⟨e1, e2, e3, e4⟩ := mem_eastT.1 hm
    have hs := hb.bs; have hx := hb.bpx; have hx2 := hb.bqx
    have f1 := flo_bd (a := px) (b := side) (by omega) (N := 100000000) (by omega)
    have f2 := flo_bd (a := qx) (b := side) (by omega) (N := 100000000) (by omega)
    have f3 := stBds hb e1 e2
    omega
  unfold stepT at h3
  by_cases hx : p.x > q.x
  · rw [if_pos hx] at h3; exact key (stB_of hq hp h.s1 (by omega)) h3
  · rw [if_neg hx] at h3; exact key (stB_of hp hq h.s1 (by omega)) h3
def halfD (L : List TileR) : TM := L.foldl (fun D s => pS D (halfT s) true) []
theorem halfD_pO : ∀ (L : List TileR) (D : TM) (t : TileR), pO (L.foldl (fun D s => pS D (halfT s) true) D) t = if t ∈ L.map halfT then some true else pO D t
  | [], D, t => by simp
  | s :: r, D, t => by
    rw [List.foldl_cons, halfD_pO r, pO_pS]
    by_cases h : t ∈ r.map halfT
    · rw [if_pos h, if_pos (by rw [List.map_cons]; exact List.mem_cons_of_mem _ h)]
    · rw [if_neg h]
      by_cases h2 : halfT s = t
      · rw [if_pos h2, if_pos (by rw [List.map_cons, h2]; exact List.mem_cons_self ..)]
      · rw [if_neg h2, if_neg (by rw [List.map_cons, List.mem_cons]; intro h3; exact h3.elim (fun h4 => h2 h4.symm) h)]
theorem halfD_nodup : ∀ (L : List TileR) (D : TM), (pKeys D).Nodup → (pKeys (L.foldl (fun D s => pS D (halfT s) true) D)).Nodup
  | [], D, h => h
  | s :: r, D, h => by rw [List.foldl_cons]; exact halfD_nodup r _ (nodup_pS h)
theorem halfD_take {L : List TileR} {k : Nat} {x : TileR} (h : L[k]? = some x) : pS (halfD (L.take k)) (halfT x) true = halfD (L.take (k + 1)) := by
  obtain ⟨h1, rfl⟩ := List.getElem?_eq_some_iff.1 h
  unfold halfD
  rw [List.take_succ_eq_append_getElem h1, List.foldl_append]; rfl
theorem halfD_mem {L : List TileR} {t : TileR} : t ∈ pKeys (halfD L) ↔ t ∈ L.map halfT := by
  have h := halfD_pO L [] t
  have h2 := @pO_none TileR Bool _ t (halfD L)
  by_cases hm : t ∈ L.map halfT
  · rw [if_pos hm] at h
    refine ⟨fun _ => hm, fun _ => Decidable.byContradiction fun hn => ?_⟩
    have := h2.2 hn
    unfold halfD at this
    rw [h] at this; cases this
  · rw [if_neg hm] at h
    refine ⟨fun h3 => ?_, fun h3 => absurd h3 hm⟩
    exact absurd h3 (h2.1 (by unfold halfD; rw [h]; rfl))
theorem SeenOk.len {a : ActD} {side : Int} (h : SeenOk a side) {l m : List TileR} (hl : l = sortL tlt (pKeys (atT a.ss side))) (hm : m = sortL tlt (pKeys (atT a.ss (2 * side)))) : (∀ t ∈ m, pO (halfD l) t = some true) ∧ (halfD l).length = m.length := by
  have hmem : ∀ t, t ∈ m ↔ t ∈ l.map halfT := fun t => by
    rw [hm, (sortL_perm _).mem_iff, h.two, List.mem_map]
    constructor
    · rintro ⟨s, h1, h2⟩; exact ⟨s, by rw [hl, (sortL_perm _).mem_iff]; exact h1, h2.symm⟩
    · rintro ⟨s, h1, h2⟩; rw [hl, (sortL_perm _).mem_iff] at h1; exact ⟨s, h1, h2.symm⟩
  refine ⟨fun t ht => ?_, ?_⟩
  · have h1 := halfD_pO l [] t
    rw [if_pos ((hmem t).1 ht)] at h1
    exact h1
  · have hp : (pKeys (halfD l)).Perm m := by
      refine (List.perm_ext_iff_of_nodup (halfD_nodup l [] List.nodup_nil) ?_).2 fun t => ?_
      · rw [hm, (sortL_perm _).nodup_iff]; exact tlN_nodup _ _ _
      · show t ∈ pKeys (halfD l) ↔ t ∈ m
        rw [halfD_mem, hmem]
    rw [← keys_len, hp.length_eq]
end Go.Proofs.Ytjflbnbofedlkaa
