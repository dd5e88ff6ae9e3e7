/-
  The tiles of an activity, by the reference: the whole.
-/
import Derived.Test.YtjflbnbofedlkaaXmA
import Derived.Test.YtjflbnbofedlkaaXmB
import Derived.Test.YtjflbnbofedlkaaXmC
import Derived.Test.YtjflbnbofedlkaaXmD
import Derived.Test.YtjflbnbofedlkaaXmE
import Derived.Test.YtjflbnbofedlkaaXmF
import Derived.Test.YtjflbnbofedlkaaXmG

namespace Go.Proofs.Ytjflbnbofedlkaa
open Go Go.RowKit Hx
set_option linter.unusedVariables false
set_option linter.unusedSimpArgs false
set_option maxRecDepth 8000
theorem ref5_Tiles (A : ActV) (side : Int) (w : World) (hA : A.Ok w.heap.size w) :
    Calls Try.prog 17 #[.agg #[.string A.name, .int .i64 A.sport, .int .i64 A.start, .slice A.sa A.sn A.sc, .slice A.la A.ln A.lc, .slice A.ta A.tn A.tc], .int .i64 side] w fun e w' => ∃ b m k, e = .returned (.tuple #[.slice b m k, .int .i64 (tilesR A.d side).2]) ∧ Fresh encTile 42 w w' b m k (tilesR A.d side).1 := by
  have hsn := hA.s.len
  have hsf := hA.s.fit
  refine enterQ (N := 71) (C := fun _ => True) (H := []) (B := w.heap.size) (args := [_, _]) Try.func17 rfl rfl rfl (Nat.le_refl _) (Sat.nil _ _) fun Q hQ => ?_
  refine wp_seq' fun K1 hK1 => ?_
  refine wp_reg ?_
  refine ol_box 2 rfl rfl rfl fun b2 => ?_
  refine ol_r (r_assign rfl) rfl ?_
  refine ol_r (r_assign rfl) rfl ?_
  refine ol_nil (to_k0 (fun _ _ h => h) (hK1 _ _ _ _ _ ?_))
  clear hK1
  refine wp_seq' fun K2 hK2 => ?_
  refine wp_seq' fun K3 hK3 => ?_
  refine wp_reg ?_
  refine ol_r (r_lda (id := 2) (n := 6) rfl rfl rfl ag39) rfl ?_
  refine ol_call rfl rfl cb60 rfl (fun w1 hb1 hs1 hB1 => Calls.mono (ref2_Check A _ (hA.at hb1 hB1)) ?_)
  rintro e w2 ⟨rfl, hb2⟩
  refine After.below rfl hb1 hs1 hB1 hb2 ?_
  clear hb2 hB1 hs1 hb1 w2 w1
  refine ol_r (r_assign rfl) rfl ?_
  refine ol_nil (to_k0 (fun _ _ h => h) (hK3 _ _ _ _ _ ?_))
  clear hK3
  refine wp_seq' fun K4 hK4 => ?_
  refine wp_reg ?_
  refine ol_r (r_move rfl) rfl ?_
  refine ol_r (r_neq rfl rfl) rfl ?_
  refine ol_nil (to_k0 (fun _ _ h => h) (hK4 _ _ _ _ _ ?_))
  clear hK4
  first | refine wp_condD rfl (fun hc17 => ?_) (fun hc17 => ?_) | refine wp_condN rfl (fun hc17 => ?_) (fun hc17 => ?_) | refine wp_condNB rfl (fun hc17 => ?_) (fun hc17 => ?_) | refine wp_cond' rfl (fun hc17 => ?_) (fun hc17 => ?_)
  ·refine wp_seq' fun K5 hK5 => ?_
   refine wp_reg ?_
   refine ol_r (r_move rfl) rfl ?_
   refine ol_r (r_assign rfl) rfl ?_
   refine ol_r (r_assign rfl) rfl ?_
   refine ol_nil (to_k0 (fun _ _ h => h) (hK5 _ _ _ _ _ ?_))
   clear hK5
   refine hQ.ret (rvs2 (rv_t rfl) (rv_t rfl)) (fun _ _ h => h) fun w hb hs hB hkd => ?_
   exact ⟨none, 0, 0, by rw [tilesR_e hc17], by rw [tilesR_e hc17]; exact Fresh.nil hb⟩
  ·refine wp_skip' (to_k0 (fun _ _ h => h) (hK2 _ _ _ _ _ ?_))
   clear hK2
   refine wp_seq' fun K6 hK6 => ?_
   refine wp_seq' fun K7 hK7 => ?_
   refine wp_reg ?_
   refine ol_r (r_move rfl) rfl ?_
   refine ol_call rfl rfl cb47 rfl (fun w1 hb1 hs1 hB1 => Calls.mono (ref5_outside _ _ _ _) ?_)
   rintro e w2 ⟨rfl, hb2⟩
   refine After.below rfl hb1 hs1 hB1 hb2 ?_
   clear hb2 hB1 hs1 hb1 w2 w1
   refine ol_nil (to_k0 (fun _ _ h => h) (hK7 _ _ _ _ _ ?_))
   clear hK7
   first | refine wp_condD rfl (fun hc20 => ?_) (fun hc20 => ?_) | refine wp_condN rfl (fun hc20 => ?_) (fun hc20 => ?_) | refine wp_condNB rfl (fun hc20 => ?_) (fun hc20 => ?_) | refine wp_cond' rfl (fun hc20 => ?_) (fun hc20 => ?_)
   ·refine wp_seq' fun K8 hK8 => ?_
    refine wp_reg ?_
    refine ol_r (r_assign rfl) rfl ?_
    refine ol_r (r_assign rfl) rfl ?_
    refine ol_nil (to_k0 (fun _ _ h => h) (hK8 _ _ _ _ _ ?_))
    clear hK8
    refine hQ.ret (rvs2 (rv_t rfl) (rv_t rfl)) (fun _ _ h => h) fun w hb hs hB hkd => ?_
    have hc := Decidable.not_not.1 hc17
    have h9 : inB side 1 10000000 = false := by simpa using hc20
    exact ⟨none, 0, 0, by rw [tilesR_9 hc h9], by rw [tilesR_9 hc h9]; exact Fresh.nil hb⟩
   ·refine wp_skip' (to_k0 (fun _ _ h => h) (hK6 _ _ _ _ _ ?_))
    clear hK6
    refine wp_seq' fun K9 hK9 => ?_
    refine wp_reg ?_
    have hok := (goodA (Decidable.not_not.1 hc17)).smp
    have hl20 := hok.len
    refine ol_mkmapE (encTile.val) (Value.bool) 21 rfl fun b21 => ?_
    refine ol_r (r_assign rfl) rfl ?_
    refine ol_nil (to_k0 (fun _ _ h => h) (hK9 _ _ _ _ _ ?_))
    clear hK9
    refine wp_seq' fun K10 hK10 => ?_
    refine wp_seq' fun K11 hK11 => ?_
    refine wp_reg ?_
    refine ol_r (r_fa (o' := 3) rfl fl39_3 rfl) rfl ?_
    refine ol_r (r_ld (id := 2) rfl rfl rfl sc35) rfl ?_
    refine ol_r (r_len rfl sl35) rfl ?_
    refine ol_r (r_move rfl) rfl ?_
    refine ol_nil (to_k0 (fun _ _ h => h) (hK11 _ _ _ _ _ ?_))
    clear hK11
    refine wp_block' ?_
    apply wp_loopM (σ := Nat × TM) (fun s => s.1 ≤ A.ss.length ∧ s.2 = capC [] (tlN A.ss side s.1) ∧ s.2.length ≤ 100000) (fun s => [(25, .int .i64 s.1)]) [(1, _), (2, _), (7, _), (23, _), (24, _)] (fun s => [(21, .ob b21 (MapO (pEnc encTile.val Value.bool s.2)))]) [(2, _)] (fun s => A.ss.length - s.1) ((0, []))
    ·try dsimp only
     exact ⟨Nat.zero_le _, rfl, by simp⟩
    ·exact (sub_cons rfl sub_nil)
    ·exact (sub_cons rfl (sub_cons rfl (sub_cons rfl (sub_cons rfl (sub_cons rfl sub_nil)))))
    ·exact (subH_same rfl subH_nil)
    ·exact (subH_same rfl subH_nil)
    ·rintro ⟨k, D1⟩ ⟨hk, hD, hl⟩
     dsimp only at hk hD hl ⊢
     intro K12 hK12
     refine wp_seq' fun K13 hK13 => ?_
     refine wp_reg ?_
     refine ol_r (r_lss rfl rfl) rfl ?_
     refine ol_nil (to_k0 (fun _ _ h => h) (hK13 _ _ _ _ _ ?_))
     clear hK13
     refine wp_seq' fun K14 hK14 => ?_
     first | refine wp_condD rfl (fun hc26 => ?_) (fun hc26 => ?_) | refine wp_condN rfl (fun hc26 => ?_) (fun hc26 => ?_) | refine wp_condNB rfl (fun hc26 => ?_) (fun hc26 => ?_) | refine wp_cond' rfl (fun hc26 => ?_) (fun hc26 => ?_)
     ·refine wp_skip' (to_k0 (fun _ _ h => h) (hK14 _ _ _ _ _ ?_))
      clear hK14
      refine wp_seq' fun K15 hK15 => ?_
      refine wp_block' ?_
      refine wp_seq' fun K16 hK16 => ?_
      refine wp_reg ?_
      refine ol_r (r_move rfl) rfl ?_
      refine ol_ixr hA.s rfl rfl sl35 (by omega) rfl fun x28 hx28 => ?_
      try simp only [Int.toNat_natCast] at hx28
      refine ol_r (r_ldw rfl (fun w1 hb1 hs1 hB1 => Rd.loads hA.s ty51 hx28 hb1)) rfl ?_
      refine ol_alloc 9 z51 rfl fun b9 => ?_
      refine ol_r (r_assign rfl) rfl ?_
      refine ol_store (id := 9) rfl rfl rfl rfl sz51 rfl rfl (by first | decide | exact Nat.zero_lt_succ _ | simp) ?_
      refine ol_nil (to_k0 (fun _ _ h => h) (hK16 _ _ _ _ _ ?_))
      clear hK16
      apply wp_seq_cutM (σ := Nat × Nat) (fun s => True) (fun s => [(10, .pointer (some ⟨s.1, 0, none⟩)), (11, .pointer (some ⟨s.2, 0, none⟩))]) [(1, _), (2, _), (7, _), (8, _), (23, _), (24, _), (25, _)] (fun s => [(10, .blk s.1 [(0, .int .i64 x28.x), (1, .int .i64 x28.y)] 41), (11, .blk s.2 [(0, .int .i64 x28.x), (1, .int .i64 x28.y)] 41)]) [(2, _), (9, _), (21, _)]
      ·exact (sub_cons rfl (sub_cons rfl (sub_cons rfl (sub_cons rfl (sub_cons rfl (sub_cons rfl (sub_cons rfl sub_nil)))))))
      ·exact (subH_same rfl (subH_same rfl (subH_same rfl subH_nil)))
      ·intro K17 hK17
       refine wp_rega [(999, [(2, _), (9, _), (21, _)])] (by kernel_rfl) ⟨.inr (subH_same rfl (subH_same rfl (subH_same rfl subH_nil))), trivial⟩ ?_
       refine aq_r 0 999 rfl (by kernel_rfl) (by kernel_rfl) (by kernel_rfl) (.head _) (by kernel_rfl) (by kernel_rfl) rfl (r_lda (id := 9) (n := 7) rfl rfl rfl ag51) ?_
       refine aq_r 2 999 rfl (by kernel_rfl) (by kernel_rfl) (by kernel_rfl) (.head _) (by kernel_rfl) (by kernel_rfl) rfl (r_lda (id := 9) (n := 7) rfl rfl rfl ag51) ?_
       refine aq_three (i := 1) (j := 4) (l := 5) (by kernel_rfl) rfl rfl rfl (fun K18 hK18 => ?_) (fun K18 hK18 => ?_) (fun K18 hK18 => ?_)
       ·refine ol_call rfl rfl cb61 rfl (fun w1 hb1 hs1 hB1 => Calls.mono (ref5_pointC _ _) ?_)
        rintro e w2 ⟨rfl, hb2⟩
        refine After.below rfl hb1 hs1 hB1 hb2 ?_
        clear hb2 hB1 hs1 hb1 w2 w1
        refine ol_nil (to_k0 (fun _ _ h => h) (hK18 _ _ ⟨.inr (by repeat' first | exact subH_nil | refine subH_same rfl ?_ | (refine subH_blk rfl (by repeat' first | exact sub_nil | refine sub_cons rfl ?_) ?_)), trivial⟩ ?_))
        clear hK18
        refine aq_three (i := 3) (j := 4) (l := 5) (by kernel_rfl) rfl rfl rfl (fun K19 hK19 => ?_) (fun K19 hK19 => ?_) (fun K19 hK19 => ?_)
        ·refine ol_call rfl rfl cb61 rfl (fun w1 hb1 hs1 hB1 => Calls.mono (ref5_pointC _ _) ?_)
         rintro e w2 ⟨rfl, hb2⟩
         refine After.below rfl hb1 hs1 hB1 hb2 ?_
         clear hb2 hB1 hs1 hb1 w2 w1
         refine ol_nil (to_k0 (fun _ _ h => h) (hK19 _ _ ⟨.inr (by repeat' first | exact subH_nil | refine subH_same rfl ?_ | (refine subH_blk rfl (by repeat' first | exact sub_nil | refine sub_cons rfl ?_) ?_)), trivial⟩ ?_))
         clear hK19
         refine aq_two (i := 4) (j := 5) (by kernel_rfl) rfl rfl (fun K20 hK20 => ?_) (fun K20 hK20 => ?_)
         ·refine ol_alloc 10 z41 rfl fun b10 => ?_
          refine ol_nil (to_k0 (fun _ _ h => h) (hK20 _ _ ⟨.inr (by repeat' first | exact subH_nil | refine subH_same rfl ?_ | (refine subH_blk rfl (by repeat' first | exact sub_nil | refine sub_cons rfl ?_) ?_)), trivial⟩ ?_))
          clear hK20
          refine aq_one (i := 5) (by kernel_rfl) rfl fun K21 hK21 => ?_
          refine ol_alloc 11 z41 rfl fun b11 => ?_
          refine ol_nil (to_k0 (fun _ _ h => h) (hK21 _ _ ⟨.inr (by repeat' first | exact subH_nil | refine subH_same rfl ?_ | (refine subH_blk rfl (by repeat' first | exact sub_nil | refine sub_cons rfl ?_) ?_)), trivial⟩ ?_))
          clear hK21
          refine aq_one (i := 6) (by kernel_rfl) rfl fun K22 hK22 => ?_
          refine ol_store (id := 10) rfl rfl rfl rfl sz41 rfl rfl (by first | decide | exact Nat.zero_lt_succ _ | simp) ?_
          refine ol_nil (to_k0 (fun _ _ h => h) (hK22 _ _ ⟨.inr (by repeat' first | exact subH_nil | refine subH_same rfl ?_ | (refine subH_blk rfl (by repeat' first | exact sub_nil | refine sub_cons rfl ?_) ?_)), trivial⟩ ?_))
          clear hK22
          refine aq_one (i := 7) (by kernel_rfl) rfl fun K23 hK23 => ?_
          refine ol_store (id := 11) rfl rfl rfl rfl sz41 rfl rfl (by first | decide | exact Nat.zero_lt_succ _ | simp) ?_
          refine ol_nil (to_k0 (fun _ _ h => h) (hK23 _ _ ⟨.inr (by repeat' first | exact subH_nil | refine subH_same rfl ?_ | (refine subH_blk rfl (by repeat' first | exact sub_nil | refine sub_cons rfl ?_) ?_)), trivial⟩ ?_))
          clear hK23
          refine aq_done (by kernel_rfl) ?_
          refine (to_k0 (fun _ _ h => h) (hK17 ((b10, b11)) _ _ ?_ (sub_cons rfl (sub_cons rfl sub_nil)) (sub_cons rfl (sub_cons rfl (sub_cons rfl (sub_cons rfl (sub_cons rfl (sub_cons rfl (sub_cons rfl sub_nil))))))) (subH_blk rfl (by repeat' first | exact sub_nil | refine sub_cons rfl ?_) (subH_blk rfl (by repeat' first | exact sub_nil | refine sub_cons rfl ?_) subH_nil)) (subH_same rfl (subH_same rfl (subH_same rfl subH_nil)))))
          try dsimp only
          all_goals trivial
         ·refine ol_alloc 11 z41 rfl fun b11 => ?_
          refine ol_nil (to_k0 (fun _ _ h => h) (hK20 _ _ ⟨.inr (by repeat' first | exact subH_nil | refine subH_same rfl ?_ | (refine subH_blk rfl (by repeat' first | exact sub_nil | refine sub_cons rfl ?_) ?_)), trivial⟩ ?_))
          clear hK20
          refine aq_one (i := 4) (by kernel_rfl) rfl fun K21 hK21 => ?_
          refine ol_alloc 10 z41 rfl fun b10 => ?_
          refine ol_nil (to_k0 (fun _ _ h => h) (hK21 _ _ ⟨.inr (by repeat' first | exact subH_nil | refine subH_same rfl ?_ | (refine subH_blk rfl (by repeat' first | exact sub_nil | refine sub_cons rfl ?_) ?_)), trivial⟩ ?_))
          clear hK21
          refine aq_one (i := 6) (by kernel_rfl) rfl fun K22 hK22 => ?_
          refine ol_store (id := 10) rfl rfl rfl rfl sz41 rfl rfl (by first | decide | exact Nat.zero_lt_succ _ | simp) ?_
          refine ol_nil (to_k0 (fun _ _ h => h) (hK22 _ _ ⟨.inr (by repeat' first | exact subH_nil | refine subH_same rfl ?_ | (refine subH_blk rfl (by repeat' first | exact sub_nil | refine sub_cons rfl ?_) ?_)), trivial⟩ ?_))
          clear hK22
          refine aq_one (i := 7) (by kernel_rfl) rfl fun K23 hK23 => ?_
          refine ol_store (id := 11) rfl rfl rfl rfl sz41 rfl rfl (by first | decide | exact Nat.zero_lt_succ _ | simp) ?_
          refine ol_nil (to_k0 (fun _ _ h => h) (hK23 _ _ ⟨.inr (by repeat' first | exact subH_nil | refine subH_same rfl ?_ | (refine subH_blk rfl (by repeat' first | exact sub_nil | refine sub_cons rfl ?_) ?_)), trivial⟩ ?_))
          clear hK23
          refine aq_done (by kernel_rfl) ?_
          refine (to_k0 (fun _ _ h => h) (hK17 ((b10, b11)) _ _ ?_ (sub_cons rfl (sub_cons rfl sub_nil)) (sub_cons rfl (sub_cons rfl (sub_cons rfl (sub_cons rfl (sub_cons rfl (sub_cons rfl (sub_cons rfl sub_nil))))))) (subH_blk rfl (by repeat' first | exact sub_nil | refine sub_cons rfl ?_) (subH_blk rfl (by repeat' first | exact sub_nil | refine sub_cons rfl ?_) subH_nil)) (subH_same rfl (subH_same rfl (subH_same rfl subH_nil)))))
          try dsimp only
          all_goals trivial
        ·refine ol_alloc 10 z41 rfl fun b10 => ?_
         refine ol_nil (to_k0 (fun _ _ h => h) (hK19 _ _ ⟨.inr (by repeat' first | exact subH_nil | refine subH_same rfl ?_ | (refine subH_blk rfl (by repeat' first | exact sub_nil | refine sub_cons rfl ?_) ?_)), trivial⟩ ?_))
         clear hK19
         refine aq_two (i := 3) (j := 5) (by kernel_rfl) rfl rfl (fun K20 hK20 => ?_) (fun K20 hK20 => ?_)
         ·refine ol_call rfl rfl cb61 rfl (fun w1 hb1 hs1 hB1 => Calls.mono (ref5_pointC _ _) ?_)
          rintro e w2 ⟨rfl, hb2⟩
          refine After.below rfl hb1 hs1 hB1 hb2 ?_
          clear hb2 hB1 hs1 hb1 w2 w1
          refine ol_nil (to_k0 (fun _ _ h => h) (hK20 _ _ ⟨.inr (by repeat' first | exact subH_nil | refine subH_same rfl ?_ | (refine subH_blk rfl (by repeat' first | exact sub_nil | refine sub_cons rfl ?_) ?_)), trivial⟩ ?_))
          clear hK20
          refine aq_one (i := 5) (by kernel_rfl) rfl fun K21 hK21 => ?_
          refine ol_alloc 11 z41 rfl fun b11 => ?_
          refine ol_nil (to_k0 (fun _ _ h => h) (hK21 _ _ ⟨.inr (by repeat' first | exact subH_nil | refine subH_same rfl ?_ | (refine subH_blk rfl (by repeat' first | exact sub_nil | refine sub_cons rfl ?_) ?_)), trivial⟩ ?_))
          clear hK21
          refine aq_one (i := 6) (by kernel_rfl) rfl fun K22 hK22 => ?_
          refine ol_store (id := 10) rfl rfl rfl rfl sz41 rfl rfl (by first | decide | exact Nat.zero_lt_succ _ | simp) ?_
          refine ol_nil (to_k0 (fun _ _ h => h) (hK22 _ _ ⟨.inr (by repeat' first | exact subH_nil | refine subH_same rfl ?_ | (refine subH_blk rfl (by repeat' first | exact sub_nil | refine sub_cons rfl ?_) ?_)), trivial⟩ ?_))
          clear hK22
          refine aq_one (i := 7) (by kernel_rfl) rfl fun K23 hK23 => ?_
          refine ol_store (id := 11) rfl rfl rfl rfl sz41 rfl rfl (by first | decide | exact Nat.zero_lt_succ _ | simp) ?_
          refine ol_nil (to_k0 (fun _ _ h => h) (hK23 _ _ ⟨.inr (by repeat' first | exact subH_nil | refine subH_same rfl ?_ | (refine subH_blk rfl (by repeat' first | exact sub_nil | refine sub_cons rfl ?_) ?_)), trivial⟩ ?_))
          clear hK23
          refine aq_done (by kernel_rfl) ?_
          refine (to_k0 (fun _ _ h => h) (hK17 ((b10, b11)) _ _ ?_ (sub_cons rfl (sub_cons rfl sub_nil)) (sub_cons rfl (sub_cons rfl (sub_cons rfl (sub_cons rfl (sub_cons rfl (sub_cons rfl (sub_cons rfl sub_nil))))))) (subH_blk rfl (by repeat' first | exact sub_nil | refine sub_cons rfl ?_) (subH_blk rfl (by repeat' first | exact sub_nil | refine sub_cons rfl ?_) subH_nil)) (subH_same rfl (subH_same rfl (subH_same rfl subH_nil)))))
          try dsimp only
          all_goals trivial
         ·refine ol_alloc 11 z41 rfl fun b11 => ?_
          refine ol_nil (to_k0 (fun _ _ h => h) (hK20 _ _ ⟨.inr (by repeat' first | exact subH_nil | refine subH_same rfl ?_ | (refine subH_blk rfl (by repeat' first | exact sub_nil | refine sub_cons rfl ?_) ?_)), trivial⟩ ?_))
          clear hK20
          refine aq_one (i := 3) (by kernel_rfl) rfl fun K21 hK21 => ?_
          refine ol_call rfl rfl cb61 rfl (fun w1 hb1 hs1 hB1 => Calls.mono (ref5_pointC _ _) ?_)
          rintro e w2 ⟨rfl, hb2⟩
          refine After.below rfl hb1 hs1 hB1 hb2 ?_
          clear hb2 hB1 hs1 hb1 w2 w1
          refine ol_nil (to_k0 (fun _ _ h => h) (hK21 _ _ ⟨.inr (by repeat' first | exact subH_nil | refine subH_same rfl ?_ | (refine subH_blk rfl (by repeat' first | exact sub_nil | refine sub_cons rfl ?_) ?_)), trivial⟩ ?_))
          clear hK21
          refine aq_one (i := 6) (by kernel_rfl) rfl fun K22 hK22 => ?_
          refine ol_store (id := 10) rfl rfl rfl rfl sz41 rfl rfl (by first | decide | exact Nat.zero_lt_succ _ | simp) ?_
          refine ol_nil (to_k0 (fun _ _ h => h) (hK22 _ _ ⟨.inr (by repeat' first | exact subH_nil | refine subH_same rfl ?_ | (refine subH_blk rfl (by repeat' first | exact sub_nil | refine sub_cons rfl ?_) ?_)), trivial⟩ ?_))
          clear hK22
          refine aq_one (i := 7) (by kernel_rfl) rfl fun K23 hK23 => ?_
          refine ol_store (id := 11) rfl rfl rfl rfl sz41 rfl rfl (by first | decide | exact Nat.zero_lt_succ _ | simp) ?_
          refine ol_nil (to_k0 (fun _ _ h => h) (hK23 _ _ ⟨.inr (by repeat' first | exact subH_nil | refine subH_same rfl ?_ | (refine subH_blk rfl (by repeat' first | exact sub_nil | refine sub_cons rfl ?_) ?_)), trivial⟩ ?_))
          clear hK23
          refine aq_done (by kernel_rfl) ?_
          refine (to_k0 (fun _ _ h => h) (hK17 ((b10, b11)) _ _ ?_ (sub_cons rfl (sub_cons rfl sub_nil)) (sub_cons rfl (sub_cons rfl (sub_cons rfl (sub_cons rfl (sub_cons rfl (sub_cons rfl (sub_cons rfl sub_nil))))))) (subH_blk rfl (by repeat' first | exact sub_nil | refine sub_cons rfl ?_) (subH_blk rfl (by repeat' first | exact sub_nil | refine sub_cons rfl ?_) subH_nil)) (subH_same rfl (subH_same rfl (subH_same rfl subH_nil)))))
          try dsimp only
          all_goals trivial
        ·refine ol_alloc 11 z41 rfl fun b11 => ?_
         refine ol_nil (to_k0 (fun _ _ h => h) (hK19 _ _ ⟨.inr (by repeat' first | exact subH_nil | refine subH_same rfl ?_ | (refine subH_blk rfl (by repeat' first | exact sub_nil | refine sub_cons rfl ?_) ?_)), trivial⟩ ?_))
         clear hK19
         refine aq_two (i := 3) (j := 4) (by kernel_rfl) rfl rfl (fun K20 hK20 => ?_) (fun K20 hK20 => ?_)
         ·refine ol_call rfl rfl cb61 rfl (fun w1 hb1 hs1 hB1 => Calls.mono (ref5_pointC _ _) ?_)
          rintro e w2 ⟨rfl, hb2⟩
          refine After.below rfl hb1 hs1 hB1 hb2 ?_
          clear hb2 hB1 hs1 hb1 w2 w1
          refine ol_nil (to_k0 (fun _ _ h => h) (hK20 _ _ ⟨.inr (by repeat' first | exact subH_nil | refine subH_same rfl ?_ | (refine subH_blk rfl (by repeat' first | exact sub_nil | refine sub_cons rfl ?_) ?_)), trivial⟩ ?_))
          clear hK20
          refine aq_one (i := 4) (by kernel_rfl) rfl fun K21 hK21 => ?_
          refine ol_alloc 10 z41 rfl fun b10 => ?_
          refine ol_nil (to_k0 (fun _ _ h => h) (hK21 _ _ ⟨.inr (by repeat' first | exact subH_nil | refine subH_same rfl ?_ | (refine subH_blk rfl (by repeat' first | exact sub_nil | refine sub_cons rfl ?_) ?_)), trivial⟩ ?_))
          clear hK21
          refine aq_one (i := 6) (by kernel_rfl) rfl fun K22 hK22 => ?_
          refine ol_store (id := 10) rfl rfl rfl rfl sz41 rfl rfl (by first | decide | exact Nat.zero_lt_succ _ | simp) ?_
          refine ol_nil (to_k0 (fun _ _ h => h) (hK22 _ _ ⟨.inr (by repeat' first | exact subH_nil | refine subH_same rfl ?_ | (refine subH_blk rfl (by repeat' first | exact sub_nil | refine sub_cons rfl ?_) ?_)), trivial⟩ ?_))
          clear hK22
          refine aq_one (i := 7) (by kernel_rfl) rfl fun K23 hK23 => ?_
          refine ol_store (id := 11) rfl rfl rfl rfl sz41 rfl rfl (by first | decide | exact Nat.zero_lt_succ _ | simp) ?_
          refine ol_nil (to_k0 (fun _ _ h => h) (hK23 _ _ ⟨.inr (by repeat' first | exact subH_nil | refine subH_same rfl ?_ | (refine subH_blk rfl (by repeat' first | exact sub_nil | refine sub_cons rfl ?_) ?_)), trivial⟩ ?_))
          clear hK23
          refine aq_done (by kernel_rfl) ?_
          refine (to_k0 (fun _ _ h => h) (hK17 ((b10, b11)) _ _ ?_ (sub_cons rfl (sub_cons rfl sub_nil)) (sub_cons rfl (sub_cons rfl (sub_cons rfl (sub_cons rfl (sub_cons rfl (sub_cons rfl (sub_cons rfl sub_nil))))))) (subH_blk rfl (by repeat' first | exact sub_nil | refine sub_cons rfl ?_) (subH_blk rfl (by repeat' first | exact sub_nil | refine sub_cons rfl ?_) subH_nil)) (subH_same rfl (subH_same rfl (subH_same rfl subH_nil)))))
          try dsimp only
          all_goals trivial
         ·refine ol_alloc 10 z41 rfl fun b10 => ?_
          refine ol_nil (to_k0 (fun _ _ h => h) (hK20 _ _ ⟨.inr (by repeat' first | exact subH_nil | refine subH_same rfl ?_ | (refine subH_blk rfl (by repeat' first | exact sub_nil | refine sub_cons rfl ?_) ?_)), trivial⟩ ?_))
          clear hK20
          refine aq_one (i := 3) (by kernel_rfl) rfl fun K21 hK21 => ?_
          refine ol_call rfl rfl cb61 rfl (fun w1 hb1 hs1 hB1 => Calls.mono (ref5_pointC _ _) ?_)
          rintro e w2 ⟨rfl, hb2⟩
          refine After.below rfl hb1 hs1 hB1 hb2 ?_
          clear hb2 hB1 hs1 hb1 w2 w1
          refine ol_nil (to_k0 (fun _ _ h => h) (hK21 _ _ ⟨.inr (by repeat' first | exact subH_nil | refine subH_same rfl ?_ | (refine subH_blk rfl (by repeat' first | exact sub_nil | refine sub_cons rfl ?_) ?_)), trivial⟩ ?_))
          clear hK21
          refine aq_one (i := 6) (by kernel_rfl) rfl fun K22 hK22 => ?_
          refine ol_store (id := 10) rfl rfl rfl rfl sz41 rfl rfl (by first | decide | exact Nat.zero_lt_succ _ | simp) ?_
          refine ol_nil (to_k0 (fun _ _ h => h) (hK22 _ _ ⟨.inr (by repeat' first | exact subH_nil | refine subH_same rfl ?_ | (refine subH_blk rfl (by repeat' first | exact sub_nil | refine sub_cons rfl ?_) ?_)), trivial⟩ ?_))
          clear hK22
          refine aq_one (i := 7) (by kernel_rfl) rfl fun K23 hK23 => ?_
          refine ol_store (id := 11) rfl rfl rfl rfl sz41 rfl rfl (by first | decide | exact Nat.zero_lt_succ _ | simp) ?_
          refine ol_nil (to_k0 (fun _ _ h => h) (hK23 _ _ ⟨.inr (by repeat' first | exact subH_nil | refine subH_same rfl ?_ | (refine subH_blk rfl (by repeat' first | exact sub_nil | refine sub_cons rfl ?_) ?_)), trivial⟩ ?_))
          clear hK23
          refine aq_done (by kernel_rfl) ?_
          refine (to_k0 (fun _ _ h => h) (hK17 ((b10, b11)) _ _ ?_ (sub_cons rfl (sub_cons rfl sub_nil)) (sub_cons rfl (sub_cons rfl (sub_cons rfl (sub_cons rfl (sub_cons rfl (sub_cons rfl (sub_cons rfl sub_nil))))))) (subH_blk rfl (by repeat' first | exact sub_nil | refine sub_cons rfl ?_) (subH_blk rfl (by repeat' first | exact sub_nil | refine sub_cons rfl ?_) subH_nil)) (subH_same rfl (subH_same rfl (subH_same rfl subH_nil)))))
          try dsimp only
          all_goals trivial
       ·refine ol_alloc 10 z41 rfl fun b10 => ?_
        refine ol_nil (to_k0 (fun _ _ h => h) (hK18 _ _ ⟨.inr (by repeat' first | exact subH_nil | refine subH_same rfl ?_ | (refine subH_blk rfl (by repeat' first | exact sub_nil | refine sub_cons rfl ?_) ?_)), trivial⟩ ?_))
        clear hK18
        refine aq_two (i := 1) (j := 5) (by kernel_rfl) rfl rfl (fun K19 hK19 => ?_) (fun K19 hK19 => ?_)
        ·refine ol_call rfl rfl cb61 rfl (fun w1 hb1 hs1 hB1 => Calls.mono (ref5_pointC _ _) ?_)
         rintro e w2 ⟨rfl, hb2⟩
         refine After.below rfl hb1 hs1 hB1 hb2 ?_
         clear hb2 hB1 hs1 hb1 w2 w1
         refine ol_nil (to_k0 (fun _ _ h => h) (hK19 _ _ ⟨.inr (by repeat' first | exact subH_nil | refine subH_same rfl ?_ | (refine subH_blk rfl (by repeat' first | exact sub_nil | refine sub_cons rfl ?_) ?_)), trivial⟩ ?_))
         clear hK19
         refine aq_two (i := 3) (j := 5) (by kernel_rfl) rfl rfl (fun K20 hK20 => ?_) (fun K20 hK20 => ?_)
         ·refine ol_call rfl rfl cb61 rfl (fun w1 hb1 hs1 hB1 => Calls.mono (ref5_pointC _ _) ?_)
          rintro e w2 ⟨rfl, hb2⟩
          refine After.below rfl hb1 hs1 hB1 hb2 ?_
          clear hb2 hB1 hs1 hb1 w2 w1
          refine ol_nil (to_k0 (fun _ _ h => h) (hK20 _ _ ⟨.inr (by repeat' first | exact subH_nil | refine subH_same rfl ?_ | (refine subH_blk rfl (by repeat' first | exact sub_nil | refine sub_cons rfl ?_) ?_)), trivial⟩ ?_))
          clear hK20
          refine aq_one (i := 5) (by kernel_rfl) rfl fun K21 hK21 => ?_
          refine ol_alloc 11 z41 rfl fun b11 => ?_
          refine ol_nil (to_k0 (fun _ _ h => h) (hK21 _ _ ⟨.inr (by repeat' first | exact subH_nil | refine subH_same rfl ?_ | (refine subH_blk rfl (by repeat' first | exact sub_nil | refine sub_cons rfl ?_) ?_)), trivial⟩ ?_))
          clear hK21
          refine aq_one (i := 6) (by kernel_rfl) rfl fun K22 hK22 => ?_
          refine ol_store (id := 10) rfl rfl rfl rfl sz41 rfl rfl (by first | decide | exact Nat.zero_lt_succ _ | simp) ?_
          refine ol_nil (to_k0 (fun _ _ h => h) (hK22 _ _ ⟨.inr (by repeat' first | exact subH_nil | refine subH_same rfl ?_ | (refine subH_blk rfl (by repeat' first | exact sub_nil | refine sub_cons rfl ?_) ?_)), trivial⟩ ?_))
          clear hK22
          refine aq_one (i := 7) (by kernel_rfl) rfl fun K23 hK23 => ?_
          refine ol_store (id := 11) rfl rfl rfl rfl sz41 rfl rfl (by first | decide | exact Nat.zero_lt_succ _ | simp) ?_
          refine ol_nil (to_k0 (fun _ _ h => h) (hK23 _ _ ⟨.inr (by repeat' first | exact subH_nil | refine subH_same rfl ?_ | (refine subH_blk rfl (by repeat' first | exact sub_nil | refine sub_cons rfl ?_) ?_)), trivial⟩ ?_))
          clear hK23
          refine aq_done (by kernel_rfl) ?_
          refine (to_k0 (fun _ _ h => h) (hK17 ((b10, b11)) _ _ ?_ (sub_cons rfl (sub_cons rfl sub_nil)) (sub_cons rfl (sub_cons rfl (sub_cons rfl (sub_cons rfl (sub_cons rfl (sub_cons rfl (sub_cons rfl sub_nil))))))) (subH_blk rfl (by repeat' first | exact sub_nil | refine sub_cons rfl ?_) (subH_blk rfl (by repeat' first | exact sub_nil | refine sub_cons rfl ?_) subH_nil)) (subH_same rfl (subH_same rfl (subH_same rfl subH_nil)))))
          try dsimp only
          all_goals trivial
         ·refine ol_alloc 11 z41 rfl fun b11 => ?_
          refine ol_nil (to_k0 (fun _ _ h => h) (hK20 _ _ ⟨.inr (by repeat' first | exact subH_nil | refine subH_same rfl ?_ | (refine subH_blk rfl (by repeat' first | exact sub_nil | refine sub_cons rfl ?_) ?_)), trivial⟩ ?_))
          clear hK20
          refine aq_one (i := 3) (by kernel_rfl) rfl fun K21 hK21 => ?_
          refine ol_call rfl rfl cb61 rfl (fun w1 hb1 hs1 hB1 => Calls.mono (ref5_pointC _ _) ?_)
          rintro e w2 ⟨rfl, hb2⟩
          refine After.below rfl hb1 hs1 hB1 hb2 ?_
          clear hb2 hB1 hs1 hb1 w2 w1
          refine ol_nil (to_k0 (fun _ _ h => h) (hK21 _ _ ⟨.inr (by repeat' first | exact subH_nil | refine subH_same rfl ?_ | (refine subH_blk rfl (by repeat' first | exact sub_nil | refine sub_cons rfl ?_) ?_)), trivial⟩ ?_))
          clear hK21
          refine aq_one (i := 6) (by kernel_rfl) rfl fun K22 hK22 => ?_
          refine ol_store (id := 10) rfl rfl rfl rfl sz41 rfl rfl (by first | decide | exact Nat.zero_lt_succ _ | simp) ?_
          refine ol_nil (to_k0 (fun _ _ h => h) (hK22 _ _ ⟨.inr (by repeat' first | exact subH_nil | refine subH_same rfl ?_ | (refine subH_blk rfl (by repeat' first | exact sub_nil | refine sub_cons rfl ?_) ?_)), trivial⟩ ?_))
          clear hK22
          refine aq_one (i := 7) (by kernel_rfl) rfl fun K23 hK23 => ?_
          refine ol_store (id := 11) rfl rfl rfl rfl sz41 rfl rfl (by first | decide | exact Nat.zero_lt_succ _ | simp) ?_
          refine ol_nil (to_k0 (fun _ _ h => h) (hK23 _ _ ⟨.inr (by repeat' first | exact subH_nil | refine subH_same rfl ?_ | (refine subH_blk rfl (by repeat' first | exact sub_nil | refine sub_cons rfl ?_) ?_)), trivial⟩ ?_))
          clear hK23
          refine aq_done (by kernel_rfl) ?_
          refine (to_k0 (fun _ _ h => h) (hK17 ((b10, b11)) _ _ ?_ (sub_cons rfl (sub_cons rfl sub_nil)) (sub_cons rfl (sub_cons rfl (sub_cons rfl (sub_cons rfl (sub_cons rfl (sub_cons rfl (sub_cons rfl sub_nil))))))) (subH_blk rfl (by repeat' first | exact sub_nil | refine sub_cons rfl ?_) (subH_blk rfl (by repeat' first | exact sub_nil | refine sub_cons rfl ?_) subH_nil)) (subH_same rfl (subH_same rfl (subH_same rfl subH_nil)))))
          try dsimp only
          all_goals trivial
        ·refine ol_alloc 11 z41 rfl fun b11 => ?_
         refine ol_nil (to_k0 (fun _ _ h => h) (hK19 _ _ ⟨.inr (by repeat' first | exact subH_nil | refine subH_same rfl ?_ | (refine subH_blk rfl (by repeat' first | exact sub_nil | refine sub_cons rfl ?_) ?_)), trivial⟩ ?_))
         clear hK19
         refine aq_one (i := 1) (by kernel_rfl) rfl fun K20 hK20 => ?_
         refine ol_call rfl rfl cb61 rfl (fun w1 hb1 hs1 hB1 => Calls.mono (ref5_pointC _ _) ?_)
         rintro e w2 ⟨rfl, hb2⟩
         refine After.below rfl hb1 hs1 hB1 hb2 ?_
         clear hb2 hB1 hs1 hb1 w2 w1
         refine ol_nil (to_k0 (fun _ _ h => h) (hK20 _ _ ⟨.inr (by repeat' first | exact subH_nil | refine subH_same rfl ?_ | (refine subH_blk rfl (by repeat' first | exact sub_nil | refine sub_cons rfl ?_) ?_)), trivial⟩ ?_))
         clear hK20
         refine aq_one (i := 3) (by kernel_rfl) rfl fun K21 hK21 => ?_
         refine ol_call rfl rfl cb61 rfl (fun w1 hb1 hs1 hB1 => Calls.mono (ref5_pointC _ _) ?_)
         rintro e w2 ⟨rfl, hb2⟩
         refine After.below rfl hb1 hs1 hB1 hb2 ?_
         clear hb2 hB1 hs1 hb1 w2 w1
         refine ol_nil (to_k0 (fun _ _ h => h) (hK21 _ _ ⟨.inr (by repeat' first | exact subH_nil | refine subH_same rfl ?_ | (refine subH_blk rfl (by repeat' first | exact sub_nil | refine sub_cons rfl ?_) ?_)), trivial⟩ ?_))
         clear hK21
         refine aq_one (i := 6) (by kernel_rfl) rfl fun K22 hK22 => ?_
         refine ol_store (id := 10) rfl rfl rfl rfl sz41 rfl rfl (by first | decide | exact Nat.zero_lt_succ _ | simp) ?_
         refine ol_nil (to_k0 (fun _ _ h => h) (hK22 _ _ ⟨.inr (by repeat' first | exact subH_nil | refine subH_same rfl ?_ | (refine subH_blk rfl (by repeat' first | exact sub_nil | refine sub_cons rfl ?_) ?_)), trivial⟩ ?_))
         clear hK22
         refine aq_one (i := 7) (by kernel_rfl) rfl fun K23 hK23 => ?_
         refine ol_store (id := 11) rfl rfl rfl rfl sz41 rfl rfl (by first | decide | exact Nat.zero_lt_succ _ | simp) ?_
         refine ol_nil (to_k0 (fun _ _ h => h) (hK23 _ _ ⟨.inr (by repeat' first | exact subH_nil | refine subH_same rfl ?_ | (refine subH_blk rfl (by repeat' first | exact sub_nil | refine sub_cons rfl ?_) ?_)), trivial⟩ ?_))
         clear hK23
         refine aq_done (by kernel_rfl) ?_
         refine (to_k0 (fun _ _ h => h) (hK17 ((b10, b11)) _ _ ?_ (sub_cons rfl (sub_cons rfl sub_nil)) (sub_cons rfl (sub_cons rfl (sub_cons rfl (sub_cons rfl (sub_cons rfl (sub_cons rfl (sub_cons rfl sub_nil))))))) (subH_blk rfl (by repeat' first | exact sub_nil | refine sub_cons rfl ?_) (subH_blk rfl (by repeat' first | exact sub_nil | refine sub_cons rfl ?_) subH_nil)) (subH_same rfl (subH_same rfl (subH_same rfl subH_nil)))))
         try dsimp only
         all_goals trivial
       ·refine ol_alloc 11 z41 rfl fun b11 => ?_
        refine ol_nil (to_k0 (fun _ _ h => h) (hK18 _ _ ⟨.inr (by repeat' first | exact subH_nil | refine subH_same rfl ?_ | (refine subH_blk rfl (by repeat' first | exact sub_nil | refine sub_cons rfl ?_) ?_)), trivial⟩ ?_))
        clear hK18
        refine aq_two (i := 1) (j := 4) (by kernel_rfl) rfl rfl (fun K19 hK19 => ?_) (fun K19 hK19 => ?_)
        ·refine ol_call rfl rfl cb61 rfl (fun w1 hb1 hs1 hB1 => Calls.mono (ref5_pointC _ _) ?_)
         rintro e w2 ⟨rfl, hb2⟩
         refine After.below rfl hb1 hs1 hB1 hb2 ?_
         clear hb2 hB1 hs1 hb1 w2 w1
         refine ol_nil (to_k0 (fun _ _ h => h) (hK19 _ _ ⟨.inr (by repeat' first | exact subH_nil | refine subH_same rfl ?_ | (refine subH_blk rfl (by repeat' first | exact sub_nil | refine sub_cons rfl ?_) ?_)), trivial⟩ ?_))
         clear hK19
         refine aq_two (i := 3) (j := 4) (by kernel_rfl) rfl rfl (fun K20 hK20 => ?_) (fun K20 hK20 => ?_)
         ·refine ol_call rfl rfl cb61 rfl (fun w1 hb1 hs1 hB1 => Calls.mono (ref5_pointC _ _) ?_)
          rintro e w2 ⟨rfl, hb2⟩
          refine After.below rfl hb1 hs1 hB1 hb2 ?_
          clear hb2 hB1 hs1 hb1 w2 w1
          refine ol_nil (to_k0 (fun _ _ h => h) (hK20 _ _ ⟨.inr (by repeat' first | exact subH_nil | refine subH_same rfl ?_ | (refine subH_blk rfl (by repeat' first | exact sub_nil | refine sub_cons rfl ?_) ?_)), trivial⟩ ?_))
          clear hK20
          refine aq_one (i := 4) (by kernel_rfl) rfl fun K21 hK21 => ?_
          refine ol_alloc 10 z41 rfl fun b10 => ?_
          refine ol_nil (to_k0 (fun _ _ h => h) (hK21 _ _ ⟨.inr (by repeat' first | exact subH_nil | refine subH_same rfl ?_ | (refine subH_blk rfl (by repeat' first | exact sub_nil | refine sub_cons rfl ?_) ?_)), trivial⟩ ?_))
          clear hK21
          refine aq_one (i := 6) (by kernel_rfl) rfl fun K22 hK22 => ?_
          refine ol_store (id := 10) rfl rfl rfl rfl sz41 rfl rfl (by first | decide | exact Nat.zero_lt_succ _ | simp) ?_
          refine ol_nil (to_k0 (fun _ _ h => h) (hK22 _ _ ⟨.inr (by repeat' first | exact subH_nil | refine subH_same rfl ?_ | (refine subH_blk rfl (by repeat' first | exact sub_nil | refine sub_cons rfl ?_) ?_)), trivial⟩ ?_))
          clear hK22
          refine aq_one (i := 7) (by kernel_rfl) rfl fun K23 hK23 => ?_
          refine ol_store (id := 11) rfl rfl rfl rfl sz41 rfl rfl (by first | decide | exact Nat.zero_lt_succ _ | simp) ?_
          refine ol_nil (to_k0 (fun _ _ h => h) (hK23 _ _ ⟨.inr (by repeat' first | exact subH_nil | refine subH_same rfl ?_ | (refine subH_blk rfl (by repeat' first | exact sub_nil | refine sub_cons rfl ?_) ?_)), trivial⟩ ?_))
          clear hK23
          refine aq_done (by kernel_rfl) ?_
          refine (to_k0 (fun _ _ h => h) (hK17 ((b10, b11)) _ _ ?_ (sub_cons rfl (sub_cons rfl sub_nil)) (sub_cons rfl (sub_cons rfl (sub_cons rfl (sub_cons rfl (sub_cons rfl (sub_cons rfl (sub_cons rfl sub_nil))))))) (subH_blk rfl (by repeat' first | exact sub_nil | refine sub_cons rfl ?_) (subH_blk rfl (by repeat' first | exact sub_nil | refine sub_cons rfl ?_) subH_nil)) (subH_same rfl (subH_same rfl (subH_same rfl subH_nil)))))
          try dsimp only
          all_goals trivial
         ·refine ol_alloc 10 z41 rfl fun b10 => ?_
          refine ol_nil (to_k0 (fun _ _ h => h) (hK20 _ _ ⟨.inr (by repeat' first | exact subH_nil | refine subH_same rfl ?_ | (refine subH_blk rfl (by repeat' first | exact sub_nil | refine sub_cons rfl ?_) ?_)), trivial⟩ ?_))
          clear hK20
          refine aq_one (i := 3) (by kernel_rfl) rfl fun K21 hK21 => ?_
          refine ol_call rfl rfl cb61 rfl (fun w1 hb1 hs1 hB1 => Calls.mono (ref5_pointC _ _) ?_)
          rintro e w2 ⟨rfl, hb2⟩
          refine After.below rfl hb1 hs1 hB1 hb2 ?_
          clear hb2 hB1 hs1 hb1 w2 w1
          refine ol_nil (to_k0 (fun _ _ h => h) (hK21 _ _ ⟨.inr (by repeat' first | exact subH_nil | refine subH_same rfl ?_ | (refine subH_blk rfl (by repeat' first | exact sub_nil | refine sub_cons rfl ?_) ?_)), trivial⟩ ?_))
          clear hK21
          refine aq_one (i := 6) (by kernel_rfl) rfl fun K22 hK22 => ?_
          refine ol_store (id := 10) rfl rfl rfl rfl sz41 rfl rfl (by first | decide | exact Nat.zero_lt_succ _ | simp) ?_
          refine ol_nil (to_k0 (fun _ _ h => h) (hK22 _ _ ⟨.inr (by repeat' first | exact subH_nil | refine subH_same rfl ?_ | (refine subH_blk rfl (by repeat' first | exact sub_nil | refine sub_cons rfl ?_) ?_)), trivial⟩ ?_))
          clear hK22
          refine aq_one (i := 7) (by kernel_rfl) rfl fun K23 hK23 => ?_
          refine ol_store (id := 11) rfl rfl rfl rfl sz41 rfl rfl (by first | decide | exact Nat.zero_lt_succ _ | simp) ?_
          refine ol_nil (to_k0 (fun _ _ h => h) (hK23 _ _ ⟨.inr (by repeat' first | exact subH_nil | refine subH_same rfl ?_ | (refine subH_blk rfl (by repeat' first | exact sub_nil | refine sub_cons rfl ?_) ?_)), trivial⟩ ?_))
          clear hK23
          refine aq_done (by kernel_rfl) ?_
          refine (to_k0 (fun _ _ h => h) (hK17 ((b10, b11)) _ _ ?_ (sub_cons rfl (sub_cons rfl sub_nil)) (sub_cons rfl (sub_cons rfl (sub_cons rfl (sub_cons rfl (sub_cons rfl (sub_cons rfl (sub_cons rfl sub_nil))))))) (subH_blk rfl (by repeat' first | exact sub_nil | refine sub_cons rfl ?_) (subH_blk rfl (by repeat' first | exact sub_nil | refine sub_cons rfl ?_) subH_nil)) (subH_same rfl (subH_same rfl (subH_same rfl subH_nil)))))
          try dsimp only
          all_goals trivial
        ·refine ol_alloc 10 z41 rfl fun b10 => ?_
         refine ol_nil (to_k0 (fun _ _ h => h) (hK19 _ _ ⟨.inr (by repeat' first | exact subH_nil | refine subH_same rfl ?_ | (refine subH_blk rfl (by repeat' first | exact sub_nil | refine sub_cons rfl ?_) ?_)), trivial⟩ ?_))
         clear hK19
         refine aq_one (i := 1) (by kernel_rfl) rfl fun K20 hK20 => ?_
         refine ol_call rfl rfl cb61 rfl (fun w1 hb1 hs1 hB1 => Calls.mono (ref5_pointC _ _) ?_)
         rintro e w2 ⟨rfl, hb2⟩
         refine After.below rfl hb1 hs1 hB1 hb2 ?_
         clear hb2 hB1 hs1 hb1 w2 w1
         refine ol_nil (to_k0 (fun _ _ h => h) (hK20 _ _ ⟨.inr (by repeat' first | exact subH_nil | refine subH_same rfl ?_ | (refine subH_blk rfl (by repeat' first | exact sub_nil | refine sub_cons rfl ?_) ?_)), trivial⟩ ?_))
         clear hK20
         refine aq_one (i := 3) (by kernel_rfl) rfl fun K21 hK21 => ?_
         refine ol_call rfl rfl cb61 rfl (fun w1 hb1 hs1 hB1 => Calls.mono (ref5_pointC _ _) ?_)
         rintro e w2 ⟨rfl, hb2⟩
         refine After.below rfl hb1 hs1 hB1 hb2 ?_
         clear hb2 hB1 hs1 hb1 w2 w1
         refine ol_nil (to_k0 (fun _ _ h => h) (hK21 _ _ ⟨.inr (by repeat' first | exact subH_nil | refine subH_same rfl ?_ | (refine subH_blk rfl (by repeat' first | exact sub_nil | refine sub_cons rfl ?_) ?_)), trivial⟩ ?_))
         clear hK21
         refine aq_one (i := 6) (by kernel_rfl) rfl fun K22 hK22 => ?_
         refine ol_store (id := 10) rfl rfl rfl rfl sz41 rfl rfl (by first | decide | exact Nat.zero_lt_succ _ | simp) ?_
         refine ol_nil (to_k0 (fun _ _ h => h) (hK22 _ _ ⟨.inr (by repeat' first | exact subH_nil | refine subH_same rfl ?_ | (refine subH_blk rfl (by repeat' first | exact sub_nil | refine sub_cons rfl ?_) ?_)), trivial⟩ ?_))
         clear hK22
         refine aq_one (i := 7) (by kernel_rfl) rfl fun K23 hK23 => ?_
         refine ol_store (id := 11) rfl rfl rfl rfl sz41 rfl rfl (by first | decide | exact Nat.zero_lt_succ _ | simp) ?_
         refine ol_nil (to_k0 (fun _ _ h => h) (hK23 _ _ ⟨.inr (by repeat' first | exact subH_nil | refine subH_same rfl ?_ | (refine subH_blk rfl (by repeat' first | exact sub_nil | refine sub_cons rfl ?_) ?_)), trivial⟩ ?_))
         clear hK23
         refine aq_done (by kernel_rfl) ?_
         refine (to_k0 (fun _ _ h => h) (hK17 ((b10, b11)) _ _ ?_ (sub_cons rfl (sub_cons rfl sub_nil)) (sub_cons rfl (sub_cons rfl (sub_cons rfl (sub_cons rfl (sub_cons rfl (sub_cons rfl (sub_cons rfl sub_nil))))))) (subH_blk rfl (by repeat' first | exact sub_nil | refine sub_cons rfl ?_) (subH_blk rfl (by repeat' first | exact sub_nil | refine sub_cons rfl ?_) subH_nil)) (subH_same rfl (subH_same rfl (subH_same rfl subH_nil)))))
         try dsimp only
         all_goals trivial
      ·rintro ⟨b10, b11⟩ _
       apply wp_seq_cutM (σ := SmpR) (fun s => A.ss[k - 1]? = some s) (fun s => []) [(1, _), (2, _), (7, _), (10, _), (11, _), (23, _), (24, _), (25, _)] (fun s => [(10, .blk b10 [(0, .int .i64 s.x), (1, .int .i64 s.y)] 41)]) [(2, _), (9, _), (11, _), (21, _)]
       ·exact (sub_cons rfl (sub_cons rfl (sub_cons rfl (sub_cons rfl (sub_cons rfl (sub_cons rfl (sub_cons rfl (sub_cons rfl sub_nil))))))))
       ·exact (subH_same rfl (subH_same rfl (subH_same rfl (subH_same rfl subH_nil))))
       ·intro K24 hK24
        refine wp_seq' fun K25 hK25 => ?_
        refine wp_reg ?_
        refine ol_r (r_move rfl) rfl ?_
        refine ol_r (r_gtr rfl rfl) rfl ?_
        refine ol_nil (to_k0 (fun _ _ h => h) (hK25 _ _ _ _ _ ?_))
        clear hK25
        first | refine wp_condD rfl (fun hc35 => ?_) (fun hc35 => ?_) | refine wp_condN rfl (fun hc35 => ?_) (fun hc35 => ?_) | refine wp_condNB rfl (fun hc35 => ?_) (fun hc35 => ?_) | refine wp_cond' rfl (fun hc35 => ?_) (fun hc35 => ?_)
        ·refine wp_reg ?_
         refine ol_r (r_fa (o' := 3) rfl fl39_3 rfl) rfl ?_
         refine ol_r (r_ld (id := 2) rfl rfl rfl sc35) rfl ?_
         refine ol_r (r_move rfl) rfl ?_
         refine ol_r (r_sub rfl rfl (by omega)) rfl ?_
         refine ol_ixr hA.s rfl rfl sl35 (by omega) rfl fun x40 hx40 => ?_
         try simp only [Int.toNat_natCast] at hx40
         refine ol_r (r_ldw rfl (fun w1 hb1 hs1 hB1 => Rd.loads hA.s ty51 hx40 hb1)) rfl ?_
         refine ol_call rfl rfl cb61 rfl (fun w1 hb1 hs1 hB1 => Calls.mono (ref5_pointC _ _) ?_)
         rintro e w2 ⟨rfl, hb2⟩
         refine After.below rfl hb1 hs1 hB1 hb2 ?_
         clear hb2 hB1 hs1 hb1 w2 w1
         refine ol_store (id := 10) rfl rfl rfl rfl sz41 rfl rfl (by first | decide | exact Nat.zero_lt_succ _ | simp) ?_
         refine ol_nil (to_k0 (fun _ _ h => h) (hK24 (_) _ _ ?_ sub_nil (sub_cons rfl (sub_cons rfl (sub_cons rfl (sub_cons rfl (sub_cons rfl (sub_cons rfl (sub_cons rfl (sub_cons rfl sub_nil)))))))) (subH_blk rfl (by repeat' first | exact sub_nil | refine sub_cons rfl ?_) subH_nil) (subH_same rfl (subH_same rfl (subH_same rfl (subH_same rfl subH_nil))))))
         try dsimp only
         first
         | (rw [show ((k : Int) - 1).toNat = k - 1 by omega] at hx40; exact hx40)
         | (have : k = 0 := by omega
            subst this
            exact hx28)
        ·refine wp_skip' (to_k0 (fun _ _ h => h) (hK24 (_) _ _ ?_ sub_nil (sub_cons rfl (sub_cons rfl (sub_cons rfl (sub_cons rfl (sub_cons rfl (sub_cons rfl (sub_cons rfl (sub_cons rfl sub_nil)))))))) (subH_blk rfl (by repeat' first | exact sub_nil | refine sub_cons rfl ?_) subH_nil) (subH_same rfl (subH_same rfl (subH_same rfl (subH_same rfl subH_nil))))))
         try dsimp only
         first
         | (rw [show ((k : Int) - 1).toNat = k - 1 by omega] at hx40; exact hx40)
         | (have : k = 0 := by omega
            subst this
            exact hx28)
       ·rintro p hp
        refine wp_seq' fun K26 hK26 => ?_
        refine wp_seq' fun K27 hK27 => ?_
        refine wp_reg ?_
        refine ol_r (r_fa (o' := 0) rfl fl41_0 rfl) rfl ?_
        refine ol_r (r_ld (id := 10) rfl rfl rfl sc3) rfl ?_
        refine ol_r (r_fa (o' := 0) rfl fl41_0 rfl) rfl ?_
        refine ol_r (r_ld (id := 11) rfl rfl rfl sc3) rfl ?_
        refine ol_r (r_gtr rfl rfl) rfl ?_
        refine ol_nil (to_k0 (fun _ _ h => h) (hK27 _ _ _ _ _ ?_))
        clear hK27
        first | refine wp_condD rfl (fun hc47 => ?_) (fun hc47 => ?_) | refine wp_condN rfl (fun hc47 => ?_) (fun hc47 => ?_) | refine wp_condNB rfl (fun hc47 => ?_) (fun hc47 => ?_) | refine wp_cond' rfl (fun hc47 => ?_) (fun hc47 => ?_)
        ·refine wp_reg ?_
         refine ol_r (r_lda (id := 11) (n := 2) rfl rfl rfl ag41) rfl ?_
         refine ol_r (r_lda (id := 10) (n := 2) rfl rfl rfl ag41) rfl ?_
         refine ol_store (id := 10) rfl rfl rfl rfl sz41 rfl rfl (by first | decide | exact Nat.zero_lt_succ _ | simp) ?_
         refine ol_store (id := 11) rfl rfl rfl rfl sz41 rfl rfl (by first | decide | exact Nat.zero_lt_succ _ | simp) ?_
         refine ol_nil (to_k0 (fun _ _ h => h) (hK26 _ _ _ _ _ ?_))
         clear hK26
         refine wp_seq' fun K28 hK28 => ?_
         refine wp_reg ?_
         have hc1 := hok.place (List.mem_of_getElem? hp)
         have hc2 := hok.place (List.mem_of_getElem? hx28)
         have hsd : inB side 1 10000000 = true := by simpa using hc20
         refine ol_r (r_move rfl) rfl ?_
         refine ol_r (r_lda (id := 10) (n := 2) rfl rfl rfl ag41) rfl ?_
         refine ol_r (r_lda (id := 11) (n := 2) rfl rfl rfl ag41) rfl ?_
         refine ol_r (r_move rfl) rfl ?_
         refine ol_call rfl rfl cb62 rfl (fun w1 hb1 hs1 hB1 => ?_)
         refine Calls.mono (ref5_step _ _ b21 D1 _ _ _ _ side _ _ _ _ hB1 (stB_of hc2 hc1 hsd (by omega)) ((hs1.up 200).sub (by repeat' first | exact subH_nil | refine subH_same rfl ?_))) ?_
         rintro e w2 ⟨rfl, hbw, hs2, hB2, hkd2⟩
         refine After.sat rfl hb1 hbw (hs2.down 200 (H' := [(2, _), (9, _), (10, _), (11, _), (21, _)]) (by repeat' first | exact subH_nil | refine subH_same rfl ?_)) hB2 hkd2 ?_
         clear hkd2 hB2 hs2 hbw hB1 hs1 hb1 w2 w1
         rw [show eastT x28.x x28.y p.x p.y side = stN A.ss side k by rw [stN_is hp hx28, stepT, if_pos (by omega)], hD, ← tlN_cap]
         refine ol_nil (to_k0 (fun _ _ h => h) (hK28 _ _ _ _ _ ?_))
         clear hK28
         refine wp_seq' fun K29 hK29 => ?_
         refine wp_reg ?_
         refine ol_r (r_move rfl) rfl ?_
         refine ol_r (r_mlen (K := encTile.val) (V := Value.bool) (z := false) (id := 21) rfl rfl mk100) rfl ?_
         refine ol_r (r_gtr rfl rfl) rfl ?_
         refine ol_nil (to_k0 (fun _ _ h => h) (hK29 _ _ _ _ _ ?_))
         clear hK29
         first | refine wp_condD rfl (fun hc57 => ?_) (fun hc57 => ?_) | refine wp_condN rfl (fun hc57 => ?_) (fun hc57 => ?_) | refine wp_condNB rfl (fun hc57 => ?_) (fun hc57 => ?_) | refine wp_cond' rfl (fun hc57 => ?_) (fun hc57 => ?_)
         ·refine wp_seq' fun K30 hK30 => ?_
          refine wp_reg ?_
          refine ol_r (r_assign rfl) rfl ?_
          refine ol_r (r_assign rfl) rfl ?_
          refine ol_nil (to_k0 (fun _ _ h => h) (hK30 _ _ _ _ _ ?_))
          clear hK30
          refine hQ.ret (rvs2 (rv_t rfl) (rv_t rfl)) (fun _ _ h => h) fun w hb hs hB hkd => ?_
          have h3 := tilesR_3 (a := A.d) (k := k + 1) (Decidable.not_not.1 hc17) hsd (by show k + 1 ≤ A.ss.length; omega) (by show ¬(capC [] (tlN A.ss side (k + 1))).length ≤ 100000; omega)
          exact ⟨none, 0, 0, by rw [h3], by rw [h3]; exact Fresh.nil hb⟩
         ·refine wp_skip' (to_k0 (fun _ _ h => h) (hK15 _ _ _ _ _ ?_))
          clear hK15
          refine wp_reg ?_
          refine ol_r (r_add rfl rfl (by omega)) rfl ?_
          refine ol_r (r_move rfl) rfl ?_
          refine ol_nil (to_k0 (fun _ _ h => h) (hK12 ((k + 1, capC [] (tlN A.ss side (k + 1)))) _ _ ?_ ?_ (sub_cons rfl sub_nil) (sub_cons rfl (sub_cons rfl (sub_cons rfl (sub_cons rfl (sub_cons rfl sub_nil))))) (by exact (subH_same rfl subH_nil)) (subH_same rfl subH_nil)))
          ·try dsimp only
           exact ⟨by omega, rfl, by omega⟩
          ·try dsimp only
           omega
        ·refine wp_skip' (to_k0 (fun _ _ h => h) (hK26 _ _ _ _ _ ?_))
         clear hK26
         refine wp_seq' fun K31 hK31 => ?_
         refine wp_reg ?_
         have hc1 := hok.place (List.mem_of_getElem? hp)
         have hc2 := hok.place (List.mem_of_getElem? hx28)
         have hsd : inB side 1 10000000 = true := by simpa using hc20
         refine ol_r (r_move rfl) rfl ?_
         refine ol_r (r_lda (id := 10) (n := 2) rfl rfl rfl ag41) rfl ?_
         refine ol_r (r_lda (id := 11) (n := 2) rfl rfl rfl ag41) rfl ?_
         refine ol_r (r_move rfl) rfl ?_
         refine ol_call rfl rfl cb62 rfl (fun w1 hb1 hs1 hB1 => ?_)
         refine Calls.mono (ref5_step _ _ b21 D1 _ _ _ _ side _ _ _ _ hB1 (stB_of hc1 hc2 hsd (by omega)) ((hs1.up 200).sub (by repeat' first | exact subH_nil | refine subH_same rfl ?_))) ?_
         rintro e w2 ⟨rfl, hbw, hs2, hB2, hkd2⟩
         refine After.sat rfl hb1 hbw (hs2.down 200 (H' := [(2, _), (9, _), (10, _), (11, _), (21, _)]) (by repeat' first | exact subH_nil | refine subH_same rfl ?_)) hB2 hkd2 ?_
         clear hkd2 hB2 hs2 hbw hB1 hs1 hb1 w2 w1
         rw [show eastT p.x p.y x28.x x28.y side = stN A.ss side k by rw [stN_is hp hx28, stepT, if_neg (by omega)], hD, ← tlN_cap]
         refine ol_nil (to_k0 (fun _ _ h => h) (hK31 _ _ _ _ _ ?_))
         clear hK31
         refine wp_seq' fun K32 hK32 => ?_
         refine wp_reg ?_
         refine ol_r (r_move rfl) rfl ?_
         refine ol_r (r_mlen (K := encTile.val) (V := Value.bool) (z := false) (id := 21) rfl rfl mk100) rfl ?_
         refine ol_r (r_gtr rfl rfl) rfl ?_
         refine ol_nil (to_k0 (fun _ _ h => h) (hK32 _ _ _ _ _ ?_))
         clear hK32
         first | refine wp_condD rfl (fun hc57 => ?_) (fun hc57 => ?_) | refine wp_condN rfl (fun hc57 => ?_) (fun hc57 => ?_) | refine wp_condNB rfl (fun hc57 => ?_) (fun hc57 => ?_) | refine wp_cond' rfl (fun hc57 => ?_) (fun hc57 => ?_)
         ·refine wp_seq' fun K33 hK33 => ?_
          refine wp_reg ?_
          refine ol_r (r_assign rfl) rfl ?_
          refine ol_r (r_assign rfl) rfl ?_
          refine ol_nil (to_k0 (fun _ _ h => h) (hK33 _ _ _ _ _ ?_))
          clear hK33
          refine hQ.ret (rvs2 (rv_t rfl) (rv_t rfl)) (fun _ _ h => h) fun w hb hs hB hkd => ?_
          have h3 := tilesR_3 (a := A.d) (k := k + 1) (Decidable.not_not.1 hc17) hsd (by show k + 1 ≤ A.ss.length; omega) (by show ¬(capC [] (tlN A.ss side (k + 1))).length ≤ 100000; omega)
          exact ⟨none, 0, 0, by rw [h3], by rw [h3]; exact Fresh.nil hb⟩
         ·refine wp_skip' (to_k0 (fun _ _ h => h) (hK15 _ _ _ _ _ ?_))
          clear hK15
          refine wp_reg ?_
          refine ol_r (r_add rfl rfl (by omega)) rfl ?_
          refine ol_r (r_move rfl) rfl ?_
          refine ol_nil (to_k0 (fun _ _ h => h) (hK12 ((k + 1, capC [] (tlN A.ss side (k + 1)))) _ _ ?_ ?_ (sub_cons rfl sub_nil) (sub_cons rfl (sub_cons rfl (sub_cons rfl (sub_cons rfl (sub_cons rfl sub_nil))))) (by exact (subH_same rfl subH_nil)) (subH_same rfl subH_nil)))
          ·try dsimp only
           exact ⟨by omega, rfl, by omega⟩
          ·try dsimp only
           omega
     ·refine wp_exit' (to_k0 (fun _ _ h => h) (hK10 _ _ _ _ _ ?_))
      clear hK10
      refine wp_seq' fun K34 hK34 => ?_
      refine wp_reg ?_
      refine ol_nilrow 12 42 2 ?_
      refine ol_r (r_assign rfl) rfl ?_
      refine ol_nil (to_k0 (fun _ _ h => h) (hK34 _ _ _ _ _ ?_))
      clear hK34
      refine wp_seq' fun K35 hK35 => ?_
      refine wp_seq' fun K36 hK36 => ?_
      refine wp_reg ?_
      refine ol_r (r_move rfl) rfl ?_
      refine ol_range (K := encTile.val) (V := Value.bool) (z := false) (id := 21) 60 rfl rfl mk100 rfl fun r60 bs60 ck60 hbs60 => ?_
      refine ol_nil (to_k0 (fun _ _ h => h) (hK36 _ _ _ _ _ ?_))
      clear hK36
      refine wp_block' ?_
      apply wp_loopM (σ := List Nat × List TileR × Option Addr × Nat × Nat) (fun s => s.2.2.2.1 = s.2.1.length ∧ Vis (pKeys D1) s.1 s.2.1) (fun s => [(12, .slice s.2.2.1 s.2.2.2.1 s.2.2.2.2)]) [(60, _)] (fun s => [(12, .row s.2.2.1 s.2.2.2.1 s.2.2.2.2 (encTile.enc s.2.1) 42 2), (60, .ob r60 (IterO b21 bs60 ck60 s.1))]) [(2, _), (21, _)] (fun s => D1.length - s.1.length) (([], [], none, 0, 0))
      ·try dsimp only
       exact ⟨rfl, Vis.nil _⟩
      ·exact (sub_cons rfl sub_nil)
      ·exact (sub_cons rfl sub_nil)
      ·exact (subH_row rfl (by first | (dsimp only; rfl; done) | (rfl; done) | (dsimp only; done)) (subH_same rfl subH_nil))
      ·exact (subH_same rfl (subH_same rfl subH_nil))
      ·rintro ⟨js, ks, oa, m, oc⟩ ⟨hm, hV⟩
       dsimp only at hm hV ⊢
       have hvl := hV.len
       have hvb := hV.le
       rw [keys_len] at hvb
       intro K37 hK37
       refine wp_seq' fun K38 hK38 => ?_
       refine wp_reg ?_
       refine ol_nextG (K := encTile.val) (V := Value.bool) (idi := 60) rfl rfl (mapB_own (id := 21) rfl) hbs60.2.1 hbs60.2.2 trivial rfl (fun hall61 => ?_) (fun j61 k61 v61 hj61 hv61 => ?_)
       ·refine ol_r (r_extract rfl rfl) rfl ?_
        refine ol_nil (to_k0 (fun _ _ h => h) (hK38 _ _ _ _ _ ?_))
        clear hK38
        refine wp_seq' fun K39 hK39 => ?_
        refine wp_condF rfl ?_
        refine wp_exit' (to_k0 (fun _ _ h => h) (hK35 _ _ _ _ _ ?_))
        clear hK35
        refine wp_seq' fun K40 hK40 => ?_
        refine wp_reg ?_
        have hkn : k = A.ss.length := by omega
        subst hkn
        refine ol_r (r_move rfl) rfl ?_
        refine ol_call rfl rfl cb63 rfl (fun w1 hb1 hs1 hB1 => Calls.mono (ref5_InOrder _ _ _ _ ks _ (Nat.le_refl _) (Sat.rd hs1 (E := encTile) (id := 12) rfl rfl) (by omega)) ?_)
        rintro e w2 ⟨a70, n70, c70, rfl, hf70⟩
        refine After.fresh (id := 70) rfl hb1 hs1 hB1 hf70 ?_
        have hl70 := hf70.len; clear hf70 hB1 hs1 hb1 w2 w1
        refine ol_r (r_assign rfl) rfl ?_
        refine ol_r (r_assign rfl) rfl ?_
        refine ol_nil (to_k0 (fun _ _ h => h) (hK40 _ _ _ _ _ ?_))
        clear hK40
        refine hQ.ret (rvs2 (rv_t rfl) (rv_t rfl)) (fun _ _ h => h) fun w hb hs hB hkd => ?_
        have hsd : inB side 1 10000000 = true := by simpa using hc20
        rw [hD] at hl
        have h0 := tilesR_0 (a := A.d) (ks := ks) (Decidable.not_not.1 hc17) hsd hl (by
          have := hV.all (fun j hj => hall61 j (by rwa [keys_len] at hj))
          rw [hD] at this; exact this)
        exact ⟨_, _, _, by rw [h0], by rw [h0]; exact ⟨hb, hs.ok 70 _ rfl⟩⟩
       ·refine ol_r (r_extract rfl rfl) rfl ?_
        refine ol_nil (to_k0 (fun _ _ h => h) (hK38 _ _ _ _ _ ?_))
        clear hK38
        refine wp_seq' fun K41 hK41 => ?_
        refine wp_condT rfl ?_
        refine wp_skip' (to_k0 (fun _ _ h => h) (hK41 _ _ _ _ _ ?_))
        clear hK41
        refine wp_block' ?_
        refine wp_seq' fun K42 hK42 => ?_
        refine wp_reg ?_
        refine ol_r (r_entry (K := encTile.val) (V := Value.bool) (idi := 60) rfl rfl (mapB_own (id := 21) rfl) hbs60.2.1 hv61) rfl ?_
        refine ol_r (r_extract rfl rfl) rfl ?_
        have hmr := hV.more hj61 (List.getElem?_eq_some_iff.1 (keys_get hv61)).1
        rw [keys_len] at hmr
        refine ol_alloc 13 z42 rfl fun b13 => ?_
        refine ol_store (id := 13) rfl rfl rfl rfl sz42 rfl rfl (by first | decide | exact Nat.zero_lt_succ _ | simp) ?_
        refine ol_nil (to_k0 (fun _ _ h => h) (hK42 _ _ _ _ _ ?_))
        clear hK42
        refine wp_reg ?_
        refine ol_r (r_move rfl) rfl ?_
        refine ol_r (r_lda (id := 13) (n := 2) rfl rfl rfl ag42) rfl ?_
        refine ol_bs1 67 rfl rfl rw45 rfl rfl rfl fun a67 => ?_
        refine ol_append1 (id := 12) (id2 := 67) rfl rfl rfl rfl rfl rw45 (by omega) rfl fun a68 c68 => ?_
        refine ol_r (r_assign rfl) rfl ?_
        refine ol_nil (to_k0 (fun _ _ h => h) (hK37 ((js ++ [j61], ks ++ [k61], _, _, _)) _ _ ?_ ?_ (sub_cons rfl sub_nil) (sub_cons rfl sub_nil) (by exact (subH_row rfl (by first | (dsimp only; rw [Enc.enc_append]; rfl; done) | (rw [Enc.enc_append]; rfl; done) | (dsimp only; done)) (subH_same rfl subH_nil))) (subH_same rfl (subH_same rfl subH_nil))))
        ·try dsimp only
         exact ⟨by rw [List.length_append, hm]; rfl, hV.step hj61 (keys_get hv61)⟩
        ·try dsimp only
         rw [List.length_append, List.length_singleton]; omega
end Go.Proofs.Ytjflbnbofedlkaa

/-
  MatchTilesMatchSpec.
-/


namespace Go.Proofs.Ytjflbnbofedlkaa
open Go Go.RowKit Hx
set_option linter.unusedVariables false
set_option linter.unusedSimpArgs false
set_option maxRecDepth 8000
theorem tile_ne (x : TileR) : eqs [Value.int .i64 x.1, .int .i64 x.2] [.int .i64 x.1, .int .i64 x.2] = true := by simp [eqs, eqV]
theorem equal_tile_same (a b : Option Addr) (n ca cb : Nat) (xs : List TileR) (w : World) (hx : Rd encTile w.heap.size w a n ca xs) (hy : Rd encTile w.heap.size w b n cb xs) :
    Calls Try.prog 18 #[.slice a n ca, .slice b n cb] w fun e w' => e = .returned (.bool true) ∧ Below w.heap.size w w' := by
  have hxf := hx.fit
  have hxl := hx.len
  refine enterQ (N := 26) (C := fun _ => True) (H := []) (B := w.heap.size) (args := [_, _]) Try.func18 rfl rfl rfl (Nat.le_refl _) (Sat.nil _ _) fun Q hQ => ?_
  refine wp_seq' fun K1 hK1 => ?_
  refine wp_reg ?_
  refine ol_r (r_assign rfl) rfl ?_
  refine ol_nil (to_k0 (fun _ _ h => h) (hK1 _ _ _ _ _ ?_))
  clear hK1
  refine wp_seq' fun K2 hK2 => ?_
  refine wp_seq' fun K3 hK3 => ?_
  refine wp_reg ?_
  refine ol_r (r_move rfl) rfl ?_
  refine ol_r (r_len rfl sl45) rfl ?_
  refine ol_r (r_move rfl) rfl ?_
  refine ol_r (r_len rfl sl45) rfl ?_
  refine ol_r (r_neq rfl rfl) rfl ?_
  refine ol_nil (to_k0 (fun _ _ h => h) (hK3 _ _ _ _ _ ?_))
  clear hK3
  first | refine wp_condD rfl (fun hc10 => ?_) (fun hc10 => ?_) | refine wp_condN rfl (fun hc10 => ?_) (fun hc10 => ?_) | refine wp_condNB rfl (fun hc10 => ?_) (fun hc10 => ?_) | refine wp_cond' rfl (fun hc10 => ?_) (fun hc10 => ?_)
  ·exfalso
   omega
  ·refine wp_skip' (to_k0 (fun _ _ h => h) (hK2 _ _ _ _ _ ?_))
   clear hK2
   refine wp_seq' fun K4 hK4 => ?_
   refine wp_seq' fun K5 hK5 => ?_
   refine wp_reg ?_
   refine ol_r (r_move rfl) rfl ?_
   refine ol_r (r_len rfl sl45) rfl ?_
   refine ol_r (r_move rfl) rfl ?_
   refine ol_nil (to_k0 (fun _ _ h => h) (hK5 _ _ _ _ _ ?_))
   clear hK5
   refine wp_block' ?_
   apply wp_loopM (σ := Nat) (fun s => s ≤ n) (fun s => [(13, .int .i64 s)]) [(0, _), (1, _), (12, _)] (fun s => []) [] (fun s => n - s) (0)
   ·try dsimp only
    omega
   ·exact (sub_cons rfl sub_nil)
   ·exact (sub_cons rfl (sub_cons rfl (sub_cons rfl sub_nil)))
   ·exact subH_nil
   ·exact subH_nil
   ·rintro k hk
    intro K6 hK6
    refine wp_seq' fun K7 hK7 => ?_
    refine wp_reg ?_
    refine ol_r (r_lss rfl rfl) rfl ?_
    refine ol_nil (to_k0 (fun _ _ h => h) (hK7 _ _ _ _ _ ?_))
    clear hK7
    refine wp_seq' fun K8 hK8 => ?_
    first | refine wp_condD rfl (fun hc14 => ?_) (fun hc14 => ?_) | refine wp_condN rfl (fun hc14 => ?_) (fun hc14 => ?_) | refine wp_condNB rfl (fun hc14 => ?_) (fun hc14 => ?_) | refine wp_cond' rfl (fun hc14 => ?_) (fun hc14 => ?_)
    ·refine wp_skip' (to_k0 (fun _ _ h => h) (hK8 _ _ _ _ _ ?_))
     clear hK8
     refine wp_seq' fun K9 hK9 => ?_
     refine wp_block' ?_
     refine wp_seq' fun K10 hK10 => ?_
     refine wp_reg ?_
     refine ol_r (r_move rfl) rfl ?_
     refine ol_r (r_assign rfl) rfl ?_
     refine ol_nil (to_k0 (fun _ _ h => h) (hK10 _ _ _ _ _ ?_))
     clear hK10
     refine wp_seq' fun K11 hK11 => ?_
     refine wp_regq (by kernel_rfl) (by kernel_rfl) ?_
     refine ql_r (r_move rfl) rfl ?_
     refine ql_r (r_move rfl) rfl ?_
     refine ql_ixr hx rfl rfl sl45 (by omega) rfl fun x18 hx18 => ?_
     try simp only [Int.toNat_natCast] at hx18
     refine ql_r (r_ldw rfl (fun w1 hb1 hs1 hB1 => Rd.loads hx ty42 hx18 hb1)) rfl ?_
     refine ql_r (r_move rfl) rfl ?_
     refine ql_r (r_move rfl) rfl ?_
     refine ql_ixr hy rfl rfl sl45 (by omega) rfl fun x22 hx22 => ?_
     try simp only [Int.toNat_natCast] at hx22
     refine ql_r (r_ldw rfl (fun w1 hb1 hs1 hB1 => Rd.loads hy ty42 hx22 hb1)) rfl ?_
     obtain rfl : x18 = x22 := by rw [hx18] at hx22; cases hx22; rfl
     refine ql_r (r_nes rfl rfl (by kernel_rfl) (fun w => run_eqs (by kernel_rfl) (by kernel_rfl) w)) rfl ?_
     refine ql_nil (to_k0 (fun _ _ h => h) (hK11 _ _ _ _ _ ?_))
     clear hK11
     first | refine wp_condD rfl (fun hc24 => ?_) (fun hc24 => ?_) | refine wp_condN rfl (fun hc24 => ?_) (fun hc24 => ?_) | refine wp_condNB rfl (fun hc24 => ?_) (fun hc24 => ?_) | refine wp_cond' rfl (fun hc24 => ?_) (fun hc24 => ?_)
     ·exfalso
      rw [tile_ne] at hc24; simp at hc24
     ·refine wp_skip' (to_k0 (fun _ _ h => h) (hK9 _ _ _ _ _ ?_))
      clear hK9
      refine wp_reg ?_
      refine ol_r (r_add rfl rfl (by omega)) rfl ?_
      refine ol_r (r_move rfl) rfl ?_
      refine ol_nil (to_k0 (fun _ _ h => h) (hK6 (k + 1) _ _ ?_ ?_ (sub_cons rfl sub_nil) (sub_cons rfl (sub_cons rfl (sub_cons rfl sub_nil))) (by exact subH_nil) subH_nil))
      ·try dsimp only
       omega
      ·try dsimp only
       omega
    ·refine wp_exit' (to_k0 (fun _ _ h => h) (hK4 _ _ _ _ _ ?_))
     clear hK4
     refine wp_seq' fun K12 hK12 => ?_
     refine wp_reg ?_
     refine ol_r (r_assign rfl) rfl ?_
     refine ol_nil (to_k0 (fun _ _ h => h) (hK12 _ _ _ _ _ ?_))
     clear hK12
     refine hQ.ret (rvs1 (rv_t rfl)) (fun _ _ h => h) fun w hb hs hB hkd => ?_
     exact ⟨rfl, hb⟩
theorem law_tiles (A : ActV) (x y side : Int) (w : World) (hA : A.Ok w.heap.size w) :
    Calls Try.prog 4 #[.agg #[.string A.name, .int .i64 A.sport, .int .i64 A.start, .slice A.sa A.sn A.sc, .slice A.la A.ln A.lc, .slice A.ta A.tn A.tc], .agg #[.int .i64 x, .int .i64 y], .int .i64 side] w fun e w' => e = .returned (.bool true) ∧ Below w.heap.size w w' := by
  refine enterQ (N := 60) (C := fun _ => True) (H := []) (B := w.heap.size) (args := [_, _, _]) Try.func4 rfl rfl rfl (Nat.le_refl _) (Sat.nil _ _) fun Q hQ => ?_
  refine wp_seq' fun K1 hK1 => ?_
  refine wp_reg ?_
  refine ol_box 3 rfl rfl rfl fun b3 => ?_
  refine ol_box 4 rfl rfl rfl fun b4 => ?_
  refine ol_r (r_assign rfl) rfl ?_
  refine ol_nil (to_k0 (fun _ _ h => h) (hK1 _ _ _ _ _ ?_))
  clear hK1
  refine wp_seq' fun K2 hK2 => ?_
  refine wp_reg ?_
  refine ol_r (r_lda (id := 4) (n := 2) rfl rfl rfl ag41) rfl ?_
  refine ol_r (r_move rfl) rfl ?_
  refine ol_call rfl rfl cb14 rfl (fun w1 hb1 hs1 hB1 => Calls.mono (match_CellOf x y side _) ?_)
  rintro e w2 ⟨rfl, hb2⟩
  refine After.below rfl hb1 hs1 hB1 hb2 ?_
  clear hb2 hB1 hs1 hb1 w2 w1
  refine ol_r (r_move rfl) rfl ?_
  refine ol_r (r_extract rfl rfl) rfl ?_
  refine ol_r (r_extract rfl rfl) rfl ?_
  refine ol_alloc 7 z42 rfl fun b7 => ?_
  refine ol_store (id := 7) rfl rfl rfl rfl sz42 rfl rfl (by first | decide | exact Nat.zero_lt_succ _ | simp) ?_
  refine ol_r (r_assign rfl) rfl ?_
  refine ol_nil (to_k0 (fun _ _ h => h) (hK2 _ _ _ _ _ ?_))
  clear hK2
  refine wp_seq' fun K3 hK3 => ?_
  refine wp_reg ?_
  refine ol_r (r_lda (id := 4) (n := 2) rfl rfl rfl ag41) rfl ?_
  refine ol_r (r_move rfl) rfl ?_
  refine ol_call rfl rfl cb15 rfl (fun w1 hb1 hs1 hB1 => Calls.mono (ref5_CellOf x y side _) ?_)
  rintro e w2 ⟨rfl, hb2⟩
  refine After.below rfl hb1 hs1 hB1 hb2 ?_
  clear hb2 hB1 hs1 hb1 w2 w1
  refine ol_r (r_move rfl) rfl ?_
  refine ol_r (r_extract rfl rfl) rfl ?_
  refine ol_r (r_extract rfl rfl) rfl ?_
  refine ol_alloc 9 z42 rfl fun b9 => ?_
  refine ol_store (id := 9) rfl rfl rfl rfl sz42 rfl rfl (by first | decide | exact Nat.zero_lt_succ _ | simp) ?_
  refine ol_r (r_assign rfl) rfl ?_
  refine ol_nil (to_k0 (fun _ _ h => h) (hK3 _ _ _ _ _ ?_))
  clear hK3
  refine wp_seq' fun K4 hK4 => ?_
  refine wp_reg ?_
  refine ol_r (r_lda (id := 3) (n := 6) rfl rfl rfl ag39) rfl ?_
  refine ol_r (r_move rfl) rfl ?_
  refine ol_call rfl rfl cb16 rfl (fun w1 hb1 hs1 hB1 => Calls.mono (match_Tiles A side _ (hA.at hb1 hB1)) ?_)
  rintro e w2 ⟨a30, n30, c30, rfl, hf30⟩
  refine After.fresh (id := 30) rfl hb1 hs1 hB1 hf30 ?_
  have hl30 := hf30.len; clear hf30 hB1 hs1 hb1 w2 w1
  refine ol_r (r_move rfl) rfl ?_
  refine ol_r (r_extract rfl rfl) rfl ?_
  refine ol_r (r_extract rfl rfl) rfl ?_
  refine ol_r (r_assign rfl) rfl ?_
  refine ol_r (r_assign rfl) rfl ?_
  refine ol_nil (to_k0 (fun _ _ h => h) (hK4 _ _ _ _ _ ?_))
  clear hK4
  refine wp_seq' fun K5 hK5 => ?_
  refine wp_reg ?_
  refine ol_r (r_lda (id := 3) (n := 6) rfl rfl rfl ag39) rfl ?_
  refine ol_r (r_move rfl) rfl ?_
  refine ol_call rfl rfl cb17 rfl (fun w1 hb1 hs1 hB1 => Calls.mono (ref5_Tiles A side _ (hA.at hb1 hB1)) ?_)
  rintro e w2 ⟨a36, n36, c36, rfl, hf36⟩
  refine After.fresh (id := 36) rfl hb1 hs1 hB1 hf36 ?_
  have hl36 := hf36.len; clear hf36 hB1 hs1 hb1 w2 w1
  refine ol_r (r_move rfl) rfl ?_
  refine ol_r (r_extract rfl rfl) rfl ?_
  refine ol_r (r_extract rfl rfl) rfl ?_
  refine ol_r (r_assign rfl) rfl ?_
  refine ol_r (r_assign rfl) rfl ?_
  refine ol_nil (to_k0 (fun _ _ h => h) (hK5 _ _ _ _ _ ?_))
  clear hK5
  refine wp_seq' fun K6 hK6 => ?_
  refine wp_reg ?_
  obtain rfl : n30 = n36 := by rw [← hl30, ← hl36]
  refine ol_r (r_lda (id := 7) (n := 2) rfl rfl rfl ag42) rfl ?_
  refine ol_r (r_lda (id := 9) (n := 2) rfl rfl rfl ag42) rfl ?_
  refine ol_r (r_eqs rfl rfl (by kernel_rfl) (fun w => run_eqs (by kernel_rfl) (by kernel_rfl) w)) rfl ?_
  refine ol_r (r_move rfl) rfl ?_
  refine ol_split (d := 42) rfl (fun hs42 => ?_) (fun hs42 => ?_)
  ·have phs42 := hs42; try simp only [decide_eq_true_eq, decide_eq_false_iff_not, Bool.not_eq_true', Bool.not_eq_false', Bool.not_true, Bool.not_false] at phs42
   refine ol_g rfl rfl hs42 ?_
   refine ol_r (r_move rfl) rfl ?_
   refine ol_g rfl rfl hs42 ?_
   refine ol_r (r_move rfl) rfl ?_
   refine ol_g rfl rfl hs42 ?_
   refine ol_r (r_eql rfl rfl) rfl ?_
   refine ol_r (r_pickT rfl hs42 rfl) rfl ?_
   refine ol_r (r_move rfl) rfl ?_
   refine ol_split (d := 47) rfl (fun hs47 => ?_) (fun hs47 => ?_)
   ·have phs47 := hs47; try simp only [decide_eq_true_eq, decide_eq_false_iff_not, Bool.not_eq_true', Bool.not_eq_false', Bool.not_true, Bool.not_false] at phs47
    refine ol_g rfl rfl hs47 ?_
    refine ol_r (r_move rfl) rfl ?_
    refine ol_g rfl rfl hs47 ?_
    refine ol_r (r_move rfl) rfl ?_
    refine ol_g rfl rfl hs47 ?_
    refine ol_call rfl rfl cb18 rfl (fun w1 hb1 hs1 hB1 => Calls.mono (equal_tile_same _ _ _ _ _ _ _ (Sat.rd hs1 (id := 30) rfl rfl) (Sat.rd hs1 (id := 36) rfl rfl)) ?_)
    rintro e w2 ⟨rfl, hb2⟩
    refine After.below rfl hb1 hs1 hB1 hb2 ?_
    clear hb2 hB1 hs1 hb1 w2 w1
    refine ol_r (r_pickT rfl hs47 rfl) rfl ?_
    refine ol_r (r_move rfl) rfl ?_
    refine ol_split (d := 52) rfl (fun hs52 => ?_) (fun hs52 => ?_)
    ·have phs52 := hs52; try simp only [decide_eq_true_eq, decide_eq_false_iff_not, Bool.not_eq_true', Bool.not_eq_false', Bool.not_true, Bool.not_false] at phs52
     refine ol_g rfl rfl hs52 ?_
     refine ol_r (r_move rfl) rfl ?_
     refine ol_g rfl rfl hs52 ?_
     refine ol_r (r_move rfl) rfl ?_
     refine ol_g rfl rfl hs52 ?_
     refine ol_r (r_eql rfl rfl) rfl ?_
     refine ol_r (r_pickT rfl hs52 rfl) rfl ?_
     refine ol_r (r_move rfl) rfl ?_
     refine ol_split (d := 57) rfl (fun hs57 => ?_) (fun hs57 => ?_)
     ·have phs57 := hs57; try simp only [decide_eq_true_eq, decide_eq_false_iff_not, Bool.not_eq_true', Bool.not_eq_false', Bool.not_true, Bool.not_false] at phs57
      refine ol_g rfl rfl hs57 ?_
      refine ol_call rfl rfl cb13 rfl (fun w1 hb1 hs1 hB1 => Calls.mono (law5_told _) ?_)
      rintro e w2 ⟨rfl, hb2⟩
      refine After.below rfl hb1 hs1 hB1 hb2 ?_
      clear hb2 hB1 hs1 hb1 w2 w1
      refine ol_r (r_pickT rfl hs57 rfl) rfl ?_
      refine ol_r (r_assign rfl) rfl ?_
      refine ol_nil (to_k0 (fun _ _ h => h) (hK6 _ _ _ _ _ ?_))
      clear hK6
      refine hQ.ret (rvs1 (rv_t rfl)) (fun _ _ h => h) fun w hb hs hB hkd => ?_
      first
        | exact ⟨rfl, hb⟩
        | (exfalso; simp at hs42; done)
        | (exfalso; simp at hs47; done)
        | (exfalso; simp at hs52; done)
        | (exfalso; simp at hs57; done)
        | (exfalso; simp [eqs, eqV] at hs42; done)
        | (exfalso; rw [tile_ne] at hs42; simp at hs42; done)
     ·have phs57 := hs57; try simp only [decide_eq_true_eq, decide_eq_false_iff_not, Bool.not_eq_true', Bool.not_eq_false', Bool.not_true, Bool.not_false] at phs57
      refine ol_s rfl rfl hs57 rfl ?_
      refine ol_r (r_pickF rfl hs57 rfl) rfl ?_
      refine ol_r (r_assign rfl) rfl ?_
      refine ol_nil (to_k0 (fun _ _ h => h) (hK6 _ _ _ _ _ ?_))
      clear hK6
      refine hQ.ret (rvs1 (rv_t rfl)) (fun _ _ h => h) fun w hb hs hB hkd => ?_
      first
        | exact ⟨rfl, hb⟩
        | (exfalso; simp at hs42; done)
        | (exfalso; simp at hs47; done)
        | (exfalso; simp at hs52; done)
        | (exfalso; simp at hs57; done)
        | (exfalso; simp [eqs, eqV] at hs42; done)
        | (exfalso; rw [tile_ne] at hs42; simp at hs42; done)
    ·have phs52 := hs52; try simp only [decide_eq_true_eq, decide_eq_false_iff_not, Bool.not_eq_true', Bool.not_eq_false', Bool.not_true, Bool.not_false] at phs52
     refine ol_s rfl rfl hs52 rfl ?_
     refine ol_s rfl rfl hs52 rfl ?_
     refine ol_s rfl rfl hs52 rfl ?_
     refine ol_r (r_pickF rfl hs52 rfl) rfl ?_
     refine ol_r (r_move rfl) rfl ?_
     refine ol_s rfl rfl rfl rfl ?_
     refine ol_r (r_pickF rfl rfl rfl) rfl ?_
     refine ol_r (r_assign rfl) rfl ?_
     refine ol_nil (to_k0 (fun _ _ h => h) (hK6 _ _ _ _ _ ?_))
     clear hK6
     refine hQ.ret (rvs1 (rv_t rfl)) (fun _ _ h => h) fun w hb hs hB hkd => ?_
     first
       | exact ⟨rfl, hb⟩
       | (exfalso; simp at hs42; done)
       | (exfalso; simp at hs47; done)
       | (exfalso; simp at hs52; done)
       | (exfalso; simp at hs57; done)
       | (exfalso; simp [eqs, eqV] at hs42; done)
       | (exfalso; rw [tile_ne] at hs42; simp at hs42; done)
   ·have phs47 := hs47; try simp only [decide_eq_true_eq, decide_eq_false_iff_not, Bool.not_eq_true', Bool.not_eq_false', Bool.not_true, Bool.not_false] at phs47
    refine ol_s rfl rfl hs47 rfl ?_
    refine ol_s rfl rfl hs47 rfl ?_
    refine ol_s rfl rfl hs47 rfl ?_
    refine ol_r (r_pickF rfl hs47 rfl) rfl ?_
    refine ol_r (r_move rfl) rfl ?_
    refine ol_s rfl rfl rfl rfl ?_
    refine ol_s rfl rfl rfl rfl ?_
    refine ol_s rfl rfl rfl rfl ?_
    refine ol_r (r_pickF rfl rfl rfl) rfl ?_
    refine ol_r (r_move rfl) rfl ?_
    refine ol_s rfl rfl rfl rfl ?_
    refine ol_r (r_pickF rfl rfl rfl) rfl ?_
    refine ol_r (r_assign rfl) rfl ?_
    refine ol_nil (to_k0 (fun _ _ h => h) (hK6 _ _ _ _ _ ?_))
    clear hK6
    refine hQ.ret (rvs1 (rv_t rfl)) (fun _ _ h => h) fun w hb hs hB hkd => ?_
    first
      | exact ⟨rfl, hb⟩
      | (exfalso; simp at hs42; done)
      | (exfalso; simp at hs47; done)
      | (exfalso; simp at hs52; done)
      | (exfalso; simp at hs57; done)
      | (exfalso; simp [eqs, eqV] at hs42; done)
      | (exfalso; rw [tile_ne] at hs42; simp at hs42; done)
  ·have phs42 := hs42; try simp only [decide_eq_true_eq, decide_eq_false_iff_not, Bool.not_eq_true', Bool.not_eq_false', Bool.not_true, Bool.not_false] at phs42
   refine ol_s rfl rfl hs42 rfl ?_
   refine ol_s rfl rfl hs42 rfl ?_
   refine ol_s rfl rfl hs42 rfl ?_
   refine ol_r (r_pickF rfl hs42 rfl) rfl ?_
   refine ol_r (r_move rfl) rfl ?_
   refine ol_s rfl rfl rfl rfl ?_
   refine ol_s rfl rfl rfl rfl ?_
   refine ol_s rfl rfl rfl rfl ?_
   refine ol_r (r_pickF rfl rfl rfl) rfl ?_
   refine ol_r (r_move rfl) rfl ?_
   refine ol_s rfl rfl rfl rfl ?_
   refine ol_s rfl rfl rfl rfl ?_
   refine ol_s rfl rfl rfl rfl ?_
   refine ol_r (r_pickF rfl rfl rfl) rfl ?_
   refine ol_r (r_move rfl) rfl ?_
   refine ol_s rfl rfl rfl rfl ?_
   refine ol_r (r_pickF rfl rfl rfl) rfl ?_
   refine ol_r (r_assign rfl) rfl ?_
   refine ol_nil (to_k0 (fun _ _ h => h) (hK6 _ _ _ _ _ ?_))
   clear hK6
   refine hQ.ret (rvs1 (rv_t rfl)) (fun _ _ h => h) fun w hb hs hB hkd => ?_
   first
     | exact ⟨rfl, hb⟩
     | (exfalso; simp at hs42; done)
     | (exfalso; simp at hs47; done)
     | (exfalso; simp at hs52; done)
     | (exfalso; simp at hs57; done)
     | (exfalso; simp [eqs, eqV] at hs42; done)
     | (exfalso; rw [tile_ne] at hs42; simp at hs42; done)
end Go.Proofs.Ytjflbnbofedlkaa
