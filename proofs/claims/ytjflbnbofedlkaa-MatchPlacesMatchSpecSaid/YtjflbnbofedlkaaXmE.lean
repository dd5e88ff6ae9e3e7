/-
  Steps across gates: what crosses; the program's side.
-/
import Derived.Laws.Bits64b
import Derived.Sort.Grow
import Derived.Shelf.SlSortCmp.NoneTotal
import Derived.Sort.EncStr
import Derived.Lib.Bytealg
import Derived.Test.YtjflbnbofedlkaaXmA
import Derived.Test.YtjflbnbofedlkaaXmB
import Derived.Test.YtjflbnbofedlkaaXmC
import Derived.Test.YtjflbnbofedlkaaXmD



namespace Go.Proofs.Ytjflbnbofedlkaa
open Go Go.RowKit Hx
set_option linter.unusedVariables false
set_option linter.unusedSimpArgs false
set_option maxRecDepth 8000
def encPart : Enc PartR := { size := 2, cells := fun x => [.int .i64 x.num, .int .i64 x.den], val := fun x => .agg #[.int .i64 x.num, .int .i64 x.den], len := fun _ => rfl, ones := fun _ u h => by simp at h; rcases h with rfl | rfl <;> rfl, pos := by decide, vc := fun _ => rfl }
theorem ty152 : Ty Try.prog 152 encPart := .inr ⟨ag152, fun _ => rfl⟩
def encCr : Enc CrossR := { size := 3, cells := fun x => [.int .i64 x.gate, .int .i64 x.step, .int .i64 x.at_], val := fun x => .agg #[.int .i64 x.gate, .int .i64 x.step, .int .i64 x.at_], len := fun _ => rfl, ones := fun _ u h => by simp at h; rcases h with rfl | rfl | rfl <;> rfl, pos := by decide, vc := fun _ => rfl }
theorem ty88 : Ty Try.prog 88 encCr := .inr ⟨ag88, fun _ => rfl⟩
theorem match_sideOf (ax ay bx by_ x y : Int) (w : World) (h1 : -100000000 ≤ ax ∧ ax ≤ 100000000) (h2 : -100000000 ≤ ay ∧ ay ≤ 100000000) (h3 : -100000000 ≤ bx ∧ bx ≤ 100000000) (h4 : -100000000 ≤ by_ ∧ by_ ≤ 100000000) (h5 : -100000000 ≤ x ∧ x ≤ 100000000) (h6 : -100000000 ≤ y ∧ y ≤ 100000000) :
    Calls Try.prog 128 #[.agg #[.int .i64 ax, .int .i64 ay], .agg #[.int .i64 bx, .int .i64 by_], .agg #[.int .i64 x, .int .i64 y]] w fun e w' => e = .returned (.int .i64 (side6 ax ay bx by_ x y)) ∧ Below w.heap.size w w' := by
  have m1 := mul_ab (a := bx - ax) (b := y - ay) (by omega) (by omega)
  have m2 := mul_ab (a := by_ - ay) (b := x - ax) (by omega) (by omega)
  refine enterQ (N := 30) (C := fun _ => True) (H := []) (B := w.heap.size) (args := [_, _, _]) Try.func128 rfl rfl rfl (Nat.le_refl _) (Sat.nil _ _) fun Q hQ => ?_
  refine wp_seq' fun K1 hK1 => ?_
  refine wp_reg ?_
  refine ol_box 3 rfl rfl rfl fun b3 => ?_
  refine ol_box 4 rfl rfl rfl fun b4 => ?_
  refine ol_box 5 rfl rfl rfl fun b5 => ?_
  refine ol_r (r_assign rfl) rfl ?_
  refine ol_nil (to_k0 (fun _ _ h => h) (hK1 _ _ _ _ _ ?_))
  clear hK1
  refine wp_seq' fun K2 hK2 => ?_
  refine wp_reg ?_
  refine ol_r (r_fa (o' := 0) rfl fl41_0 rfl) rfl ?_
  refine ol_r (r_ld (id := 4) rfl rfl rfl sc3) rfl ?_
  refine ol_r (r_fa (o' := 0) rfl fl41_0 rfl) rfl ?_
  refine ol_r (r_ld (id := 3) rfl rfl rfl sc3) rfl ?_
  refine ol_r (r_sub rfl rfl (by omega)) rfl ?_
  refine ol_r (r_fa (o' := 1) rfl fl41_1 rfl) rfl ?_
  refine ol_r (r_ld (id := 5) rfl rfl rfl sc3) rfl ?_
  refine ol_r (r_fa (o' := 1) rfl fl41_1 rfl) rfl ?_
  refine ol_r (r_ld (id := 3) rfl rfl rfl sc3) rfl ?_
  refine ol_r (r_sub rfl rfl (by omega)) rfl ?_
  refine ol_r (r_mul rfl rfl (by omega)) rfl ?_
  refine ol_r (r_fa (o' := 1) rfl fl41_1 rfl) rfl ?_
  refine ol_r (r_ld (id := 4) rfl rfl rfl sc3) rfl ?_
  refine ol_r (r_fa (o' := 1) rfl fl41_1 rfl) rfl ?_
  refine ol_r (r_ld (id := 3) rfl rfl rfl sc3) rfl ?_
  refine ol_r (r_sub rfl rfl (by omega)) rfl ?_
  refine ol_r (r_fa (o' := 0) rfl fl41_0 rfl) rfl ?_
  refine ol_r (r_ld (id := 5) rfl rfl rfl sc3) rfl ?_
  refine ol_r (r_fa (o' := 0) rfl fl41_0 rfl) rfl ?_
  refine ol_r (r_ld (id := 3) rfl rfl rfl sc3) rfl ?_
  refine ol_r (r_sub rfl rfl (by omega)) rfl ?_
  refine ol_r (r_mul rfl rfl (by omega)) rfl ?_
  refine ol_r (r_sub rfl rfl (by omega)) rfl ?_
  refine ol_r (r_assign rfl) rfl ?_
  refine ol_nil (to_k0 (fun _ _ h => h) (hK2 _ _ _ _ _ ?_))
  clear hK2
  refine hQ.ret (rvs1 (rv_t rfl)) (fun _ _ h => h) fun w hb hs hB hkd => ?_
  exact ⟨rfl, hb⟩
theorem side6_bd {ax ay bx by_ x y : Int} (h1 : -100000000 ≤ ax ∧ ax ≤ 100000000) (h2 : -100000000 ≤ ay ∧ ay ≤ 100000000) (h3 : -100000000 ≤ bx ∧ bx ≤ 100000000) (h4 : -100000000 ≤ by_ ∧ by_ ≤ 100000000) (h5 : -100000000 ≤ x ∧ x ≤ 100000000) (h6 : -100000000 ≤ y ∧ y ≤ 100000000) : -80000000000000000 ≤ side6 ax ay bx by_ x y ∧ side6 ax ay bx by_ x y ≤ 80000000000000000 := by
  have m1 := mul_ab (a := bx - ax) (b := y - ay) (by omega) (by omega)
  have m2 := mul_ab (a := by_ - ay) (b := x - ax) (by omega) (by omega)
  unfold side6
  omega
theorem match_pointOf (p : SmpR) (w : World) : Calls Try.prog 55 #[.agg #[.int .i64 p.at_, .int .i64 p.x, .int .i64 p.y, .int .i64 p.z, .int .i64 p.pulse, .int .i64 p.power, .int .i64 p.steps]] w fun e w' => e = .returned (.agg #[.int .i64 p.x, .int .i64 p.y]) ∧ Below w.heap.size w w' := by
  refine enterQ (N := 8) (C := fun _ => True) (H := []) (B := w.heap.size) (args := [_]) Try.func55 rfl rfl rfl (Nat.le_refl _) (Sat.nil _ _) fun Q hQ => ?_
  refine wp_seq' fun K1 hK1 => ?_
  refine wp_reg ?_
  refine ol_box 1 rfl rfl rfl fun b1 => ?_
  refine ol_alloc 2 z41 rfl fun b2 => ?_
  refine ol_nil (to_k0 (fun _ _ h => h) (hK1 _ _ _ _ _ ?_))
  clear hK1
  refine wp_seq' fun K2 hK2 => ?_
  refine wp_reg ?_
  refine ol_r (r_fa (o' := 1) rfl fl51_1 rfl) rfl ?_
  refine ol_r (r_ld (id := 1) rfl rfl rfl sc3) rfl ?_
  refine ol_r (r_fa (o' := 2) rfl fl51_2 rfl) rfl ?_
  refine ol_r (r_ld (id := 1) rfl rfl rfl sc3) rfl ?_
  refine ol_r (r_build rfl (fun _ => bd41_0_1 _ _ _)) rfl ?_
  refine ol_store (id := 2) rfl rfl rfl rfl sz41 rfl rfl (by first | decide | exact Nat.zero_lt_succ _ | simp) ?_
  refine ol_nil (to_k0 (fun _ _ h => h) (hK2 _ _ _ _ _ ?_))
  clear hK2
  refine hQ.ret (rvs1 (rv_c (id := 2) (n := 2) rfl rfl ag41 rfl)) (fun _ _ h => h) fun w hb hs hB hkd => ?_
  exact ⟨rfl, hb⟩
theorem gate_bd {g : GateR} (h : ∀ p, fG p g = 0) : ((-100000000 ≤ g.ax ∧ g.ax ≤ 100000000) ∧ (-100000000 ≤ g.ay ∧ g.ay ≤ 100000000)) ∧ ((-100000000 ≤ g.bx ∧ g.bx ≤ 100000000) ∧ (-100000000 ≤ g.by_ ∧ g.by_ ≤ 100000000)) := by
  obtain ⟨h1, h2, _⟩ := fG_inv (h none)
  unfold ptB at h1 h2
  rw [Bool.and_eq_true] at h1 h2
  exact ⟨⟨inB_iff.1 h1.1, inB_iff.1 h1.2⟩, ⟨inB_iff.1 h2.1, inB_iff.1 h2.2⟩⟩
theorem match_crosses (g : GateR) (p q : SmpR) (w : World) (hg : ∀ o, fG o g = 0) (hp : PlaceOk p) (hq : PlaceOk q) :
    Calls Try.prog 102 #[encGate.val g, .agg #[.int .i64 p.at_, .int .i64 p.x, .int .i64 p.y, .int .i64 p.z, .int .i64 p.pulse, .int .i64 p.power, .int .i64 p.steps], .agg #[.int .i64 q.at_, .int .i64 q.x, .int .i64 q.y, .int .i64 q.z, .int .i64 q.pulse, .int .i64 q.power, .int .i64 q.steps]] w fun e w' => e = .returned (.tuple #[.agg #[.int .i64 (partOf g p q).num, .int .i64 (partOf g p q).den], .bool (crB g p q)]) ∧ Below w.heap.size w w' := by
  obtain ⟨⟨g1, g2⟩, g3, g4⟩ := gate_bd hg
  obtain ⟨p1, p2⟩ := hp
  obtain ⟨q1, q2⟩ := hq
  have b1 := side6_bd g1 g2 g3 g4 p1 p2
  have b2 := side6_bd g1 g2 g3 g4 q1 q2
  refine enterQ (N := 68) (C := fun _ => True) (H := []) (B := w.heap.size) (args := [_, _, _]) Try.func102 rfl rfl rfl (Nat.le_refl _) (Sat.nil _ _) fun Q hQ => ?_
  refine wp_seq' fun K1 hK1 => ?_
  refine wp_reg ?_
  refine ol_box 3 rfl rfl rfl fun b3 => ?_
  refine ol_box 4 rfl rfl rfl fun b4 => ?_
  refine ol_box 5 rfl rfl rfl fun b5 => ?_
  refine ol_alloc 6 z152 rfl fun b6 => ?_
  refine ol_r (r_assign rfl) rfl ?_
  refine ol_nil (to_k0 (fun _ _ h => h) (hK1 _ _ _ _ _ ?_))
  clear hK1
  apply wp_seq_cutM (σ := Nat × Nat) (fun s => True) (fun s => [(8, .pointer (some ⟨s.1, 0, none⟩)), (9, .pointer (some ⟨s.2, 0, none⟩))]) [(3, _), (6, _), (7, _)] (fun s => [(8, .blk s.1 (pairs 0 [.int .i64 p.x, .int .i64 p.y]) 41), (9, .blk s.2 (pairs 0 [.int .i64 q.x, .int .i64 q.y]) 41)]) [(3, _), (4, _), (5, _), (6, _)]
  ·exact (sub_cons rfl (sub_cons rfl (sub_cons rfl sub_nil)))
  ·exact (subH_same rfl (subH_same rfl (subH_same rfl (subH_same rfl subH_nil))))
  ·intro K2 hK2
   refine wp_rega [(999, [(3, _), (4, _), (5, _), (6, _)])] (by kernel_rfl) ⟨.inr (subH_same rfl (subH_same rfl (subH_same rfl (subH_same rfl subH_nil)))), trivial⟩ ?_
   refine aq_r 0 999 rfl (by kernel_rfl) (by kernel_rfl) (by kernel_rfl) (.head _) (by kernel_rfl) (by kernel_rfl) rfl (r_lda (id := 4) (n := 7) rfl rfl rfl ag51) ?_
   refine aq_r 2 999 rfl (by kernel_rfl) (by kernel_rfl) (by kernel_rfl) (.head _) (by kernel_rfl) (by kernel_rfl) rfl (r_lda (id := 5) (n := 7) rfl rfl rfl ag51) ?_
   refine aq_three (i := 1) (j := 4) (l := 5) (by kernel_rfl) rfl rfl rfl (fun K3 hK3 => ?_) (fun K3 hK3 => ?_) (fun K3 hK3 => ?_)
   ·refine ol_call rfl rfl cb55 rfl (fun w1 hb1 hs1 hB1 => Calls.mono (match_pointOf _ _) ?_)
    rintro e w2 ⟨rfl, hb2⟩
    refine After.below rfl hb1 hs1 hB1 hb2 ?_
    clear hb2 hB1 hs1 hb1 w2 w1
    refine ol_nil (to_k0 (fun _ _ h => h) (hK3 _ _ ⟨.inr (by repeat' first | exact subH_nil | refine subH_same rfl ?_ | (refine subH_blk rfl (by repeat' first | exact sub_nil | refine sub_cons rfl ?_) ?_)), trivial⟩ ?_))
    clear hK3
    refine aq_three (i := 3) (j := 4) (l := 5) (by kernel_rfl) rfl rfl rfl (fun K4 hK4 => ?_) (fun K4 hK4 => ?_) (fun K4 hK4 => ?_)
    ·refine ol_call rfl rfl cb55 rfl (fun w1 hb1 hs1 hB1 => Calls.mono (match_pointOf _ _) ?_)
     rintro e w2 ⟨rfl, hb2⟩
     refine After.below rfl hb1 hs1 hB1 hb2 ?_
     clear hb2 hB1 hs1 hb1 w2 w1
     refine ol_nil (to_k0 (fun _ _ h => h) (hK4 _ _ ⟨.inr (by repeat' first | exact subH_nil | refine subH_same rfl ?_ | (refine subH_blk rfl (by repeat' first | exact sub_nil | refine sub_cons rfl ?_) ?_)), trivial⟩ ?_))
     clear hK4
     refine aq_two (i := 4) (j := 5) (by kernel_rfl) rfl rfl (fun K5 hK5 => ?_) (fun K5 hK5 => ?_)
     ·refine ol_alloc 8 z41 rfl fun b8 => ?_
      refine ol_nil (to_k0 (fun _ _ h => h) (hK5 _ _ ⟨.inr (by repeat' first | exact subH_nil | refine subH_same rfl ?_ | (refine subH_blk rfl (by repeat' first | exact sub_nil | refine sub_cons rfl ?_) ?_)), trivial⟩ ?_))
      clear hK5
      refine aq_one (i := 5) (by kernel_rfl) rfl fun K6 hK6 => ?_
      refine ol_alloc 9 z41 rfl fun b9 => ?_
      refine ol_nil (to_k0 (fun _ _ h => h) (hK6 _ _ ⟨.inr (by repeat' first | exact subH_nil | refine subH_same rfl ?_ | (refine subH_blk rfl (by repeat' first | exact sub_nil | refine sub_cons rfl ?_) ?_)), trivial⟩ ?_))
      clear hK6
      refine aq_one (i := 6) (by kernel_rfl) rfl fun K7 hK7 => ?_
      refine ol_store (id := 8) rfl rfl rfl rfl sz41 rfl rfl (by first | decide | exact Nat.zero_lt_succ _ | simp) ?_
      refine ol_nil (to_k0 (fun _ _ h => h) (hK7 _ _ ⟨.inr (by repeat' first | exact subH_nil | refine subH_same rfl ?_ | (refine subH_blk rfl (by repeat' first | exact sub_nil | refine sub_cons rfl ?_) ?_)), trivial⟩ ?_))
      clear hK7
      refine aq_one (i := 7) (by kernel_rfl) rfl fun K8 hK8 => ?_
      refine ol_store (id := 9) rfl rfl rfl rfl sz41 rfl rfl (by first | decide | exact Nat.zero_lt_succ _ | simp) ?_
      refine ol_nil (to_k0 (fun _ _ h => h) (hK8 _ _ ⟨.inr (by repeat' first | exact subH_nil | refine subH_same rfl ?_ | (refine subH_blk rfl (by repeat' first | exact sub_nil | refine sub_cons rfl ?_) ?_)), trivial⟩ ?_))
      clear hK8
      refine aq_done (by kernel_rfl) ?_
      refine (to_k0 (fun _ _ h => h) (hK2 ((b8, b9)) _ _ ?_ (sub_cons rfl (sub_cons rfl sub_nil)) (sub_cons rfl (sub_cons rfl (sub_cons rfl sub_nil))) (subH_blk rfl (by repeat' first | exact sub_nil | refine sub_cons rfl ?_) (subH_blk rfl (by repeat' first | exact sub_nil | refine sub_cons rfl ?_) subH_nil)) (subH_same rfl (subH_same rfl (subH_same rfl (subH_same rfl subH_nil))))))
      try dsimp only
      all_goals trivial
     ·refine ol_alloc 9 z41 rfl fun b9 => ?_
      refine ol_nil (to_k0 (fun _ _ h => h) (hK5 _ _ ⟨.inr (by repeat' first | exact subH_nil | refine subH_same rfl ?_ | (refine subH_blk rfl (by repeat' first | exact sub_nil | refine sub_cons rfl ?_) ?_)), trivial⟩ ?_))
      clear hK5
      refine aq_one (i := 4) (by kernel_rfl) rfl fun K6 hK6 => ?_
      refine ol_alloc 8 z41 rfl fun b8 => ?_
      refine ol_nil (to_k0 (fun _ _ h => h) (hK6 _ _ ⟨.inr (by repeat' first | exact subH_nil | refine subH_same rfl ?_ | (refine subH_blk rfl (by repeat' first | exact sub_nil | refine sub_cons rfl ?_) ?_)), trivial⟩ ?_))
      clear hK6
      refine aq_one (i := 6) (by kernel_rfl) rfl fun K7 hK7 => ?_
      refine ol_store (id := 8) rfl rfl rfl rfl sz41 rfl rfl (by first | decide | exact Nat.zero_lt_succ _ | simp) ?_
      refine ol_nil (to_k0 (fun _ _ h => h) (hK7 _ _ ⟨.inr (by repeat' first | exact subH_nil | refine subH_same rfl ?_ | (refine subH_blk rfl (by repeat' first | exact sub_nil | refine sub_cons rfl ?_) ?_)), trivial⟩ ?_))
      clear hK7
      refine aq_one (i := 7) (by kernel_rfl) rfl fun K8 hK8 => ?_
      refine ol_store (id := 9) rfl rfl rfl rfl sz41 rfl rfl (by first | decide | exact Nat.zero_lt_succ _ | simp) ?_
      refine ol_nil (to_k0 (fun _ _ h => h) (hK8 _ _ ⟨.inr (by repeat' first | exact subH_nil | refine subH_same rfl ?_ | (refine subH_blk rfl (by repeat' first | exact sub_nil | refine sub_cons rfl ?_) ?_)), trivial⟩ ?_))
      clear hK8
      refine aq_done (by kernel_rfl) ?_
      refine (to_k0 (fun _ _ h => h) (hK2 ((b8, b9)) _ _ ?_ (sub_cons rfl (sub_cons rfl sub_nil)) (sub_cons rfl (sub_cons rfl (sub_cons rfl sub_nil))) (subH_blk rfl (by repeat' first | exact sub_nil | refine sub_cons rfl ?_) (subH_blk rfl (by repeat' first | exact sub_nil | refine sub_cons rfl ?_) subH_nil)) (subH_same rfl (subH_same rfl (subH_same rfl (subH_same rfl subH_nil))))))
      try dsimp only
      all_goals trivial
    ·refine ol_alloc 8 z41 rfl fun b8 => ?_
     refine ol_nil (to_k0 (fun _ _ h => h) (hK4 _ _ ⟨.inr (by repeat' first | exact subH_nil | refine subH_same rfl ?_ | (refine subH_blk rfl (by repeat' first | exact sub_nil | refine sub_cons rfl ?_) ?_)), trivial⟩ ?_))
     clear hK4
     refine aq_two (i := 3) (j := 5) (by kernel_rfl) rfl rfl (fun K5 hK5 => ?_) (fun K5 hK5 => ?_)
     ·refine ol_call rfl rfl cb55 rfl (fun w1 hb1 hs1 hB1 => Calls.mono (match_pointOf _ _) ?_)
      rintro e w2 ⟨rfl, hb2⟩
      refine After.below rfl hb1 hs1 hB1 hb2 ?_
      clear hb2 hB1 hs1 hb1 w2 w1
      refine ol_nil (to_k0 (fun _ _ h => h) (hK5 _ _ ⟨.inr (by repeat' first | exact subH_nil | refine subH_same rfl ?_ | (refine subH_blk rfl (by repeat' first | exact sub_nil | refine sub_cons rfl ?_) ?_)), trivial⟩ ?_))
      clear hK5
      refine aq_one (i := 5) (by kernel_rfl) rfl fun K6 hK6 => ?_
      refine ol_alloc 9 z41 rfl fun b9 => ?_
      refine ol_nil (to_k0 (fun _ _ h => h) (hK6 _ _ ⟨.inr (by repeat' first | exact subH_nil | refine subH_same rfl ?_ | (refine subH_blk rfl (by repeat' first | exact sub_nil | refine sub_cons rfl ?_) ?_)), trivial⟩ ?_))
      clear hK6
      refine aq_one (i := 6) (by kernel_rfl) rfl fun K7 hK7 => ?_
      refine ol_store (id := 8) rfl rfl rfl rfl sz41 rfl rfl (by first | decide | exact Nat.zero_lt_succ _ | simp) ?_
      refine ol_nil (to_k0 (fun _ _ h => h) (hK7 _ _ ⟨.inr (by repeat' first | exact subH_nil | refine subH_same rfl ?_ | (refine subH_blk rfl (by repeat' first | exact sub_nil | refine sub_cons rfl ?_) ?_)), trivial⟩ ?_))
      clear hK7
      refine aq_one (i := 7) (by kernel_rfl) rfl fun K8 hK8 => ?_
      refine ol_store (id := 9) rfl rfl rfl rfl sz41 rfl rfl (by first | decide | exact Nat.zero_lt_succ _ | simp) ?_
      refine ol_nil (to_k0 (fun _ _ h => h) (hK8 _ _ ⟨.inr (by repeat' first | exact subH_nil | refine subH_same rfl ?_ | (refine subH_blk rfl (by repeat' first | exact sub_nil | refine sub_cons rfl ?_) ?_)), trivial⟩ ?_))
      clear hK8
      refine aq_done (by kernel_rfl) ?_
      refine (to_k0 (fun _ _ h => h) (hK2 ((b8, b9)) _ _ ?_ (sub_cons rfl (sub_cons rfl sub_nil)) (sub_cons rfl (sub_cons rfl (sub_cons rfl sub_nil))) (subH_blk rfl (by repeat' first | exact sub_nil | refine sub_cons rfl ?_) (subH_blk rfl (by repeat' first | exact sub_nil | refine sub_cons rfl ?_) subH_nil)) (subH_same rfl (subH_same rfl (subH_same rfl (subH_same rfl subH_nil))))))
      try dsimp only
      all_goals trivial
     ·refine ol_alloc 9 z41 rfl fun b9 => ?_
      refine ol_nil (to_k0 (fun _ _ h => h) (hK5 _ _ ⟨.inr (by repeat' first | exact subH_nil | refine subH_same rfl ?_ | (refine subH_blk rfl (by repeat' first | exact sub_nil | refine sub_cons rfl ?_) ?_)), trivial⟩ ?_))
      clear hK5
      refine aq_one (i := 3) (by kernel_rfl) rfl fun K6 hK6 => ?_
      refine ol_call rfl rfl cb55 rfl (fun w1 hb1 hs1 hB1 => Calls.mono (match_pointOf _ _) ?_)
      rintro e w2 ⟨rfl, hb2⟩
      refine After.below rfl hb1 hs1 hB1 hb2 ?_
      clear hb2 hB1 hs1 hb1 w2 w1
      refine ol_nil (to_k0 (fun _ _ h => h) (hK6 _ _ ⟨.inr (by repeat' first | exact subH_nil | refine subH_same rfl ?_ | (refine subH_blk rfl (by repeat' first | exact sub_nil | refine sub_cons rfl ?_) ?_)), trivial⟩ ?_))
      clear hK6
      refine aq_one (i := 6) (by kernel_rfl) rfl fun K7 hK7 => ?_
      refine ol_store (id := 8) rfl rfl rfl rfl sz41 rfl rfl (by first | decide | exact Nat.zero_lt_succ _ | simp) ?_
      refine ol_nil (to_k0 (fun _ _ h => h) (hK7 _ _ ⟨.inr (by repeat' first | exact subH_nil | refine subH_same rfl ?_ | (refine subH_blk rfl (by repeat' first | exact sub_nil | refine sub_cons rfl ?_) ?_)), trivial⟩ ?_))
      clear hK7
      refine aq_one (i := 7) (by kernel_rfl) rfl fun K8 hK8 => ?_
      refine ol_store (id := 9) rfl rfl rfl rfl sz41 rfl rfl (by first | decide | exact Nat.zero_lt_succ _ | simp) ?_
      refine ol_nil (to_k0 (fun _ _ h => h) (hK8 _ _ ⟨.inr (by repeat' first | exact subH_nil | refine subH_same rfl ?_ | (refine subH_blk rfl (by repeat' first | exact sub_nil | refine sub_cons rfl ?_) ?_)), trivial⟩ ?_))
      clear hK8
      refine aq_done (by kernel_rfl) ?_
      refine (to_k0 (fun _ _ h => h) (hK2 ((b8, b9)) _ _ ?_ (sub_cons rfl (sub_cons rfl sub_nil)) (sub_cons rfl (sub_cons rfl (sub_cons rfl sub_nil))) (subH_blk rfl (by repeat' first | exact sub_nil | refine sub_cons rfl ?_) (subH_blk rfl (by repeat' first | exact sub_nil | refine sub_cons rfl ?_) subH_nil)) (subH_same rfl (subH_same rfl (subH_same rfl (subH_same rfl subH_nil))))))
      try dsimp only
      all_goals trivial
    ·refine ol_alloc 9 z41 rfl fun b9 => ?_
     refine ol_nil (to_k0 (fun _ _ h => h) (hK4 _ _ ⟨.inr (by repeat' first | exact subH_nil | refine subH_same rfl ?_ | (refine subH_blk rfl (by repeat' first | exact sub_nil | refine sub_cons rfl ?_) ?_)), trivial⟩ ?_))
     clear hK4
     refine aq_two (i := 3) (j := 4) (by kernel_rfl) rfl rfl (fun K5 hK5 => ?_) (fun K5 hK5 => ?_)
     ·refine ol_call rfl rfl cb55 rfl (fun w1 hb1 hs1 hB1 => Calls.mono (match_pointOf _ _) ?_)
      rintro e w2 ⟨rfl, hb2⟩
      refine After.below rfl hb1 hs1 hB1 hb2 ?_
      clear hb2 hB1 hs1 hb1 w2 w1
      refine ol_nil (to_k0 (fun _ _ h => h) (hK5 _ _ ⟨.inr (by repeat' first | exact subH_nil | refine subH_same rfl ?_ | (refine subH_blk rfl (by repeat' first | exact sub_nil | refine sub_cons rfl ?_) ?_)), trivial⟩ ?_))
      clear hK5
      refine aq_one (i := 4) (by kernel_rfl) rfl fun K6 hK6 => ?_
      refine ol_alloc 8 z41 rfl fun b8 => ?_
      refine ol_nil (to_k0 (fun _ _ h => h) (hK6 _ _ ⟨.inr (by repeat' first | exact subH_nil | refine subH_same rfl ?_ | (refine subH_blk rfl (by repeat' first | exact sub_nil | refine sub_cons rfl ?_) ?_)), trivial⟩ ?_))
      clear hK6
      refine aq_one (i := 6) (by kernel_rfl) rfl fun K7 hK7 => ?_
      refine ol_store (id := 8) rfl rfl rfl rfl sz41 rfl rfl (by first | decide | exact Nat.zero_lt_succ _ | simp) ?_
      refine ol_nil (to_k0 (fun _ _ h => h) (hK7 _ _ ⟨.inr (by repeat' first | exact subH_nil | refine subH_same rfl ?_ | (refine subH_blk rfl (by repeat' first | exact sub_nil | refine sub_cons rfl ?_) ?_)), trivial⟩ ?_))
      clear hK7
      refine aq_one (i := 7) (by kernel_rfl) rfl fun K8 hK8 => ?_
      refine ol_store (id := 9) rfl rfl rfl rfl sz41 rfl rfl (by first | decide | exact Nat.zero_lt_succ _ | simp) ?_
      refine ol_nil (to_k0 (fun _ _ h => h) (hK8 _ _ ⟨.inr (by repeat' first | exact subH_nil | refine subH_same rfl ?_ | (refine subH_blk rfl (by repeat' first | exact sub_nil | refine sub_cons rfl ?_) ?_)), trivial⟩ ?_))
      clear hK8
      refine aq_done (by kernel_rfl) ?_
      refine (to_k0 (fun _ _ h => h) (hK2 ((b8, b9)) _ _ ?_ (sub_cons rfl (sub_cons rfl sub_nil)) (sub_cons rfl (sub_cons rfl (sub_cons rfl sub_nil))) (subH_blk rfl (by repeat' first | exact sub_nil | refine sub_cons rfl ?_) (subH_blk rfl (by repeat' first | exact sub_nil | refine sub_cons rfl ?_) subH_nil)) (subH_same rfl (subH_same rfl (subH_same rfl (subH_same rfl subH_nil))))))
      try dsimp only
      all_goals trivial
     ·refine ol_alloc 8 z41 rfl fun b8 => ?_
      refine ol_nil (to_k0 (fun _ _ h => h) (hK5 _ _ ⟨.inr (by repeat' first | exact subH_nil | refine subH_same rfl ?_ | (refine subH_blk rfl (by repeat' first | exact sub_nil | refine sub_cons rfl ?_) ?_)), trivial⟩ ?_))
      clear hK5
      refine aq_one (i := 3) (by kernel_rfl) rfl fun K6 hK6 => ?_
      refine ol_call rfl rfl cb55 rfl (fun w1 hb1 hs1 hB1 => Calls.mono (match_pointOf _ _) ?_)
      rintro e w2 ⟨rfl, hb2⟩
      refine After.below rfl hb1 hs1 hB1 hb2 ?_
      clear hb2 hB1 hs1 hb1 w2 w1
      refine ol_nil (to_k0 (fun _ _ h => h) (hK6 _ _ ⟨.inr (by repeat' first | exact subH_nil | refine subH_same rfl ?_ | (refine subH_blk rfl (by repeat' first | exact sub_nil | refine sub_cons rfl ?_) ?_)), trivial⟩ ?_))
      clear hK6
      refine aq_one (i := 6) (by kernel_rfl) rfl fun K7 hK7 => ?_
      refine ol_store (id := 8) rfl rfl rfl rfl sz41 rfl rfl (by first | decide | exact Nat.zero_lt_succ _ | simp) ?_
      refine ol_nil (to_k0 (fun _ _ h => h) (hK7 _ _ ⟨.inr (by repeat' first | exact subH_nil | refine subH_same rfl ?_ | (refine subH_blk rfl (by repeat' first | exact sub_nil | refine sub_cons rfl ?_) ?_)), trivial⟩ ?_))
      clear hK7
      refine aq_one (i := 7) (by kernel_rfl) rfl fun K8 hK8 => ?_
      refine ol_store (id := 9) rfl rfl rfl rfl sz41 rfl rfl (by first | decide | exact Nat.zero_lt_succ _ | simp) ?_
      refine ol_nil (to_k0 (fun _ _ h => h) (hK8 _ _ ⟨.inr (by repeat' first | exact subH_nil | refine subH_same rfl ?_ | (refine subH_blk rfl (by repeat' first | exact sub_nil | refine sub_cons rfl ?_) ?_)), trivial⟩ ?_))
      clear hK8
      refine aq_done (by kernel_rfl) ?_
      refine (to_k0 (fun _ _ h => h) (hK2 ((b8, b9)) _ _ ?_ (sub_cons rfl (sub_cons rfl sub_nil)) (sub_cons rfl (sub_cons rfl (sub_cons rfl sub_nil))) (subH_blk rfl (by repeat' first | exact sub_nil | refine sub_cons rfl ?_) (subH_blk rfl (by repeat' first | exact sub_nil | refine sub_cons rfl ?_) subH_nil)) (subH_same rfl (subH_same rfl (subH_same rfl (subH_same rfl subH_nil))))))
      try dsimp only
      all_goals trivial
   ·refine ol_alloc 8 z41 rfl fun b8 => ?_
    refine ol_nil (to_k0 (fun _ _ h => h) (hK3 _ _ ⟨.inr (by repeat' first | exact subH_nil | refine subH_same rfl ?_ | (refine subH_blk rfl (by repeat' first | exact sub_nil | refine sub_cons rfl ?_) ?_)), trivial⟩ ?_))
    clear hK3
    refine aq_two (i := 1) (j := 5) (by kernel_rfl) rfl rfl (fun K4 hK4 => ?_) (fun K4 hK4 => ?_)
    ·refine ol_call rfl rfl cb55 rfl (fun w1 hb1 hs1 hB1 => Calls.mono (match_pointOf _ _) ?_)
     rintro e w2 ⟨rfl, hb2⟩
     refine After.below rfl hb1 hs1 hB1 hb2 ?_
     clear hb2 hB1 hs1 hb1 w2 w1
     refine ol_nil (to_k0 (fun _ _ h => h) (hK4 _ _ ⟨.inr (by repeat' first | exact subH_nil | refine subH_same rfl ?_ | (refine subH_blk rfl (by repeat' first | exact sub_nil | refine sub_cons rfl ?_) ?_)), trivial⟩ ?_))
     clear hK4
     refine aq_two (i := 3) (j := 5) (by kernel_rfl) rfl rfl (fun K5 hK5 => ?_) (fun K5 hK5 => ?_)
     ·refine ol_call rfl rfl cb55 rfl (fun w1 hb1 hs1 hB1 => Calls.mono (match_pointOf _ _) ?_)
      rintro e w2 ⟨rfl, hb2⟩
      refine After.below rfl hb1 hs1 hB1 hb2 ?_
      clear hb2 hB1 hs1 hb1 w2 w1
      refine ol_nil (to_k0 (fun _ _ h => h) (hK5 _ _ ⟨.inr (by repeat' first | exact subH_nil | refine subH_same rfl ?_ | (refine subH_blk rfl (by repeat' first | exact sub_nil | refine sub_cons rfl ?_) ?_)), trivial⟩ ?_))
      clear hK5
      refine aq_one (i := 5) (by kernel_rfl) rfl fun K6 hK6 => ?_
      refine ol_alloc 9 z41 rfl fun b9 => ?_
      refine ol_nil (to_k0 (fun _ _ h => h) (hK6 _ _ ⟨.inr (by repeat' first | exact subH_nil | refine subH_same rfl ?_ | (refine subH_blk rfl (by repeat' first | exact sub_nil | refine sub_cons rfl ?_) ?_)), trivial⟩ ?_))
      clear hK6
      refine aq_one (i := 6) (by kernel_rfl) rfl fun K7 hK7 => ?_
      refine ol_store (id := 8) rfl rfl rfl rfl sz41 rfl rfl (by first | decide | exact Nat.zero_lt_succ _ | simp) ?_
      refine ol_nil (to_k0 (fun _ _ h => h) (hK7 _ _ ⟨.inr (by repeat' first | exact subH_nil | refine subH_same rfl ?_ | (refine subH_blk rfl (by repeat' first | exact sub_nil | refine sub_cons rfl ?_) ?_)), trivial⟩ ?_))
      clear hK7
      refine aq_one (i := 7) (by kernel_rfl) rfl fun K8 hK8 => ?_
      refine ol_store (id := 9) rfl rfl rfl rfl sz41 rfl rfl (by first | decide | exact Nat.zero_lt_succ _ | simp) ?_
      refine ol_nil (to_k0 (fun _ _ h => h) (hK8 _ _ ⟨.inr (by repeat' first | exact subH_nil | refine subH_same rfl ?_ | (refine subH_blk rfl (by repeat' first | exact sub_nil | refine sub_cons rfl ?_) ?_)), trivial⟩ ?_))
      clear hK8
      refine aq_done (by kernel_rfl) ?_
      refine (to_k0 (fun _ _ h => h) (hK2 ((b8, b9)) _ _ ?_ (sub_cons rfl (sub_cons rfl sub_nil)) (sub_cons rfl (sub_cons rfl (sub_cons rfl sub_nil))) (subH_blk rfl (by repeat' first | exact sub_nil | refine sub_cons rfl ?_) (subH_blk rfl (by repeat' first | exact sub_nil | refine sub_cons rfl ?_) subH_nil)) (subH_same rfl (subH_same rfl (subH_same rfl (subH_same rfl subH_nil))))))
      try dsimp only
      all_goals trivial
     ·refine ol_alloc 9 z41 rfl fun b9 => ?_
      refine ol_nil (to_k0 (fun _ _ h => h) (hK5 _ _ ⟨.inr (by repeat' first | exact subH_nil | refine subH_same rfl ?_ | (refine subH_blk rfl (by repeat' first | exact sub_nil | refine sub_cons rfl ?_) ?_)), trivial⟩ ?_))
      clear hK5
      refine aq_one (i := 3) (by kernel_rfl) rfl fun K6 hK6 => ?_
      refine ol_call rfl rfl cb55 rfl (fun w1 hb1 hs1 hB1 => Calls.mono (match_pointOf _ _) ?_)
      rintro e w2 ⟨rfl, hb2⟩
      refine After.below rfl hb1 hs1 hB1 hb2 ?_
      clear hb2 hB1 hs1 hb1 w2 w1
      refine ol_nil (to_k0 (fun _ _ h => h) (hK6 _ _ ⟨.inr (by repeat' first | exact subH_nil | refine subH_same rfl ?_ | (refine subH_blk rfl (by repeat' first | exact sub_nil | refine sub_cons rfl ?_) ?_)), trivial⟩ ?_))
      clear hK6
      refine aq_one (i := 6) (by kernel_rfl) rfl fun K7 hK7 => ?_
      refine ol_store (id := 8) rfl rfl rfl rfl sz41 rfl rfl (by first | decide | exact Nat.zero_lt_succ _ | simp) ?_
      refine ol_nil (to_k0 (fun _ _ h => h) (hK7 _ _ ⟨.inr (by repeat' first | exact subH_nil | refine subH_same rfl ?_ | (refine subH_blk rfl (by repeat' first | exact sub_nil | refine sub_cons rfl ?_) ?_)), trivial⟩ ?_))
      clear hK7
      refine aq_one (i := 7) (by kernel_rfl) rfl fun K8 hK8 => ?_
      refine ol_store (id := 9) rfl rfl rfl rfl sz41 rfl rfl (by first | decide | exact Nat.zero_lt_succ _ | simp) ?_
      refine ol_nil (to_k0 (fun _ _ h => h) (hK8 _ _ ⟨.inr (by repeat' first | exact subH_nil | refine subH_same rfl ?_ | (refine subH_blk rfl (by repeat' first | exact sub_nil | refine sub_cons rfl ?_) ?_)), trivial⟩ ?_))
      clear hK8
      refine aq_done (by kernel_rfl) ?_
      refine (to_k0 (fun _ _ h => h) (hK2 ((b8, b9)) _ _ ?_ (sub_cons rfl (sub_cons rfl sub_nil)) (sub_cons rfl (sub_cons rfl (sub_cons rfl sub_nil))) (subH_blk rfl (by repeat' first | exact sub_nil | refine sub_cons rfl ?_) (subH_blk rfl (by repeat' first | exact sub_nil | refine sub_cons rfl ?_) subH_nil)) (subH_same rfl (subH_same rfl (subH_same rfl (subH_same rfl subH_nil))))))
      try dsimp only
      all_goals trivial
    ·refine ol_alloc 9 z41 rfl fun b9 => ?_
     refine ol_nil (to_k0 (fun _ _ h => h) (hK4 _ _ ⟨.inr (by repeat' first | exact subH_nil | refine subH_same rfl ?_ | (refine subH_blk rfl (by repeat' first | exact sub_nil | refine sub_cons rfl ?_) ?_)), trivial⟩ ?_))
     clear hK4
     refine aq_one (i := 1) (by kernel_rfl) rfl fun K5 hK5 => ?_
     refine ol_call rfl rfl cb55 rfl (fun w1 hb1 hs1 hB1 => Calls.mono (match_pointOf _ _) ?_)
     rintro e w2 ⟨rfl, hb2⟩
     refine After.below rfl hb1 hs1 hB1 hb2 ?_
     clear hb2 hB1 hs1 hb1 w2 w1
     refine ol_nil (to_k0 (fun _ _ h => h) (hK5 _ _ ⟨.inr (by repeat' first | exact subH_nil | refine subH_same rfl ?_ | (refine subH_blk rfl (by repeat' first | exact sub_nil | refine sub_cons rfl ?_) ?_)), trivial⟩ ?_))
     clear hK5
     refine aq_one (i := 3) (by kernel_rfl) rfl fun K6 hK6 => ?_
     refine ol_call rfl rfl cb55 rfl (fun w1 hb1 hs1 hB1 => Calls.mono (match_pointOf _ _) ?_)
     rintro e w2 ⟨rfl, hb2⟩
     refine After.below rfl hb1 hs1 hB1 hb2 ?_
     clear hb2 hB1 hs1 hb1 w2 w1
     refine ol_nil (to_k0 (fun _ _ h => h) (hK6 _ _ ⟨.inr (by repeat' first | exact subH_nil | refine subH_same rfl ?_ | (refine subH_blk rfl (by repeat' first | exact sub_nil | refine sub_cons rfl ?_) ?_)), trivial⟩ ?_))
     clear hK6
     refine aq_one (i := 6) (by kernel_rfl) rfl fun K7 hK7 => ?_
     refine ol_store (id := 8) rfl rfl rfl rfl sz41 rfl rfl (by first | decide | exact Nat.zero_lt_succ _ | simp) ?_
     refine ol_nil (to_k0 (fun _ _ h => h) (hK7 _ _ ⟨.inr (by repeat' first | exact subH_nil | refine subH_same rfl ?_ | (refine subH_blk rfl (by repeat' first | exact sub_nil | refine sub_cons rfl ?_) ?_)), trivial⟩ ?_))
     clear hK7
     refine aq_one (i := 7) (by kernel_rfl) rfl fun K8 hK8 => ?_
     refine ol_store (id := 9) rfl rfl rfl rfl sz41 rfl rfl (by first | decide | exact Nat.zero_lt_succ _ | simp) ?_
     refine ol_nil (to_k0 (fun _ _ h => h) (hK8 _ _ ⟨.inr (by repeat' first | exact subH_nil | refine subH_same rfl ?_ | (refine subH_blk rfl (by repeat' first | exact sub_nil | refine sub_cons rfl ?_) ?_)), trivial⟩ ?_))
     clear hK8
     refine aq_done (by kernel_rfl) ?_
     refine (to_k0 (fun _ _ h => h) (hK2 ((b8, b9)) _ _ ?_ (sub_cons rfl (sub_cons rfl sub_nil)) (sub_cons rfl (sub_cons rfl (sub_cons rfl sub_nil))) (subH_blk rfl (by repeat' first | exact sub_nil | refine sub_cons rfl ?_) (subH_blk rfl (by repeat' first | exact sub_nil | refine sub_cons rfl ?_) subH_nil)) (subH_same rfl (subH_same rfl (subH_same rfl (subH_same rfl subH_nil))))))
     try dsimp only
     all_goals trivial
   ·refine ol_alloc 9 z41 rfl fun b9 => ?_
    refine ol_nil (to_k0 (fun _ _ h => h) (hK3 _ _ ⟨.inr (by repeat' first | exact subH_nil | refine subH_same rfl ?_ | (refine subH_blk rfl (by repeat' first | exact sub_nil | refine sub_cons rfl ?_) ?_)), trivial⟩ ?_))
    clear hK3
    refine aq_two (i := 1) (j := 4) (by kernel_rfl) rfl rfl (fun K4 hK4 => ?_) (fun K4 hK4 => ?_)
    ·refine ol_call rfl rfl cb55 rfl (fun w1 hb1 hs1 hB1 => Calls.mono (match_pointOf _ _) ?_)
     rintro e w2 ⟨rfl, hb2⟩
     refine After.below rfl hb1 hs1 hB1 hb2 ?_
     clear hb2 hB1 hs1 hb1 w2 w1
     refine ol_nil (to_k0 (fun _ _ h => h) (hK4 _ _ ⟨.inr (by repeat' first | exact subH_nil | refine subH_same rfl ?_ | (refine subH_blk rfl (by repeat' first | exact sub_nil | refine sub_cons rfl ?_) ?_)), trivial⟩ ?_))
     clear hK4
     refine aq_two (i := 3) (j := 4) (by kernel_rfl) rfl rfl (fun K5 hK5 => ?_) (fun K5 hK5 => ?_)
     ·refine ol_call rfl rfl cb55 rfl (fun w1 hb1 hs1 hB1 => Calls.mono (match_pointOf _ _) ?_)
      rintro e w2 ⟨rfl, hb2⟩
      refine After.below rfl hb1 hs1 hB1 hb2 ?_
      clear hb2 hB1 hs1 hb1 w2 w1
      refine ol_nil (to_k0 (fun _ _ h => h) (hK5 _ _ ⟨.inr (by repeat' first | exact subH_nil | refine subH_same rfl ?_ | (refine subH_blk rfl (by repeat' first | exact sub_nil | refine sub_cons rfl ?_) ?_)), trivial⟩ ?_))
      clear hK5
      refine aq_one (i := 4) (by kernel_rfl) rfl fun K6 hK6 => ?_
      refine ol_alloc 8 z41 rfl fun b8 => ?_
      refine ol_nil (to_k0 (fun _ _ h => h) (hK6 _ _ ⟨.inr (by repeat' first | exact subH_nil | refine subH_same rfl ?_ | (refine subH_blk rfl (by repeat' first | exact sub_nil | refine sub_cons rfl ?_) ?_)), trivial⟩ ?_))
      clear hK6
      refine aq_one (i := 6) (by kernel_rfl) rfl fun K7 hK7 => ?_
      refine ol_store (id := 8) rfl rfl rfl rfl sz41 rfl rfl (by first | decide | exact Nat.zero_lt_succ _ | simp) ?_
      refine ol_nil (to_k0 (fun _ _ h => h) (hK7 _ _ ⟨.inr (by repeat' first | exact subH_nil | refine subH_same rfl ?_ | (refine subH_blk rfl (by repeat' first | exact sub_nil | refine sub_cons rfl ?_) ?_)), trivial⟩ ?_))
      clear hK7
      refine aq_one (i := 7) (by kernel_rfl) rfl fun K8 hK8 => ?_
      refine ol_store (id := 9) rfl rfl rfl rfl sz41 rfl rfl (by first | decide | exact Nat.zero_lt_succ _ | simp) ?_
      refine ol_nil (to_k0 (fun _ _ h => h) (hK8 _ _ ⟨.inr (by repeat' first | exact subH_nil | refine subH_same rfl ?_ | (refine subH_blk rfl (by repeat' first | exact sub_nil | refine sub_cons rfl ?_) ?_)), trivial⟩ ?_))
      clear hK8
      refine aq_done (by kernel_rfl) ?_
      refine (to_k0 (fun _ _ h => h) (hK2 ((b8, b9)) _ _ ?_ (sub_cons rfl (sub_cons rfl sub_nil)) (sub_cons rfl (sub_cons rfl (sub_cons rfl sub_nil))) (subH_blk rfl (by repeat' first | exact sub_nil | refine sub_cons rfl ?_) (subH_blk rfl (by repeat' first | exact sub_nil | refine sub_cons rfl ?_) subH_nil)) (subH_same rfl (subH_same rfl (subH_same rfl (subH_same rfl subH_nil))))))
      try dsimp only
      all_goals trivial
     ·refine ol_alloc 8 z41 rfl fun b8 => ?_
      refine ol_nil (to_k0 (fun _ _ h => h) (hK5 _ _ ⟨.inr (by repeat' first | exact subH_nil | refine subH_same rfl ?_ | (refine subH_blk rfl (by repeat' first | exact sub_nil | refine sub_cons rfl ?_) ?_)), trivial⟩ ?_))
      clear hK5
      refine aq_one (i := 3) (by kernel_rfl) rfl fun K6 hK6 => ?_
      refine ol_call rfl rfl cb55 rfl (fun w1 hb1 hs1 hB1 => Calls.mono (match_pointOf _ _) ?_)
      rintro e w2 ⟨rfl, hb2⟩
      refine After.below rfl hb1 hs1 hB1 hb2 ?_
      clear hb2 hB1 hs1 hb1 w2 w1
      refine ol_nil (to_k0 (fun _ _ h => h) (hK6 _ _ ⟨.inr (by repeat' first | exact subH_nil | refine subH_same rfl ?_ | (refine subH_blk rfl (by repeat' first | exact sub_nil | refine sub_cons rfl ?_) ?_)), trivial⟩ ?_))
      clear hK6
      refine aq_one (i := 6) (by kernel_rfl) rfl fun K7 hK7 => ?_
      refine ol_store (id := 8) rfl rfl rfl rfl sz41 rfl rfl (by first | decide | exact Nat.zero_lt_succ _ | simp) ?_
      refine ol_nil (to_k0 (fun _ _ h => h) (hK7 _ _ ⟨.inr (by repeat' first | exact subH_nil | refine subH_same rfl ?_ | (refine subH_blk rfl (by repeat' first | exact sub_nil | refine sub_cons rfl ?_) ?_)), trivial⟩ ?_))
      clear hK7
      refine aq_one (i := 7) (by kernel_rfl) rfl fun K8 hK8 => ?_
      refine ol_store (id := 9) rfl rfl rfl rfl sz41 rfl rfl (by first | decide | exact Nat.zero_lt_succ _ | simp) ?_
      refine ol_nil (to_k0 (fun _ _ h => h) (hK8 _ _ ⟨.inr (by repeat' first | exact subH_nil | refine subH_same rfl ?_ | (refine subH_blk rfl (by repeat' first | exact sub_nil | refine sub_cons rfl ?_) ?_)), trivial⟩ ?_))
      clear hK8
      refine aq_done (by kernel_rfl) ?_
      refine (to_k0 (fun _ _ h => h) (hK2 ((b8, b9)) _ _ ?_ (sub_cons rfl (sub_cons rfl sub_nil)) (sub_cons rfl (sub_cons rfl (sub_cons rfl sub_nil))) (subH_blk rfl (by repeat' first | exact sub_nil | refine sub_cons rfl ?_) (subH_blk rfl (by repeat' first | exact sub_nil | refine sub_cons rfl ?_) subH_nil)) (subH_same rfl (subH_same rfl (subH_same rfl (subH_same rfl subH_nil))))))
      try dsimp only
      all_goals trivial
    ·refine ol_alloc 8 z41 rfl fun b8 => ?_
     refine ol_nil (to_k0 (fun _ _ h => h) (hK4 _ _ ⟨.inr (by repeat' first | exact subH_nil | refine subH_same rfl ?_ | (refine subH_blk rfl (by repeat' first | exact sub_nil | refine sub_cons rfl ?_) ?_)), trivial⟩ ?_))
     clear hK4
     refine aq_one (i := 1) (by kernel_rfl) rfl fun K5 hK5 => ?_
     refine ol_call rfl rfl cb55 rfl (fun w1 hb1 hs1 hB1 => Calls.mono (match_pointOf _ _) ?_)
     rintro e w2 ⟨rfl, hb2⟩
     refine After.below rfl hb1 hs1 hB1 hb2 ?_
     clear hb2 hB1 hs1 hb1 w2 w1
     refine ol_nil (to_k0 (fun _ _ h => h) (hK5 _ _ ⟨.inr (by repeat' first | exact subH_nil | refine subH_same rfl ?_ | (refine subH_blk rfl (by repeat' first | exact sub_nil | refine sub_cons rfl ?_) ?_)), trivial⟩ ?_))
     clear hK5
     refine aq_one (i := 3) (by kernel_rfl) rfl fun K6 hK6 => ?_
     refine ol_call rfl rfl cb55 rfl (fun w1 hb1 hs1 hB1 => Calls.mono (match_pointOf _ _) ?_)
     rintro e w2 ⟨rfl, hb2⟩
     refine After.below rfl hb1 hs1 hB1 hb2 ?_
     clear hb2 hB1 hs1 hb1 w2 w1
     refine ol_nil (to_k0 (fun _ _ h => h) (hK6 _ _ ⟨.inr (by repeat' first | exact subH_nil | refine subH_same rfl ?_ | (refine subH_blk rfl (by repeat' first | exact sub_nil | refine sub_cons rfl ?_) ?_)), trivial⟩ ?_))
     clear hK6
     refine aq_one (i := 6) (by kernel_rfl) rfl fun K7 hK7 => ?_
     refine ol_store (id := 8) rfl rfl rfl rfl sz41 rfl rfl (by first | decide | exact Nat.zero_lt_succ _ | simp) ?_
     refine ol_nil (to_k0 (fun _ _ h => h) (hK7 _ _ ⟨.inr (by repeat' first | exact subH_nil | refine subH_same rfl ?_ | (refine subH_blk rfl (by repeat' first | exact sub_nil | refine sub_cons rfl ?_) ?_)), trivial⟩ ?_))
     clear hK7
     refine aq_one (i := 7) (by kernel_rfl) rfl fun K8 hK8 => ?_
     refine ol_store (id := 9) rfl rfl rfl rfl sz41 rfl rfl (by first | decide | exact Nat.zero_lt_succ _ | simp) ?_
     refine ol_nil (to_k0 (fun _ _ h => h) (hK8 _ _ ⟨.inr (by repeat' first | exact subH_nil | refine subH_same rfl ?_ | (refine subH_blk rfl (by repeat' first | exact sub_nil | refine sub_cons rfl ?_) ?_)), trivial⟩ ?_))
     clear hK8
     refine aq_done (by kernel_rfl) ?_
     refine (to_k0 (fun _ _ h => h) (hK2 ((b8, b9)) _ _ ?_ (sub_cons rfl (sub_cons rfl sub_nil)) (sub_cons rfl (sub_cons rfl (sub_cons rfl sub_nil))) (subH_blk rfl (by repeat' first | exact sub_nil | refine sub_cons rfl ?_) (subH_blk rfl (by repeat' first | exact sub_nil | refine sub_cons rfl ?_) subH_nil)) (subH_same rfl (subH_same rfl (subH_same rfl (subH_same rfl subH_nil))))))
     try dsimp only
     all_goals trivial
  ·rintro ⟨b8, b9⟩ _
   dsimp only
   refine wp_seq' fun K9 hK9 => ?_
   refine wp_regq (by kernel_rfl) (by kernel_rfl) ?_
   refine ql_r (r_fa (o' := 0) rfl fl79_0 rfl) rfl ?_
   refine ql_r (r_lda (id := 3) (n := 2) rfl rfl rfl ag41) rfl ?_
   refine ql_r (r_fa (o' := 2) rfl fl79_1 rfl) rfl ?_
   refine ql_r (r_lda (id := 3) (n := 2) rfl rfl rfl ag41) rfl ?_
   refine ql_r (r_lda (id := 8) (n := 2) rfl rfl rfl ag41) rfl ?_
   refine ql_call rfl rfl cb128 rfl (fun w1 hb1 hs1 hB1 => match_sideOf _ _ _ _ _ _ _ (by assumption) (by assumption) (by assumption) (by assumption) (by assumption) (by assumption)) ?_
   refine ql_r (r_fa (o' := 0) rfl fl79_0 rfl) rfl ?_
   refine ql_r (r_lda (id := 3) (n := 2) rfl rfl rfl ag41) rfl ?_
   refine ql_r (r_fa (o' := 2) rfl fl79_1 rfl) rfl ?_
   refine ql_r (r_lda (id := 3) (n := 2) rfl rfl rfl ag41) rfl ?_
   refine ql_r (r_lda (id := 9) (n := 2) rfl rfl rfl ag41) rfl ?_
   refine ql_call rfl rfl cb128 rfl (fun w1 hb1 hs1 hB1 => match_sideOf _ _ _ _ _ _ _ (by assumption) (by assumption) (by assumption) (by assumption) (by assumption) (by assumption)) ?_
   refine ql_r (r_assign rfl) rfl ?_
   refine ql_r (r_assign rfl) rfl ?_
   refine ql_nil (to_k0 (fun _ _ h => h) (hK9 _ _ _ _ _ ?_))
   clear hK9
   refine wp_seq' fun K10 hK10 => ?_
   refine wp_seq' fun K11 hK11 => ?_
   refine wp_reg ?_
   refine ol_r (r_move rfl) rfl ?_
   refine ol_r (r_geq rfl rfl) rfl ?_
   refine ol_r (r_move rfl) rfl ?_
   refine ol_split (d := 32) rfl (fun hs32 => ?_) (fun hs32 => ?_)
   ·have phs32 := hs32; try simp only [decide_eq_true_eq, decide_eq_false_iff_not, Bool.not_eq_true', Bool.not_eq_false', Bool.not_true, Bool.not_false] at phs32
    refine ol_s rfl rfl hs32 rfl ?_
    refine ol_s rfl rfl hs32 rfl ?_
    refine ol_r (r_pickT rfl hs32 rfl) rfl ?_
    refine ol_nil (to_k0 (fun _ _ h => h) (hK11 _ _ _ _ _ ?_))
    clear hK11
    refine wp_condT rfl ?_
    refine wp_seq' fun K12 hK12 => ?_
    refine wp_reg ?_
    refine ol_r (r_build rfl (fun _ => bd152 _)) rfl ?_
    refine ol_store (id := 6) rfl rfl rfl rfl sz152 rfl rfl (by first | decide | exact Nat.zero_lt_succ _ | simp) ?_
    refine ol_r (r_assign rfl) rfl ?_
    refine ol_nil (to_k0 (fun _ _ h => h) (hK12 _ _ _ _ _ ?_))
    clear hK12
    refine hQ.ret (rvs2 (rv_c (id := 6) (n := 2) rfl rfl ag152 rfl) (rv_t rfl)) (fun _ _ h => h) fun w hb hs hB hkd => ?_
    first
      | (have hc : crB g p q = false := by
           unfold crB gSide
           simp only [Bool.and_eq_false_iff, Bool.not_eq_false', Bool.or_eq_true, Bool.and_eq_true, decide_eq_true_eq]
           omega
         exact ⟨by rw [partOf, hc]; rfl, hb⟩)
   ·have phs32 := hs32; try simp only [decide_eq_true_eq, decide_eq_false_iff_not, Bool.not_eq_true', Bool.not_eq_false', Bool.not_true, Bool.not_false] at phs32
    refine ol_g rfl rfl hs32 ?_
    refine ol_r (r_move rfl) rfl ?_
    refine ol_g rfl rfl hs32 ?_
    refine ol_r (r_lss rfl rfl) rfl ?_
    refine ol_r (r_pickF rfl hs32 rfl) rfl ?_
    refine ol_nil (to_k0 (fun _ _ h => h) (hK11 _ _ _ _ _ ?_))
    clear hK11
    refine wp_condD rfl (fun hc35 => ?_) (fun hc35 => ?_)
    ·refine wp_seq' fun K13 hK13 => ?_
     refine wp_reg ?_
     refine ol_r (r_build rfl (fun _ => bd152 _)) rfl ?_
     refine ol_store (id := 6) rfl rfl rfl rfl sz152 rfl rfl (by first | decide | exact Nat.zero_lt_succ _ | simp) ?_
     refine ol_r (r_assign rfl) rfl ?_
     refine ol_nil (to_k0 (fun _ _ h => h) (hK13 _ _ _ _ _ ?_))
     clear hK13
     refine hQ.ret (rvs2 (rv_c (id := 6) (n := 2) rfl rfl ag152 rfl) (rv_t rfl)) (fun _ _ h => h) fun w hb hs hB hkd => ?_
     first
       | (have hc : crB g p q = false := by
            unfold crB gSide
            simp only [Bool.and_eq_false_iff, Bool.not_eq_false', Bool.or_eq_true, Bool.and_eq_true, decide_eq_true_eq]
            omega
          exact ⟨by rw [partOf, hc]; rfl, hb⟩)
    ·refine wp_skip' (to_k0 (fun _ _ h => h) (hK10 _ _ _ _ _ ?_))
     clear hK10
     refine wp_seq' fun K14 hK14 => ?_
     refine wp_regq (by kernel_rfl) (by kernel_rfl) ?_
     refine ql_r (r_lda (id := 8) (n := 2) rfl rfl rfl ag41) rfl ?_
     refine ql_r (r_lda (id := 9) (n := 2) rfl rfl rfl ag41) rfl ?_
     refine ql_r (r_fa (o' := 0) rfl fl79_0 rfl) rfl ?_
     refine ql_r (r_lda (id := 3) (n := 2) rfl rfl rfl ag41) rfl ?_
     refine ql_call rfl rfl cb128 rfl (fun w1 hb1 hs1 hB1 => match_sideOf _ _ _ _ _ _ _ (by assumption) (by assumption) (by assumption) (by assumption) (by assumption) (by assumption)) ?_
     refine ql_r (r_lda (id := 8) (n := 2) rfl rfl rfl ag41) rfl ?_
     refine ql_r (r_lda (id := 9) (n := 2) rfl rfl rfl ag41) rfl ?_
     refine ql_r (r_fa (o' := 2) rfl fl79_1 rfl) rfl ?_
     refine ql_r (r_lda (id := 3) (n := 2) rfl rfl rfl ag41) rfl ?_
     refine ql_call rfl rfl cb128 rfl (fun w1 hb1 hs1 hB1 => match_sideOf _ _ _ _ _ _ _ (by assumption) (by assumption) (by assumption) (by assumption) (by assumption) (by assumption)) ?_
     refine ql_r (r_assign rfl) rfl ?_
     refine ql_r (r_assign rfl) rfl ?_
     refine ql_nil (to_k0 (fun _ _ h => h) (hK14 _ _ _ _ _ ?_))
     clear hK14
     refine wp_seq' fun K15 hK15 => ?_
     refine wp_seq' fun K16 hK16 => ?_
     refine wp_reg ?_
     refine ol_r (r_move rfl) rfl ?_
     refine ol_r (r_gtr rfl rfl) rfl ?_
     refine ol_r (r_move rfl) rfl ?_
     refine ol_split (d := 49) rfl (fun hs49 => ?_) (fun hs49 => ?_)
     ·have phs49 := hs49; try simp only [decide_eq_true_eq, decide_eq_false_iff_not, Bool.not_eq_true', Bool.not_eq_false', Bool.not_true, Bool.not_false] at phs49
      refine ol_g rfl rfl hs49 ?_
      refine ol_r (r_move rfl) rfl ?_
      refine ol_g rfl rfl hs49 ?_
      refine ol_r (r_gtr rfl rfl) rfl ?_
      refine ol_r (r_pickT rfl hs49 rfl) rfl ?_
      refine ol_r (r_move rfl) rfl ?_
      refine ol_split (d := 53) rfl (fun hs53 => ?_) (fun hs53 => ?_)
      ·have phs53 := hs53; try simp only [decide_eq_true_eq, decide_eq_false_iff_not, Bool.not_eq_true', Bool.not_eq_false', Bool.not_true, Bool.not_false] at phs53
       refine ol_s rfl rfl hs53 rfl ?_
       refine ol_s rfl rfl hs53 rfl ?_
       refine ol_s rfl rfl hs53 rfl ?_
       refine ol_u rfl rfl rfl ?_
       refine ol_u rfl rfl rfl ?_
       refine ol_s rfl rfl hs53 rfl ?_
       refine ol_r (r_pickT rfl hs53 rfl) rfl ?_
       refine ol_nil (to_k0 (fun _ _ h => h) (hK16 _ _ _ _ _ ?_))
       clear hK16
       refine wp_condT rfl ?_
       refine wp_seq' fun K17 hK17 => ?_
       refine wp_reg ?_
       refine ol_r (r_build rfl (fun _ => bd152 _)) rfl ?_
       refine ol_store (id := 6) rfl rfl rfl rfl sz152 rfl rfl (by first | decide | exact Nat.zero_lt_succ _ | simp) ?_
       refine ol_r (r_assign rfl) rfl ?_
       refine ol_nil (to_k0 (fun _ _ h => h) (hK17 _ _ _ _ _ ?_))
       clear hK17
       refine hQ.ret (rvs2 (rv_c (id := 6) (n := 2) rfl rfl ag152 rfl) (rv_t rfl)) (fun _ _ h => h) fun w hb hs hB hkd => ?_
       first
         | (have hc : crB g p q = false := by
              unfold crB gSide
              simp only [Bool.and_eq_false_iff, Bool.not_eq_false', Bool.or_eq_true, Bool.and_eq_true, decide_eq_true_eq]
              omega
            exact ⟨by rw [partOf, hc]; rfl, hb⟩)
      ·have phs53 := hs53; try simp only [decide_eq_true_eq, decide_eq_false_iff_not, Bool.not_eq_true', Bool.not_eq_false', Bool.not_true, Bool.not_false] at phs53
       refine ol_g rfl rfl hs53 ?_
       refine ol_r (r_move rfl) rfl ?_
       refine ol_g rfl rfl hs53 ?_
       refine ol_r (r_lss rfl rfl) rfl ?_
       refine ol_g rfl rfl hs53 ?_
       refine ol_r (r_move rfl) rfl ?_
       refine ol_split (d := 56) rfl (fun hs56 => ?_) (fun hs56 => ?_)
       ·have phs56 := hs56; try simp only [decide_eq_true_eq, decide_eq_false_iff_not, Bool.not_eq_true', Bool.not_eq_false', Bool.not_true, Bool.not_false] at phs56
        refine ol_g rfl rfl hs56 ?_
        refine ol_r (r_move rfl) rfl ?_
        refine ol_g rfl rfl hs56 ?_
        refine ol_r (r_lss rfl rfl) rfl ?_
        refine ol_g rfl rfl hs53 ?_
        refine ol_r (r_pickT rfl hs56 rfl) rfl ?_
        refine ol_r (r_pickF rfl hs53 rfl) rfl ?_
        refine ol_nil (to_k0 (fun _ _ h => h) (hK16 _ _ _ _ _ ?_))
        clear hK16
        refine wp_condD rfl (fun hc60 => ?_) (fun hc60 => ?_)
        ·refine wp_seq' fun K18 hK18 => ?_
         refine wp_reg ?_
         refine ol_r (r_build rfl (fun _ => bd152 _)) rfl ?_
         refine ol_store (id := 6) rfl rfl rfl rfl sz152 rfl rfl (by first | decide | exact Nat.zero_lt_succ _ | simp) ?_
         refine ol_r (r_assign rfl) rfl ?_
         refine ol_nil (to_k0 (fun _ _ h => h) (hK18 _ _ _ _ _ ?_))
         clear hK18
         refine hQ.ret (rvs2 (rv_c (id := 6) (n := 2) rfl rfl ag152 rfl) (rv_t rfl)) (fun _ _ h => h) fun w hb hs hB hkd => ?_
         first
           | (have hc : crB g p q = false := by
                unfold crB gSide
                simp only [Bool.and_eq_false_iff, Bool.not_eq_false', Bool.or_eq_true, Bool.and_eq_true, decide_eq_true_eq]
                omega
              exact ⟨by rw [partOf, hc]; rfl, hb⟩)
        ·refine wp_skip' (to_k0 (fun _ _ h => h) (hK15 _ _ _ _ _ ?_))
         clear hK15
         refine wp_seq' fun K19 hK19 => ?_
         refine wp_reg ?_
         refine ol_r (r_move rfl) rfl ?_
         refine ol_r (r_neg rfl (by omega)) rfl ?_
         refine ol_r (r_move rfl) rfl ?_
         refine ol_r (r_move rfl) rfl ?_
         refine ol_r (r_sub rfl rfl (by omega)) rfl ?_
         refine ol_r (r_build rfl (fun _ => bd152_0_1 _ _ _)) rfl ?_
         refine ol_store (id := 6) rfl rfl rfl rfl sz152 rfl rfl (by first | decide | exact Nat.zero_lt_succ _ | simp) ?_
         refine ol_r (r_assign rfl) rfl ?_
         refine ol_nil (to_k0 (fun _ _ h => h) (hK19 _ _ _ _ _ ?_))
         clear hK19
         refine hQ.ret (rvs2 (rv_c (id := 6) (n := 2) rfl rfl ag152 rfl) (rv_t rfl)) (fun _ _ h => h) fun w hb hs hB hkd => ?_
         first
           | (have hc : crB g p q = true := by
                unfold crB gSide
                simp only [Bool.and_eq_true, Bool.not_eq_true', Bool.or_eq_false_iff, Bool.and_eq_false_iff, decide_eq_false_iff_not]
                omega
              exact ⟨by rw [partOf, hc]; rfl, hb⟩)
       ·have phs56 := hs56; try simp only [decide_eq_true_eq, decide_eq_false_iff_not, Bool.not_eq_true', Bool.not_eq_false', Bool.not_true, Bool.not_false] at phs56
        refine ol_s rfl rfl hs56 rfl ?_
        refine ol_s rfl rfl hs56 rfl ?_
        refine ol_g rfl rfl hs53 ?_
        refine ol_r (r_pickF rfl hs56 rfl) rfl ?_
        refine ol_r (r_pickF rfl hs53 rfl) rfl ?_
        refine ol_nil (to_k0 (fun _ _ h => h) (hK16 _ _ _ _ _ ?_))
        clear hK16
        refine wp_condF rfl ?_
        refine wp_skip' (to_k0 (fun _ _ h => h) (hK15 _ _ _ _ _ ?_))
        clear hK15
        refine wp_seq' fun K20 hK20 => ?_
        refine wp_reg ?_
        refine ol_r (r_move rfl) rfl ?_
        refine ol_r (r_neg rfl (by omega)) rfl ?_
        refine ol_r (r_move rfl) rfl ?_
        refine ol_r (r_move rfl) rfl ?_
        refine ol_r (r_sub rfl rfl (by omega)) rfl ?_
        refine ol_r (r_build rfl (fun _ => bd152_0_1 _ _ _)) rfl ?_
        refine ol_store (id := 6) rfl rfl rfl rfl sz152 rfl rfl (by first | decide | exact Nat.zero_lt_succ _ | simp) ?_
        refine ol_r (r_assign rfl) rfl ?_
        refine ol_nil (to_k0 (fun _ _ h => h) (hK20 _ _ _ _ _ ?_))
        clear hK20
        refine hQ.ret (rvs2 (rv_c (id := 6) (n := 2) rfl rfl ag152 rfl) (rv_t rfl)) (fun _ _ h => h) fun w hb hs hB hkd => ?_
        first
          | (have hc : crB g p q = true := by
               unfold crB gSide
               simp only [Bool.and_eq_true, Bool.not_eq_true', Bool.or_eq_false_iff, Bool.and_eq_false_iff, decide_eq_false_iff_not]
               omega
             exact ⟨by rw [partOf, hc]; rfl, hb⟩)
     ·have phs49 := hs49; try simp only [decide_eq_true_eq, decide_eq_false_iff_not, Bool.not_eq_true', Bool.not_eq_false', Bool.not_true, Bool.not_false] at phs49
      refine ol_s rfl rfl hs49 rfl ?_
      refine ol_s rfl rfl hs49 rfl ?_
      refine ol_r (r_pickF rfl hs49 rfl) rfl ?_
      refine ol_r (r_move rfl) rfl ?_
      refine ol_g rfl rfl rfl ?_
      refine ol_r (r_move rfl) rfl ?_
      refine ol_g rfl rfl rfl ?_
      refine ol_r (r_lss rfl rfl) rfl ?_
      refine ol_g rfl rfl rfl ?_
      refine ol_r (r_move rfl) rfl ?_
      refine ol_split (d := 56) rfl (fun hs56 => ?_) (fun hs56 => ?_)
      ·have phs56 := hs56; try simp only [decide_eq_true_eq, decide_eq_false_iff_not, Bool.not_eq_true', Bool.not_eq_false', Bool.not_true, Bool.not_false] at phs56
       refine ol_g rfl rfl hs56 ?_
       refine ol_r (r_move rfl) rfl ?_
       refine ol_g rfl rfl hs56 ?_
       refine ol_r (r_lss rfl rfl) rfl ?_
       refine ol_g rfl rfl rfl ?_
       refine ol_r (r_pickT rfl hs56 rfl) rfl ?_
       refine ol_r (r_pickF rfl rfl rfl) rfl ?_
       refine ol_nil (to_k0 (fun _ _ h => h) (hK16 _ _ _ _ _ ?_))
       clear hK16
       refine wp_condD rfl (fun hc60 => ?_) (fun hc60 => ?_)
       ·refine wp_seq' fun K21 hK21 => ?_
        refine wp_reg ?_
        refine ol_r (r_build rfl (fun _ => bd152 _)) rfl ?_
        refine ol_store (id := 6) rfl rfl rfl rfl sz152 rfl rfl (by first | decide | exact Nat.zero_lt_succ _ | simp) ?_
        refine ol_r (r_assign rfl) rfl ?_
        refine ol_nil (to_k0 (fun _ _ h => h) (hK21 _ _ _ _ _ ?_))
        clear hK21
        refine hQ.ret (rvs2 (rv_c (id := 6) (n := 2) rfl rfl ag152 rfl) (rv_t rfl)) (fun _ _ h => h) fun w hb hs hB hkd => ?_
        first
          | (have hc : crB g p q = false := by
               unfold crB gSide
               simp only [Bool.and_eq_false_iff, Bool.not_eq_false', Bool.or_eq_true, Bool.and_eq_true, decide_eq_true_eq]
               omega
             exact ⟨by rw [partOf, hc]; rfl, hb⟩)
       ·refine wp_skip' (to_k0 (fun _ _ h => h) (hK15 _ _ _ _ _ ?_))
        clear hK15
        refine wp_seq' fun K22 hK22 => ?_
        refine wp_reg ?_
        refine ol_r (r_move rfl) rfl ?_
        refine ol_r (r_neg rfl (by omega)) rfl ?_
        refine ol_r (r_move rfl) rfl ?_
        refine ol_r (r_move rfl) rfl ?_
        refine ol_r (r_sub rfl rfl (by omega)) rfl ?_
        refine ol_r (r_build rfl (fun _ => bd152_0_1 _ _ _)) rfl ?_
        refine ol_store (id := 6) rfl rfl rfl rfl sz152 rfl rfl (by first | decide | exact Nat.zero_lt_succ _ | simp) ?_
        refine ol_r (r_assign rfl) rfl ?_
        refine ol_nil (to_k0 (fun _ _ h => h) (hK22 _ _ _ _ _ ?_))
        clear hK22
        refine hQ.ret (rvs2 (rv_c (id := 6) (n := 2) rfl rfl ag152 rfl) (rv_t rfl)) (fun _ _ h => h) fun w hb hs hB hkd => ?_
        first
          | (have hc : crB g p q = true := by
               unfold crB gSide
               simp only [Bool.and_eq_true, Bool.not_eq_true', Bool.or_eq_false_iff, Bool.and_eq_false_iff, decide_eq_false_iff_not]
               omega
             exact ⟨by rw [partOf, hc]; rfl, hb⟩)
      ·have phs56 := hs56; try simp only [decide_eq_true_eq, decide_eq_false_iff_not, Bool.not_eq_true', Bool.not_eq_false', Bool.not_true, Bool.not_false] at phs56
       refine ol_s rfl rfl hs56 rfl ?_
       refine ol_s rfl rfl hs56 rfl ?_
       refine ol_g rfl rfl rfl ?_
       refine ol_r (r_pickF rfl hs56 rfl) rfl ?_
       refine ol_r (r_pickF rfl rfl rfl) rfl ?_
       refine ol_nil (to_k0 (fun _ _ h => h) (hK16 _ _ _ _ _ ?_))
       clear hK16
       refine wp_condF rfl ?_
       refine wp_skip' (to_k0 (fun _ _ h => h) (hK15 _ _ _ _ _ ?_))
       clear hK15
       refine wp_seq' fun K23 hK23 => ?_
       refine wp_reg ?_
       refine ol_r (r_move rfl) rfl ?_
       refine ol_r (r_neg rfl (by omega)) rfl ?_
       refine ol_r (r_move rfl) rfl ?_
       refine ol_r (r_move rfl) rfl ?_
       refine ol_r (r_sub rfl rfl (by omega)) rfl ?_
       refine ol_r (r_build rfl (fun _ => bd152_0_1 _ _ _)) rfl ?_
       refine ol_store (id := 6) rfl rfl rfl rfl sz152 rfl rfl (by first | decide | exact Nat.zero_lt_succ _ | simp) ?_
       refine ol_r (r_assign rfl) rfl ?_
       refine ol_nil (to_k0 (fun _ _ h => h) (hK23 _ _ _ _ _ ?_))
       clear hK23
       refine hQ.ret (rvs2 (rv_c (id := 6) (n := 2) rfl rfl ag152 rfl) (rv_t rfl)) (fun _ _ h => h) fun w hb hs hB hkd => ?_
       first
         | (have hc : crB g p q = true := by
              unfold crB gSide
              simp only [Bool.and_eq_true, Bool.not_eq_true', Bool.or_eq_false_iff, Bool.and_eq_false_iff, decide_eq_false_iff_not]
              omega
            exact ⟨by rw [partOf, hc]; rfl, hb⟩)
theorem crossOf_eq {gs : List GateR} {p q : SmpR} {st i : Nat} {g : GateR} (h : gs[i]? = some g) : crossOf gs p q st (i : Int) = ⟨i, st, 1000 * p.at_ + (partOf g p q).num * (1000 * (q.at_ - p.at_)) / (partOf g p q).den⟩ := by unfold crossOf; rw [Int.toNat_natCast, h]
end Go.Proofs.Ytjflbnbofedlkaa

/-
  The example of harrierlaw5, and checks of both arguments.
-/

namespace Go.Proofs.Ytjflbnbofedlkaa
open Go Go.RowKit Hx
set_option linter.unusedVariables false
set_option linter.unusedSimpArgs false
set_option maxRecDepth 8000
def orL : List Int → Int
  | [] => 0
  | x :: r => if x ≠ 0 then x else orL r
theorem orL_next {xs : List Int} {k : Nat} (h : ∀ x ∈ xs.take k, x = 0) : orL xs = orL (xs.drop k) := by
  induction k generalizing xs with
  | zero => rfl
  | succ k ih =>
    cases xs with
    | nil => rfl
    | cons x r =>
      have hx := h x (by simp)
      rw [orL, if_neg (by simp [hx]), List.drop_succ_cons]
      exact ih fun y hy => h y (by simp [hy])
theorem cmp_OrE (a : Option Addr) (n c : Nat) (xs : List Int) (w : World) (hl : Rd encI w.heap.size w a n c xs) :
    Calls Try.prog 71 #[.slice a n c] w fun e w' => e = .returned (.int .i64 (orL xs)) ∧ Below w.heap.size w w' := by
  have hn := hl.len
  have hf := hl.fit
  refine enterQ (N := 18) (C := fun _ => True) (H := []) (B := w.heap.size) (args := [_]) Try.func71 rfl rfl rfl (Nat.le_refl _) (Sat.nil _ _) fun Q hQ => ?_
  refine wp_seq' fun K1 hK1 => ?_
  refine wp_reg ?_
  refine ol_r (r_assign rfl) rfl ?_
  refine ol_nil (to_k0 (fun _ _ h => h) (hK1 _ _ _ _ _ ?_))
  clear hK1
  refine wp_seq' fun K2 hK2 => ?_
  refine wp_reg ?_
  refine ol_r (r_assign rfl) rfl ?_
  refine ol_nil (to_k0 (fun _ _ h => h) (hK2 _ _ _ _ _ ?_))
  clear hK2
  refine wp_seq' fun K3 hK3 => ?_
  refine wp_seq' fun K4 hK4 => ?_
  refine wp_reg ?_
  refine ol_r (r_move rfl) rfl ?_
  refine ol_r (r_len rfl sl144) rfl ?_
  refine ol_r (r_move rfl) rfl ?_
  refine ol_nil (to_k0 (fun _ _ h => h) (hK4 _ _ _ _ _ ?_))
  clear hK4
  refine wp_block' ?_
  apply wp_loopM (σ := Nat) (fun s => s ≤ n ∧ ∀ x ∈ xs.take s, x = 0) (fun s => [(8, .int .i64 s)]) [(3, _), (6, _), (7, _)] (fun s => []) [] (fun s => n - s) (0)
  ·try dsimp only
   exact ⟨Nat.zero_le _, fun x hx => by simp at hx⟩
  ·exact (sub_cons rfl sub_nil)
  ·exact (sub_cons rfl (sub_cons rfl (sub_cons rfl sub_nil)))
  ·exact subH_nil
  ·exact subH_nil
  ·rintro k ⟨hk, hP⟩
   intro K5 hK5
   refine wp_seq' fun K6 hK6 => ?_
   refine wp_reg ?_
   refine ol_r (r_lss rfl rfl) rfl ?_
   refine ol_nil (to_k0 (fun _ _ h => h) (hK6 _ _ _ _ _ ?_))
   clear hK6
   refine wp_seq' fun K7 hK7 => ?_
   refine wp_condD rfl (fun hc9 => ?_) (fun hc9 => ?_)
   ·refine wp_skip' (to_k0 (fun _ _ h => h) (hK7 _ _ _ _ _ ?_))
    clear hK7
    refine wp_seq' fun K8 hK8 => ?_
    refine wp_block' ?_
    refine wp_seq' fun K9 hK9 => ?_
    refine wp_reg ?_
    refine ol_ixr hl rfl rfl sl144 (by omega) rfl fun x10 hx10 => ?_
    try simp only [Int.toNat_natCast] at hx10
    refine ol_r (r_ldw rfl (fun w1 hb1 hs1 hB1 => show Loads _ _ _ _ (.int .i64 x10) from Rd.loads hl ty26 hx10 hb1)) rfl ?_
    refine ol_r (r_assign rfl) rfl ?_
    refine ol_nil (to_k0 (fun _ _ h => h) (hK9 _ _ _ _ _ ?_))
    clear hK9
    refine wp_seq' fun K10 hK10 => ?_
    refine wp_reg ?_
    refine ol_r (r_move rfl) rfl ?_
    refine ol_r (r_move rfl) rfl ?_
    refine ol_r (r_neq rfl rfl) rfl ?_
    refine ol_nil (to_k0 (fun _ _ h => h) (hK10 _ _ _ _ _ ?_))
    clear hK10
    refine wp_condD rfl (fun hc14 => ?_) (fun hc14 => ?_)
    ·refine wp_seq' fun K11 hK11 => ?_
     refine wp_reg ?_
     refine ol_r (r_move rfl) rfl ?_
     refine ol_r (r_assign rfl) rfl ?_
     refine ol_nil (to_k0 (fun _ _ h => h) (hK11 _ _ _ _ _ ?_))
     clear hK11
     refine hQ.ret (rvs1 (rv_t rfl)) (fun _ _ h => h) fun w hb hs hB hkd => ?_
     rw [orL_next hP, drop_cons_get hx10, orL, if_pos hc14]
     exact ⟨rfl, hb⟩
    ·refine wp_skip' (to_k0 (fun _ _ h => h) (hK8 _ _ _ _ _ ?_))
     clear hK8
     refine wp_reg ?_
     refine ol_r (r_add rfl rfl (by omega)) rfl ?_
     refine ol_r (r_move rfl) rfl ?_
     refine ol_nil (to_k0 (fun _ _ h => h) (hK5 (k + 1) _ _ ?_ ?_ (sub_cons rfl sub_nil) (sub_cons rfl (sub_cons rfl (sub_cons rfl sub_nil))) (by exact subH_nil) subH_nil))
     ·try dsimp only
      refine ⟨by omega, fun x hx => ?_⟩
      rw [take_succ_get hx10] at hx
      rcases List.mem_append.1 hx with h | h
      · exact hP x h
      · simp at h; omega
     ·try dsimp only
      omega
   ·refine wp_exit' (to_k0 (fun _ _ h => h) (hK3 _ _ _ _ _ ?_))
    clear hK3
    refine wp_seq' fun K12 hK12 => ?_
    refine wp_reg ?_
    refine ol_r (r_move rfl) rfl ?_
    refine ol_r (r_assign rfl) rfl ?_
    refine ol_nil (to_k0 (fun _ _ h => h) (hK12 _ _ _ _ _ ?_))
    clear hK12
    refine hQ.ret (rvs1 (rv_t rfl)) (fun _ _ h => h) fun w hb hs hB hkd => ?_
    rw [orL_next hP, List.drop_eq_nil_of_le (by omega)]
    exact ⟨rfl, hb⟩
theorem match_checkRun (nm : ByteArray) (ga : Option Addr) (gn gc : Nat) (gs : List GateR) (A : ActV) (w : World) (hn : nm.size ≤ 9223372036854775807) (hS : Rd encGate w.heap.size w ga gn gc gs) (hA : A.Ok w.heap.size w) :
    Calls Try.prog 80 #[.agg #[.string nm, .slice ga gn gc], .agg #[.string A.name, .int .i64 A.sport, .int .i64 A.start, .slice A.sa A.sn A.sc, .slice A.la A.ln A.lc, .slice A.ta A.tn A.tc]] w fun e w' => e = .returned (.int .i64 (orL [chkSeg nm gs, chkA A.d])) ∧ Below w.heap.size w w' := by
  refine enterQ (N := 11) (C := fun _ => True) (H := []) (B := w.heap.size) (args := [_, _]) Try.func80 rfl rfl rfl (Nat.le_refl _) (Sat.nil _ _) fun Q hQ => ?_
  refine wp_seq' fun K1 hK1 => ?_
  refine wp_reg ?_
  refine ol_box 2 rfl rfl rfl fun b2 => ?_
  refine ol_box 3 rfl rfl rfl fun b3 => ?_
  refine ol_r (r_assign rfl) rfl ?_
  refine ol_nil (to_k0 (fun _ _ h => h) (hK1 _ _ _ _ _ ?_))
  clear hK1
  refine wp_seq' fun K2 hK2 => ?_
  refine wp_rega [(999, [(2, _), (3, _)])] (by kernel_rfl) ⟨.inr (subH_same rfl (subH_same rfl subH_nil)), trivial⟩ ?_
  refine aq_r 0 999 rfl (by kernel_rfl) (by kernel_rfl) (by kernel_rfl) (.head _) (by kernel_rfl) (by kernel_rfl) rfl (r_lda (id := 2) (n := 2) rfl rfl rfl ag82) ?_
  refine aq_r 2 999 rfl (by kernel_rfl) (by kernel_rfl) (by kernel_rfl) (.head _) (by kernel_rfl) (by kernel_rfl) rfl (r_lda (id := 3) (n := 6) rfl rfl rfl ag39) ?_
  refine aq_one (i := 1) (by kernel_rfl) rfl fun K3 hK3 => ?_
  refine ol_call rfl rfl cb101 rfl (fun w1 hb1 hs1 hB1 => Calls.mono (match_CheckSegment nm _ _ _ gs _ hn (hS.at hb1 hB1)) ?_)
  rintro e w2 ⟨rfl, hb2⟩
  refine After.below rfl hb1 hs1 hB1 hb2 ?_
  clear hb2 hB1 hs1 hb1 w2 w1
  refine ol_nil (to_k0 (fun _ _ h => h) (hK3 _ _ ⟨.inr (by repeat' first | exact subH_nil | refine subH_same rfl ?_ | (refine subH_blk rfl (by repeat' first | exact sub_nil | refine sub_cons rfl ?_) ?_)), trivial⟩ ?_))
  clear hK3
  refine aq_one (i := 3) (by kernel_rfl) rfl fun K4 hK4 => ?_
  refine ol_call rfl rfl cb54 rfl (fun w1 hb1 hs1 hB1 => Calls.mono (record_Check A _ (hA.at hb1 hB1)) ?_)
  rintro e w2 ⟨rfl, hb2⟩
  refine After.below rfl hb1 hs1 hB1 hb2 ?_
  clear hb2 hB1 hs1 hb1 w2 w1
  refine ol_nil (to_k0 (fun _ _ h => h) (hK4 _ _ ⟨.inr (by repeat' first | exact subH_nil | refine subH_same rfl ?_ | (refine subH_blk rfl (by repeat' first | exact sub_nil | refine sub_cons rfl ?_) ?_)), trivial⟩ ?_))
  clear hK4
  refine aq_one (i := 4) (by kernel_rfl) rfl fun K5 hK5 => ?_
  refine ol_bsN 9 rfl rw144 rfl rfl (fun _ => by kernel_rfl) rfl fun a9 => ?_
  refine ol_nil (to_k0 (fun _ _ h => h) (hK5 _ _ ⟨.inr (by repeat' first | exact subH_nil | refine subH_same rfl ?_ | (refine subH_blk rfl (by repeat' first | exact sub_nil | refine sub_cons rfl ?_) ?_)), trivial⟩ ?_))
  clear hK5
  refine aq_one (i := 5) (by kernel_rfl) rfl fun K6 hK6 => ?_
  refine ol_call rfl rfl cb71 rfl (fun w1 hb1 hs1 hB1 => Calls.mono (cmp_OrE _ _ _ [chkSeg nm gs, chkA A.d] _ (Sat.rd hs1 (E := encI) (xs := [chkSeg nm gs, chkA A.d]) (id := 9) rfl rfl)) ?_)
  rintro e w2 ⟨rfl, hb2⟩
  refine After.below rfl hb1 hs1 hB1 hb2 ?_
  clear hb2 hB1 hs1 hb1 w2 w1
  refine ol_nil (to_k0 (fun _ _ h => h) (hK6 _ _ ⟨.inr (by repeat' first | exact subH_nil | refine subH_same rfl ?_ | (refine subH_blk rfl (by repeat' first | exact sub_nil | refine sub_cons rfl ?_) ?_)), trivial⟩ ?_))
  clear hK6
  refine aq_r 6 999 rfl (by kernel_rfl) (by kernel_rfl) (by kernel_rfl) (.head _) (by kernel_rfl) (by kernel_rfl) rfl (r_assign rfl) ?_
  refine aq_done (by kernel_rfl) ?_
  refine (to_k0 (fun _ _ h => h) (hK2 _ _ _ _ _ ?_))
  clear hK2
  refine hQ.ret (rvs1 (rv_t rfl)) (fun _ _ h => h) fun w hb hs hB hkd => ?_
  exact ⟨rfl, hb⟩
theorem equal_cr_same (a b : Option Addr) (n c1 c2 : Nat) (xs : List CrossR) (w : World) (hx : Rd encCr w.heap.size w a n c1 xs) (hy : Rd encCr w.heap.size w b n c2 xs) :
    Calls Try.prog 49 #[.slice a n c1, .slice b n c2] w fun e w' => e = .returned (.bool true) ∧ Below w.heap.size w w' := by
  have hn := hx.len
  have hfit := hx.fit
  refine enterQ (N := 26) (C := fun _ => True) (H := []) (B := w.heap.size) (args := [_, _]) Try.func49 rfl rfl rfl (Nat.le_refl _) (Sat.nil _ _) fun Q hQ => ?_
  refine wp_seq' fun K1 hK1 => ?_
  refine wp_reg ?_
  refine ol_r (r_assign rfl) rfl ?_
  refine ol_nil (to_k0 (fun _ _ h => h) (hK1 _ _ _ _ _ ?_))
  clear hK1
  refine wp_seq' fun K2 hK2 => ?_
  refine wp_seq' fun K3 hK3 => ?_
  refine wp_reg ?_
  refine ol_r (r_move rfl) rfl ?_
  refine ol_r (r_len rfl sl83) rfl ?_
  refine ol_r (r_move rfl) rfl ?_
  refine ol_r (r_len rfl sl83) rfl ?_
  refine ol_r (r_neq rfl rfl) rfl ?_
  refine ol_nil (to_k0 (fun _ _ h => h) (hK3 _ _ _ _ _ ?_))
  clear hK3
  refine wp_condD rfl (fun hc10 => ?_) (fun hc10 => ?_)
  ·exfalso
   exact hc10 rfl
  ·refine wp_skip' (to_k0 (fun _ _ h => h) (hK2 _ _ _ _ _ ?_))
   clear hK2
   refine wp_seq' fun K4 hK4 => ?_
   refine wp_seq' fun K5 hK5 => ?_
   refine wp_reg ?_
   refine ol_r (r_move rfl) rfl ?_
   refine ol_r (r_len rfl sl83) rfl ?_
   refine ol_r (r_move rfl) rfl ?_
   refine ol_nil (to_k0 (fun _ _ h => h) (hK5 _ _ _ _ _ ?_))
   clear hK5
   refine wp_block' ?_
   apply wp_loopM (σ := Nat) (fun s => s ≤ n) (fun s => [(13, .int .i64 s)]) [(0, _), (1, _), (12, _)] (fun s => []) [] (fun s => n - s) (0)
   ·try dsimp only
    exact Nat.zero_le _
   ·exact (sub_cons rfl sub_nil)
   ·exact (sub_cons rfl (sub_cons rfl (sub_cons rfl sub_nil)))
   ·exact subH_nil
   ·exact subH_nil
   ·rintro k hk
    intro K6 hK6
    refine wp_seq' fun K7 hK7 => ?_
    refine wp_reg ?_
    refine ol_r (r_lss rfl rfl) rfl ?_
    refine ol_nil (to_k0 (fun _ _ h => h) (hK7 _ _ _ _ _ ?_))
    clear hK7
    refine wp_seq' fun K8 hK8 => ?_
    refine wp_condD rfl (fun hc14 => ?_) (fun hc14 => ?_)
    ·refine wp_skip' (to_k0 (fun _ _ h => h) (hK8 _ _ _ _ _ ?_))
     clear hK8
     refine wp_seq' fun K9 hK9 => ?_
     refine wp_block' ?_
     refine wp_seq' fun K10 hK10 => ?_
     refine wp_reg ?_
     refine ol_r (r_move rfl) rfl ?_
     refine ol_r (r_assign rfl) rfl ?_
     refine ol_nil (to_k0 (fun _ _ h => h) (hK10 _ _ _ _ _ ?_))
     clear hK10
     refine wp_seq' fun K11 hK11 => ?_
     refine wp_regq (by kernel_rfl) (by kernel_rfl) ?_
     refine ql_r (r_move rfl) rfl ?_
     refine ql_r (r_move rfl) rfl ?_
     refine ql_ixr hx rfl rfl sl83 (by omega) rfl fun x18 hx18 => ?_
     try simp only [Int.toNat_natCast] at hx18
     refine ql_r (r_ldw rfl (fun w1 hb1 hs1 hB1 => Rd.loads hx ty88 hx18 hb1)) rfl ?_
     refine ql_r (r_move rfl) rfl ?_
     refine ql_r (r_move rfl) rfl ?_
     refine ql_ixr hy rfl rfl sl83 (by omega) rfl fun x22 hx22 => ?_
     try simp only [Int.toNat_natCast] at hx22
     obtain rfl : x18 = x22 := Option.some.inj (hx18.symm.trans hx22)
     refine ql_r (r_ldw rfl (fun w1 hb1 hs1 hB1 => Rd.loads hy ty88 hx22 hb1)) rfl ?_
     refine ql_r (r_nes rfl rfl (by kernel_rfl) (fun w => run_eqs (by kernel_rfl) (by kernel_rfl) w)) rfl ?_
     refine ql_nil (to_k0 (fun _ _ h => h) (hK11 _ _ _ _ _ ?_))
     clear hK11
     refine wp_condNB rfl (fun hc24 => ?_) (fun hc24 => ?_)
     ·refine wp_seq' fun K12 hK12 => ?_
      refine wp_reg ?_
      refine ol_r (r_assign rfl) rfl ?_
      refine ol_nil (to_k0 (fun _ _ h => h) (hK12 _ _ _ _ _ ?_))
      clear hK12
      refine hQ.ret (rvs1 (rv_t rfl)) (fun _ _ h => h) fun w hb hs hB hkd => ?_
      first
        | (exfalso; simp [eqs, eqV] at hc24; done)
     ·refine wp_skip' (to_k0 (fun _ _ h => h) (hK9 _ _ _ _ _ ?_))
      clear hK9
      refine wp_reg ?_
      refine ol_r (r_add rfl rfl (by omega)) rfl ?_
      refine ol_r (r_move rfl) rfl ?_
      refine ol_nil (to_k0 (fun _ _ h => h) (hK6 (k + 1) _ _ ?_ ?_ (sub_cons rfl sub_nil) (sub_cons rfl (sub_cons rfl (sub_cons rfl sub_nil))) (by exact subH_nil) subH_nil))
      ·try dsimp only
       omega
      ·try dsimp only
       omega
    ·refine wp_exit' (to_k0 (fun _ _ h => h) (hK4 _ _ _ _ _ ?_))
     clear hK4
     refine wp_seq' fun K13 hK13 => ?_
     refine wp_reg ?_
     refine ol_r (r_assign rfl) rfl ?_
     refine ol_nil (to_k0 (fun _ _ h => h) (hK13 _ _ _ _ _ ?_))
     clear hK13
     refine hQ.ret (rvs1 (rv_t rfl)) (fun _ _ h => h) fun w hb hs hB hkd => ?_
     first
       | exact ⟨rfl, hb⟩
def toldG : List GateR := [⟨0, 10, 0, -10⟩, ⟨100, 10, 100, -10⟩]
def toldS : List SmpR := [⟨0, -5, 0, 0, -1, -1, -1⟩, ⟨10, 5, 0, 0, -1, -1, -1⟩]
theorem told_steps : stepsL toldS = [(⟨0, -5, 0, 0, -1, -1, -1⟩, ⟨10, 5, 0, 0, -1, -1, -1⟩)] := rfl
theorem told_seg : SegOk ⟨#[115]⟩ toldG := segOk (by decide +kernel)
def toldA (a : Option Addr) (c : Nat) : ActV := ⟨⟨#[97]⟩, 1, 0, a, 2, c, none, 0, 0, none, 0, 0, toldS, [], []⟩
def toldD : ActD := ⟨⟨#[97]⟩, 1, 0, toldS, [], []⟩
theorem told_good (a : Option Addr) (c : Nat) : GoodA (toldA a c).d := goodA (by show chkA toldD = 0; decide +kernel)
theorem toldA_ok {C : Nat} {w : World} {a : Option Addr} {c : Nat} (h : Rd encSmp C w a 2 c toldS) : (toldA a c).Ok C w :=
  { s := h, l := Rd.nil, t := Rd.nil, nm := by show 1 ≤ _; decide, lm := fun x hx => by simp [toldA] at hx, tm := fun x hx => by simp [toldA] at hx,
    lo := fun x hx => by simp [toldA, toldS] at hx; rcases hx with rfl | rfl <;> decide }
end Go.Proofs.Ytjflbnbofedlkaa

/-
  Numbers of any kind: sums, products, quotients, masks and shifts whose value is told.
-/



namespace Go.Proofs.Ytjflbnbofedlkaa
namespace Hx
open Go Go.RowKit
set_option linter.unusedVariables false
set_option linter.unusedSimpArgs false
section
variable {P : Program} {N : Fr} {B : Nat} {w0 : World} {al : AL} {H : HL} {ty : TypeId} {x y : Operand} {t t' : TypeId} {m n : Int} {k : IntKind}
theorem r_addg (v : Int) (hx : ev al x = some (.int k m)) (hy : ev al y = some (.int k n)) (hw : k.wrap (m + n) = v) : Runs P N B w0 (.binOp .add t x y t') ty al H (.int k v) := fun a w hst => by
  simp [execOp, hst.regs.eval hx, hst.regs.eval hy, eqGuard_add, binOp_add, Op.intArith, hw]
theorem r_subg (v : Int) (hx : ev al x = some (.int k m)) (hy : ev al y = some (.int k n)) (hw : k.wrap (m - n) = v) : Runs P N B w0 (.binOp .sub t x y t') ty al H (.int k v) := fun a w hst => by
  simp [execOp, hst.regs.eval hx, hst.regs.eval hy, eqGuard_sub, binOp_sub, Op.intArith, hw]
theorem r_mulg (v : Int) (hx : ev al x = some (.int k m)) (hy : ev al y = some (.int k n)) (hw : k.wrap (m * n) = v) : Runs P N B w0 (.binOp .mul t x y t') ty al H (.int k v) := fun a w hst => by
  simp [execOp, hst.regs.eval hx, hst.regs.eval hy, eqGuard_mul, binOp_mul, Op.intArith, hw]
theorem r_negg (v : Int) (hx : ev al x = some (.int k m)) (hw : k.wrap (-m) = v) : Runs P N B w0 (.unOp .neg t x) ty al H (.int k v) := fun a w hst => by
  simp [execOp, hst.regs.eval hx, Op.unary, Op.intArith, hw]
theorem r_quog (hx : ev al x = some (.int k m)) (hy : ev al y = some (.int k n)) (h0 : 0 ≤ m) (h1 : 0 < n) (hw : k.wrap (m / n) = m / n) : Runs P N B w0 (.binOp .quo t x y t') ty al H (.int k (m / n)) := fun a w hst => by
  have h3 : m.tdiv n = m / n := Int.tdiv_eq_ediv_of_nonneg h0
  simp [execOp, hst.regs.eval hx, hst.regs.eval hy, eqGuard_quo, binOp_quo, Op.intDiv, show n ≠ 0 by omega, h3, hw]
theorem r_remg (hx : ev al x = some (.int k m)) (hy : ev al y = some (.int k n)) (h0 : 0 ≤ m) (h1 : 0 < n) (hw : k.wrap (m % n) = m % n) : Runs P N B w0 (.binOp .rem t x y t') ty al H (.int k (m % n)) := fun a w hst => by
  have h3 : m.tmod n = m % n := Int.tmod_eq_emod_of_nonneg h0
  simp [execOp, hst.regs.eval hx, hst.regs.eval hy, eqGuard_rem, binOp_rem, Op.intDiv, show n ≠ 0 by omega, h3, hw]
theorem mask32 {m : Int} (h0 : 0 ≤ m) (h1 : m < 18446744073709551616) : bits .and .u64 m 4294967295 = m % 4294967296 := by
  obtain ⟨a, rfl⟩ := Int.eq_ofNat_of_zero_le h0
  have h := bits_and_u64_nat a 4294967295 (by omega) (by omega)
  have e : a &&& 4294967295 = a % 4294967296 := Nat.and_two_pow_sub_one_eq_mod a 32
  rw [e] at h
  exact h
theorem r_and32 (v : Int) (hx : ev al x = some (.int .u64 m)) (hy : ev al y = some (.int .u64 4294967295)) (h0 : 0 ≤ m) (h1 : m < 18446744073709551616) (hv : m % 4294967296 = v) : Runs P N B w0 (.binOp .and t x y t') ty al H (.int .u64 v) := fun a w hst => by
  simp only [execOp, hst.regs.eval hx, hst.regs.eval hy, eqGuard_and, binOp_and, intBits_and, mask32 h0 h1, hv, Sem.run_bind, Sem.run_pure, Result.andThen_ok]
theorem r_shr32 (v : Int) (hx : ev al x = some (.int .u64 m)) (hy : ev al y = some (.int .u64 32)) (h0 : 0 ≤ m) (hv : m / 4294967296 = v) : Runs P N B w0 (.binOp .shr t x y t') ty al H (.int .u64 v) := fun a w hst => by
  have h2 : m.fdiv (2 ^ 32) = m / 4294967296 := Int.fdiv_eq_ediv_of_nonneg m (by decide)
  simp [execOp, hst.regs.eval hx, hst.regs.eval hy, binOp_shr, Op.shift, eqGuard_shr]
  have h3 : min 32 IntKind.u64.bits = 32 := rfl
  rw [h3, h2, hv]
theorem r_convg {src dst : TypeId} {k1 k2 : IntKind} (v : Int) (hx : ev al x = some (.int k1 m)) (hs : (P.underlying src).isSome = true) (hd : P.underlying dst = some (.int k2)) (hw : k2.wrap m = v) :
    Runs P N B w0 (.convert src dst x) ty al H (.int k2 v) := fun a w hst => by
  obtain ⟨d1, h1⟩ := Option.isSome_iff_exists.1 hs
  simp only [execOp, hst.regs.eval hx, convert, Sem.run_bind, run_underlying h1, run_underlying hd, Result.andThen_ok, Conv.intToInt, Sem.run_pure]
  cases d1 <;> simp [hw]
theorem wrapu_neg {m : Int} (h : -9223372036854775808 ≤ m ∧ m < 0) : IntKind.u64.wrap m = m + 18446744073709551616 := by rw [IntKind.wrap_u64]; omega
theorem wrapu_negneg {m : Int} (h : -9223372036854775808 ≤ m ∧ m < 0) : IntKind.u64.wrap (-(m + 18446744073709551616)) = -m := by rw [IntKind.wrap_u64]; omega
end
/-- A literal of some elements of any size. -/
theorem ol_bsG {P : Program} {N : Fr} {B : Nat} {w0 : World} {al : AL} {H : HL} {ops rest : List Oper} {Q : Exit → Act → World → Prop} {ty : TypeId} {pos : String} {after : Array Edge} {d : Nat} {t e : TypeId} {bytes len size : Nat} {parts : List (Nat × Operand)} {pv : List (Nat × Value)} (cs : List Value) (id : Nat) (hp : evp al parts = some pv) (hT : RowT P t e size bytes) (hl : Nat.beq cs.length (len * size) = true) (hsm : Nat.ble len 9223372036854775807 = true)
    (hrun : ∀ w, (Instr.buildSlice t len pv.toArray).run P w = .ok (.slice (some ⟨w.heap.size, 0, none⟩) len len) (w.alloc (.cells cs.toArray e))) (hd : Nat.blt d N.n = true)
    (k : ∀ a', OL P N B w0 ops rest Q ((d, .slice a' len len) :: al) ((id, .row a' len len cs e size) :: H)) :
    OL P N B w0 ops ({ dst := some d, op := .buildSlice t len parts.toArray, type := ty, pos, after, guard := none } :: rest) Q al H := by
  intro a w hst
  refine wpList_plain rfl fun K hK => ?_
  have hl' : cs.length = len * size := Nat.eq_of_beq_eq_true hl
  have hsm' : len ≤ 9223372036854775807 := by simpa using hsm
  have hev := evp_eval hst.regs hp
  have hrun' : (execOp a.eval { dst := some d, op := .buildSlice t len parts.toArray, type := ty, pos, after, guard := none }).run P w = .ok (.value (.slice (some ⟨w.heap.size, 0, none⟩) len len)) (w.alloc (.cells cs.toArray e)) := by
    simp only [execOp, List.map_toArray, hev, Sem.run_bind, hrun w, Result.andThen_ok, Sem.run_pure]
  unfold Oper.wp
  rw [hrun', Oper.upon_value]
  refine hK _ _ (k _ _ _ (hst.step (hst.regs.put (by simpa using hd) _) (hst.below.alloc hst.base _) ?_ (by have := hst.base; simp; omega) (Kd.alloc w _)))
  refine hst.sat.new id (e := .row (some ⟨w.heap.size, 0, none⟩) len len cs e size) ?_ (fun k hk => Below.heap_alloc w _ k hk) (fun b hb => by simp [Ent.own] at hb; omega)
  exact ⟨by simp [hl'], .inr ⟨w.heap.size, len, cs.toArray, rfl, hst.base, heap_alloc_new w _, Nat.le_refl _, by unfold maxLen; omega, by simp [hl'], by rw [List.take_of_length_le (by simp [hl'])]⟩⟩
end Hx
end Go.Proofs.Ytjflbnbofedlkaa

/-
  Quotients that are rounded up, and splits: plain part.
-/

namespace Go.Proofs.Ytjflbnbofedlkaa
open Go Go.RowKit Hx
set_option linter.unusedVariables false
set_option linter.unusedSimpArgs false
/-- A quotient, rounded up. -/
def upD (x d : Int) : Int := (x + d - 1) / d
theorem upD_eq {x d : Int} (hd : 1 ≤ d) : x / d + (if 0 < x % d then 1 else 0) = upD x d := by
  unfold upD
  have h1 := Int.emod_nonneg x (show d ≠ 0 by omega)
  have h2 := Int.emod_lt_of_pos x (show 0 < d by omega)
  have h3 := Int.mul_ediv_add_emod x d
  split
  · have e : x + d - 1 = (x % d - 1) + d * (x / d + 1) := by rw [Int.mul_add]; omega
    have e0 : (x % d - 1) / d = 0 := Int.ediv_eq_zero_of_lt (by omega) (by omega)
    rw [e, Int.add_mul_ediv_left _ _ (show d ≠ 0 by omega), e0]; omega
  · have e : x + d - 1 = (d - 1) + d * (x / d) := by omega
    have e0 : (d - 1) / d = 0 := Int.ediv_eq_zero_of_lt (by omega) (by omega)
    rw [e, Int.add_mul_ediv_left _ _ (show d ≠ 0 by omega), e0]; omega
theorem upD_mono {x y d : Int} (hd : 1 ≤ d) (h : x ≤ y) : upD x d ≤ upD y d := Int.ediv_le_ediv (by omega) (by omega)
theorem upD_bd {x d n : Int} (h0 : 0 ≤ x) (hd : 1 ≤ d) (h : x ≤ n * d) : 0 ≤ upD x d ∧ upD x d ≤ n := by
  unfold upD
  refine ⟨Int.ediv_nonneg (by omega) (by omega), ?_⟩
  have : (x + d - 1) / d < n + 1 := Int.ediv_lt_of_lt_mul (by omega) (by rw [Int.add_mul]; omega)
  omega
structure SplitR where
  way : Int
  at_ : Int
section
variable (ss : List SmpR) (way : Int)
noncomputable def spN (k : Nat) : Nat := (wayN ss k / way).toNat
noncomputable def splJ (k j : Nat) : SplitR := match ss[k]?, ss[k + 1]? with
  | some p, some q => ⟨((j : Int) + 1) * way, 1000 * p.at_ + upD ((((j : Int) + 1) * way - wayN ss k) * (1000 * (q.at_ - p.at_))) (wayN ss (k + 1) - wayN ss k)⟩
  | _, _ => ⟨0, 0⟩
noncomputable def splK : Nat → List SplitR
  | 0 => []
  | k + 1 => splK k ++ (List.range' (spN ss way k) (spN ss way (k + 1) - spN ss way k)).map (splJ ss way k)
noncomputable def midK (k m : Nat) : List SplitR := splK ss way k ++ (List.range' (spN ss way k) m).map (splJ ss way k)
variable {ss way}
theorem midK_zero (k : Nat) : midK ss way k 0 = splK ss way k := by simp [midK]
theorem midK_succ (k m : Nat) : midK ss way k (m + 1) = midK ss way k m ++ [splJ ss way k (spN ss way k + m)] := by
  unfold midK
  rw [List.range'_concat, List.map_append, List.append_assoc, Nat.one_mul]; rfl
theorem midK_done (k : Nat) : midK ss way k (spN ss way (k + 1) - spN ss way k) = splK ss way (k + 1) := rfl
theorem splJ_eq {k : Nat} {p q : SmpR} (hp : ss[k]? = some p) (hq : ss[k + 1]? = some q) (j : Nat) :
    splJ ss way k j = ⟨((j : Int) + 1) * way, 1000 * p.at_ + upD ((((j : Int) + 1) * way - wayN ss k) * (1000 * (q.at_ - p.at_))) (wayN ss (k + 1) - wayN ss k)⟩ := by unfold splJ; rw [hp, hq]
theorem atI_le {st : Int} {k : Nat} {p q : SmpR} (hok : SmpOk st ss) (hp : ss[k]? = some p) (hq : ss[k + 1]? = some q) : 0 ≤ p.at_ ∧ p.at_ < q.at_ ∧ q.at_ ≤ 1000000 :=
  ⟨(hok.bd p (List.mem_of_getElem? hp)).1, hok.rise k p q hp hq, (hok.bd q (List.mem_of_getElem? hq)).2.1⟩
variable {st : Int} (hok : SmpOk st ss) (hw : 1 ≤ way)
include hok hw
theorem spN_eq (k : Nat) : ((spN ss way k : Nat) : Int) = wayN ss k / way := by
  have h1 := wayN_bd hok k
  have h2 : 0 ≤ wayN ss k / way := Int.ediv_nonneg h1.1 (by omega)
  unfold spN
  omega
theorem spN_mono {i j : Nat} (h : i ≤ j) : spN ss way i ≤ spN ss way j := by
  have h1 := wayN_mono hok h
  have h2 : wayN ss i / way ≤ wayN ss j / way := Int.ediv_le_ediv (by omega) h1
  have h3 := spN_eq hok hw i
  have h4 := spN_eq hok hw j
  omega
theorem splK_len : ∀ k, (splK ss way k).length = spN ss way k
  | 0 => by
    have h3 := spN_eq hok hw 0
    rw [wayN_zero] at h3
    simp at h3
    rw [show (splK ss way 0) = [] from rfl]
    simp
    omega
  | k + 1 => by
    rw [splK, List.length_append, List.length_map, List.length_range', splK_len k]
    have := spN_mono hok hw (show k ≤ k + 1 by omega)
    omega
theorem midK_len (k m : Nat) : (midK ss way k m).length = spN ss way k + m := by
  unfold midK
  rw [List.length_append, List.length_map, List.length_range', splK_len hok hw k]
/-- A split lies in the step: as both programs ask. -/
theorem spN_cond (k j : Nat) : ((j : Int) + 1) * way ≤ wayN ss k ↔ j < spN ss way k := by
  have h3 := spN_eq hok hw k
  rw [← Int.le_ediv_iff_mul_le (by omega), ← h3]
  omega
theorem spN_above {k j : Nat} (h : spN ss way k ≤ j) : wayN ss k < ((j : Int) + 1) * way := by
  have h1 := spN_cond hok hw k j
  have h2 : ¬ ((j : Int) + 1) * way ≤ wayN ss k := fun h3 => by have := h1.1 h3; omega
  omega
theorem split_bd {k j : Nat} {p q : SmpR} (hp : ss[k]? = some p) (hq : ss[k + 1]? = some q) (h1 : spN ss way k ≤ j) (h2 : j < spN ss way (k + 1)) :
    1 ≤ ((j : Int) + 1) * way - wayN ss k ∧ ((j : Int) + 1) * way - wayN ss k ≤ wayN ss (k + 1) - wayN ss k ∧ wayN ss (k + 1) - wayN ss k ≤ 300000000 ∧
    0 ≤ (((j : Int) + 1) * way - wayN ss k) * (1000 * (q.at_ - p.at_)) ∧ 0 ≤ upD ((((j : Int) + 1) * way - wayN ss k) * (1000 * (q.at_ - p.at_))) (wayN ss (k + 1) - wayN ss k) ∧
    upD ((((j : Int) + 1) * way - wayN ss k) * (1000 * (q.at_ - p.at_))) (wayN ss (k + 1) - wayN ss k) ≤ 1000 * (q.at_ - p.at_) := by
  have a1 := spN_above hok hw h1
  have a2 := (spN_cond hok hw (k + 1) j).2 h2
  have a3 := wayN_succ (stepsL_get hp hq)
  have a4 := lenD_bd (hok.place (List.mem_of_getElem? hp)) (hok.place (List.mem_of_getElem? hq))
  have a5 := atI_le hok hp hq
  have a6 : 0 ≤ (((j : Int) + 1) * way - wayN ss k) * (1000 * (q.at_ - p.at_)) := Int.mul_nonneg (by omega) (by omega)
  have a7 : (((j : Int) + 1) * way - wayN ss k) * (1000 * (q.at_ - p.at_)) ≤ (wayN ss (k + 1) - wayN ss k) * (1000 * (q.at_ - p.at_)) := Int.mul_le_mul_of_nonneg_right (by omega) (by omega)
  have a8 := upD_bd a6 (show 1 ≤ wayN ss (k + 1) - wayN ss k by omega) (n := 1000 * (q.at_ - p.at_)) (by rw [Int.mul_comm (1000 * _)]; exact a7)
  refine ⟨by omega, by omega, ?_, a6, a8.1, a8.2⟩
  rw [a3]
  have : lenD (p, q).1 (p, q).2 = lenD p q := rfl
  omega
end
def SpOk (way : Int) (l : List SplitR) (T : Int) : Prop := ∀ (i : Nat) (x : SplitR), l[i]? = some x → x.way = ((i : Int) + 1) * way ∧ 0 ≤ x.at_ ∧ x.at_ ≤ T ∧ ∀ y, 1 ≤ i → l[i - 1]? = some y → y.at_ ≤ x.at_
theorem spOk_nil (way T : Int) : SpOk way [] T := fun i x h => by simp at h
theorem SpOk.le {way T T' : Int} {l : List SplitR} (h : SpOk way l T) (hT : T ≤ T') : SpOk way l T' := fun i x hx => by
  obtain ⟨h1, h2, h3, h4⟩ := h i x hx
  exact ⟨h1, h2, Int.le_trans h3 hT, h4⟩
theorem SpOk.snoc {way T : Int} {l : List SplitR} {x : SplitR} (h : SpOk way l T) (h1 : x.way = ((l.length : Int) + 1) * way) (h2 : T ≤ x.at_) (h0 : 0 ≤ x.at_) : SpOk way (l ++ [x]) x.at_ := by
  intro i y hy
  have hi := (List.getElem?_eq_some_iff.1 hy).1
  rw [List.length_append, List.length_singleton] at hi
  by_cases hl : i < l.length
  · rw [List.getElem?_append_left hl] at hy
    obtain ⟨b1, b2, b3, b4⟩ := h i y hy
    exact ⟨b1, b2, by omega, fun z hz hzz => b4 z hz (by rw [List.getElem?_append_left (by omega)] at hzz; exact hzz)⟩
  · have he : i = l.length := by omega
    subst he
    rw [List.getElem?_concat_length] at hy
    cases hy
    refine ⟨h1, h0, Int.le_refl _, fun z hz hzz => ?_⟩
    rw [List.getElem?_append_left (by omega)] at hzz
    have := (h _ z hzz).2.2.1
    omega
theorem midK_ok {ss : List SmpR} {way st : Int} (hok : SmpOk st ss) (hw : 1 ≤ way) {k : Nat} {p q : SmpR} (hp : ss[k]? = some p) (hq : ss[k + 1]? = some q) (h : SpOk way (splK ss way k) (1000 * p.at_)) :
    ∀ m, spN ss way k + m ≤ spN ss way (k + 1) → ∃ T, SpOk way (midK ss way k m) T ∧ T ≤ 1000 * q.at_ ∧ (m = 0 → T = 1000 * p.at_) ∧ (∀ m', m = m' + 1 → T = (splJ ss way k (spN ss way k + m')).at_)
  | 0, _ => by
    have := atI_le hok hp hq
    exact ⟨1000 * p.at_, by rw [midK_zero]; exact h, by omega, fun _ => rfl, fun m' h => by omega⟩
  | m + 1, hm => by
    obtain ⟨T, t1, t2, t3, t4⟩ := midK_ok hok hw hp hq h m (by omega)
    have b := split_bd hok hw hp hq (j := spN ss way k + m) (by omega) (by omega)
    have a5 := atI_le hok hp hq
    have e := splJ_eq (way := way) hp hq (spN ss way k + m)
    have hT : T ≤ (splJ ss way k (spN ss way k + m)).at_ := by
      cases m with
      | zero => rw [t3 rfl, e]; dsimp only; omega
      | succ m' =>
        rw [t4 m' rfl, e, splJ_eq hp hq]
        dsimp only
        have b0 := split_bd hok hw hp hq (j := spN ss way k + m') (by omega) (by omega)
        have : upD (((((spN ss way k + m' : Nat) : Int) + 1) * way - wayN ss k) * (1000 * (q.at_ - p.at_))) (wayN ss (k + 1) - wayN ss k) ≤ upD (((((spN ss way k + (m' + 1) : Nat) : Int) + 1) * way - wayN ss k) * (1000 * (q.at_ - p.at_))) (wayN ss (k + 1) - wayN ss k) := by
          refine upD_mono (by omega) (Int.mul_le_mul_of_nonneg_right ?_ (by omega))
          have : (((spN ss way k + m' : Nat) : Int) + 1) * way ≤ (((spN ss way k + (m' + 1) : Nat) : Int) + 1) * way := Int.mul_le_mul_of_nonneg_right (by omega) (by omega)
          omega
        omega
    refine ⟨(splJ ss way k (spN ss way k + m)).at_, ?_, ?_, fun h => by omega, fun m' hm' => by rw [show m' = m by omega]⟩
    · rw [midK_succ]
      refine t1.snoc ?_ hT ?_
      · rw [e, midK_len hok hw]
      · rw [e]; dsimp only; omega
    · rw [e]; dsimp only; omega
theorem splK_ok {ss : List SmpR} {way st : Int} (hok : SmpOk st ss) (hw : 1 ≤ way) : ∀ (k : Nat) (p : SmpR), ss[k]? = some p → SpOk way (splK ss way k) (1000 * p.at_)
  | 0, p, hp => spOk_nil _ _
  | k + 1, q, hq => by
    have hlt := (List.getElem?_eq_some_iff.1 hq).1
    have hp : ss[k]? = some (ss[k]'(by omega)) := List.getElem?_eq_getElem _
    obtain ⟨T, t1, t2, _⟩ := midK_ok hok hw hp hq (splK_ok hok hw k _ hp) (spN ss way (k + 1) - spN ss way k) (by have := spN_mono hok hw (show k ≤ k + 1 by omega); omega)
    rw [midK_done] at t1
    exact t1.le t2
noncomputable def splitsR (a : ActD) (way : Int) : List SplitR × Int :=
  if chkA a ≠ 0 then ([], chkA a) else if ¬(1 ≤ way ∧ way ≤ 1000000000) then ([], 9) else if 10000 < wayN a.ss (a.ss.length - 1) / way then ([], 3) else (splK a.ss way (a.ss.length - 1), 0)
theorem splitsR_e {a : ActD} {f : Int} (h : chkA a ≠ 0) : splitsR a f = ([], chkA a) := if_pos h
theorem splitsR_9 {a : ActD} {f : Int} (h : chkA a = 0) (h1 : ¬(1 ≤ f ∧ f ≤ 1000000000)) : splitsR a f = ([], 9) := by unfold splitsR; rw [if_neg (by simp [h]), if_pos h1]
theorem splitsR_3 {a : ActD} {f : Int} (h : chkA a = 0) (h1 : 1 ≤ f ∧ f ≤ 1000000000) (h2 : 10000 < wayN a.ss (a.ss.length - 1) / f) : splitsR a f = ([], 3) := by unfold splitsR; rw [if_neg (by simp [h]), if_neg (fun h3 => h3 h1), if_pos h2]
theorem splitsR_0 {a : ActD} {f : Int} (h : chkA a = 0) (h1 : 1 ≤ f ∧ f ≤ 1000000000) (h2 : ¬10000 < wayN a.ss (a.ss.length - 1) / f) : splitsR a f = (splK a.ss f (a.ss.length - 1), 0) := by
  unfold splitsR; rw [if_neg (by simp [h]), if_neg (fun h3 => h3 h1), if_neg h2]
end Go.Proofs.Ytjflbnbofedlkaa

/-
  slices.IndexFunc and ContainsFunc, at any function that only reads.
-/


namespace Go.Proofs.Ytjflbnbofedlkaa
open Go Go.RowKit Hx
set_option linter.unusedVariables false
set_option linter.unusedSimpArgs false
/-- The first place at which p holds, or -1. -/
def idxP {α : Type} (p : α → Bool) (xs : List α) : Int := match xs.findIdx? p with | some i => i | none => -1
theorem idxP_at {α : Type} {p : α → Bool} {xs : List α} {k : Nat} {x : α} (h : xs[k]? = some x) (hp : p x = true) (h2 : ∀ y ∈ xs.take k, p y = false) : idxP p xs = k := by
  have : xs.findIdx? p = some k := by
    rw [List.findIdx?_eq_some_iff_getElem]
    obtain ⟨hk, rfl⟩ := List.getElem?_eq_some_iff.1 h
    refine ⟨hk, hp, fun j hj => ?_⟩
    have : xs[j]'(by omega) ∈ xs.take k := by
      rw [List.mem_take_iff_getElem]
      exact ⟨j, by omega, rfl⟩
    simp [h2 _ this]
  simp [idxP, this]
theorem idxP_no {α : Type} {p : α → Bool} {xs : List α} (h2 : ∀ y ∈ xs, p y = false) : idxP p xs = -1 := by
  have : xs.findIdx? p = none := by
    rw [List.findIdx?_eq_none_iff]
    intro y hy
    simp [h2 y hy]
  simp [idxP, this]
theorem idxP_any {α : Type} (p : α → Bool) (xs : List α) : decide (0 ≤ idxP p xs) = xs.any p := by
  unfold idxP
  cases h : xs.findIdx? p with
  | none =>
    rw [List.findIdx?_eq_none_iff] at h
    have : xs.any p = false := by rw [List.any_eq_false]; intro y hy; simp [h y hy]
    simp [this]
  | some i =>
    rw [List.findIdx?_eq_some_iff_getElem] at h
    obtain ⟨hi, hp, _⟩ := h
    have : xs.any p = true := by rw [List.any_eq_true]; exact ⟨_, List.getElem_mem hi, hp⟩
    rw [this]; simp
end Go.Proofs.Ytjflbnbofedlkaa

/-
  Root, squares, lengths of steps: program and reference.
-/


namespace Go.Proofs.Ytjflbnbofedlkaa
open Go Go.RowKit Hx
set_option linter.unusedVariables false
set_option linter.unusedSimpArgs false
set_option maxRecDepth 8000
theorem wrap_sq {x : Int} (h : 0 ≤ x ∧ x ≤ 18446744073709551615) : IntKind.i64.wrap x = if x ≤ 9223372036854775807 then x else x - 18446744073709551616 := by
  rw [IntKind.wrap_i64]
  split <;> omega
theorem r_mulw {P : Program} {N : Fr} {B : Nat} {w0 : World} {al : AL} {H : HL} {ty : TypeId} {x y : Operand} {t t' : TypeId} {m n : Int} (hx : ev al x = some (.int .i64 m)) (hy : ev al y = some (.int .i64 n)) :
    Runs P N B w0 (.binOp .mul t x y t') ty al H (.int .i64 (IntKind.i64.wrap (m * n))) := fun a w hst => by
  simp [execOp, hst.regs.eval hx, hst.regs.eval hy, eqGuard_mul, binOp_mul, Op.intArith]
/-- What Step returns. -/
noncomputable def stepD (p q : SmpR) : Int × Int := open Classical in if PlaceOk p ∧ PlaceOk q then (lenD p q, 0) else (0, 9)
theorem stepD_ok {p q : SmpR} (hp : PlaceOk p) (hq : PlaceOk q) : stepD p q = (lenD p q, 0) := if_pos ⟨hp, hq⟩
theorem stepD_no {p q : SmpR} (h : ¬(PlaceOk p ∧ PlaceOk q)) : stepD p q = (0, 9) := if_neg h
end Go.Proofs.Ytjflbnbofedlkaa

/-
  Scale: products over quotients, for numbers that are not too large; rounded up.
-/




namespace Go.Proofs.Ytjflbnbofedlkaa
open Go Go.RowKit Hx
set_option linter.unusedVariables false
set_option linter.unusedSimpArgs false
set_option maxRecDepth 8000
theorem bits_Mul64 (x y : Int) (w : World) (hx : 0 ≤ x ∧ x ≤ 4294967295) (hy : 0 ≤ y ∧ y ≤ 4294967295) (hxy : 0 ≤ x * y ∧ x * y ≤ 9223372036854775807) :
    Calls Try.prog 130 #[.int .u64 x, .int .u64 y] w fun e w' => e = .returned (.tuple #[.int .u64 0, .int .u64 (x * y)]) ∧ Below w.heap.size w w' := by
  refine enterQ (N := 51) (C := fun _ => True) (H := []) (B := w.heap.size) (args := [_, _]) Try.func130 rfl rfl rfl (Nat.le_refl _) (Sat.nil _ _) fun Q hQ => ?_
  refine wp_seq' fun K1 hK1 => ?_
  refine wp_reg ?_
  refine ol_r (r_assign rfl) rfl ?_
  refine ol_r (r_assign rfl) rfl ?_
  refine ol_nil (to_k0 (fun _ _ h => h) (hK1 _ _ _ _ _ ?_))
  clear hK1
  refine wp_seq' fun K2 hK2 => ?_
  refine wp_reg ?_
  refine ol_r (r_move rfl) rfl ?_
  refine ol_r (r_and32 x rfl rfl (by omega) (by omega) (by omega)) rfl ?_
  refine ol_r (r_assign rfl) rfl ?_
  refine ol_nil (to_k0 (fun _ _ h => h) (hK2 _ _ _ _ _ ?_))
  clear hK2
  refine wp_seq' fun K3 hK3 => ?_
  refine wp_reg ?_
  refine ol_r (r_move rfl) rfl ?_
  refine ol_r (r_shr32 0 rfl rfl (by omega) (by omega)) rfl ?_
  refine ol_r (r_assign rfl) rfl ?_
  refine ol_nil (to_k0 (fun _ _ h => h) (hK3 _ _ _ _ _ ?_))
  clear hK3
  refine wp_seq' fun K4 hK4 => ?_
  refine wp_reg ?_
  refine ol_r (r_move rfl) rfl ?_
  refine ol_r (r_and32 y rfl rfl (by omega) (by omega) (by omega)) rfl ?_
  refine ol_r (r_assign rfl) rfl ?_
  refine ol_nil (to_k0 (fun _ _ h => h) (hK4 _ _ _ _ _ ?_))
  clear hK4
  refine wp_seq' fun K5 hK5 => ?_
  refine wp_reg ?_
  refine ol_r (r_move rfl) rfl ?_
  refine ol_r (r_shr32 0 rfl rfl (by omega) (by omega)) rfl ?_
  refine ol_r (r_assign rfl) rfl ?_
  refine ol_nil (to_k0 (fun _ _ h => h) (hK5 _ _ _ _ _ ?_))
  clear hK5
  refine wp_seq' fun K6 hK6 => ?_
  refine wp_reg ?_
  refine ol_r (r_move rfl) rfl ?_
  refine ol_r (r_move rfl) rfl ?_
  refine ol_r (r_mulg (x * y) rfl rfl (wrap_u64 (by omega))) rfl ?_
  refine ol_r (r_assign rfl) rfl ?_
  refine ol_nil (to_k0 (fun _ _ h => h) (hK6 _ _ _ _ _ ?_))
  clear hK6
  refine wp_seq' fun K7 hK7 => ?_
  refine wp_reg ?_
  refine ol_r (r_move rfl) rfl ?_
  refine ol_r (r_move rfl) rfl ?_
  refine ol_r (r_mulg 0 rfl rfl (by rw [Int.zero_mul]; exact wrap_u64 (by omega))) rfl ?_
  refine ol_r (r_move rfl) rfl ?_
  refine ol_r (r_shr32 (x * y / 4294967296) rfl rfl (by omega) rfl) rfl ?_
  refine ol_r (r_addg (x * y / 4294967296) rfl rfl (by rw [Int.zero_add]; exact wrap_u64 (by omega))) rfl ?_
  refine ol_r (r_assign rfl) rfl ?_
  refine ol_nil (to_k0 (fun _ _ h => h) (hK7 _ _ _ _ _ ?_))
  clear hK7
  refine wp_seq' fun K8 hK8 => ?_
  refine wp_reg ?_
  refine ol_r (r_move rfl) rfl ?_
  refine ol_r (r_and32 (x * y / 4294967296) rfl rfl (by omega) (by omega) (by omega)) rfl ?_
  refine ol_r (r_assign rfl) rfl ?_
  refine ol_nil (to_k0 (fun _ _ h => h) (hK8 _ _ _ _ _ ?_))
  clear hK8
  refine wp_seq' fun K9 hK9 => ?_
  refine wp_reg ?_
  refine ol_r (r_move rfl) rfl ?_
  refine ol_r (r_shr32 0 rfl rfl (by omega) (by omega)) rfl ?_
  refine ol_r (r_assign rfl) rfl ?_
  refine ol_nil (to_k0 (fun _ _ h => h) (hK9 _ _ _ _ _ ?_))
  clear hK9
  refine wp_seq' fun K10 hK10 => ?_
  refine wp_reg ?_
  refine ol_r (r_move rfl) rfl ?_
  refine ol_r (r_move rfl) rfl ?_
  refine ol_r (r_move rfl) rfl ?_
  refine ol_r (r_mulg 0 rfl rfl (by rw [Int.mul_zero]; exact wrap_u64 (by omega))) rfl ?_
  refine ol_r (r_addg (x * y / 4294967296) rfl rfl (by rw [Int.add_zero]; exact wrap_u64 (by omega))) rfl ?_
  refine ol_r (r_assign rfl) rfl ?_
  refine ol_nil (to_k0 (fun _ _ h => h) (hK10 _ _ _ _ _ ?_))
  clear hK10
  refine wp_seq' fun K11 hK11 => ?_
  refine wp_reg ?_
  refine ol_r (r_move rfl) rfl ?_
  refine ol_r (r_move rfl) rfl ?_
  refine ol_r (r_mulg 0 rfl rfl (by rw [Int.zero_mul]; exact wrap_u64 (by omega))) rfl ?_
  refine ol_r (r_move rfl) rfl ?_
  refine ol_r (r_addg 0 rfl rfl (by rw [Int.zero_add]; exact wrap_u64 (by omega))) rfl ?_
  refine ol_r (r_move rfl) rfl ?_
  refine ol_r (r_shr32 0 rfl rfl (by omega) (by omega)) rfl ?_
  refine ol_r (r_addg 0 rfl rfl (by rw [Int.zero_add]; exact wrap_u64 (by omega))) rfl ?_
  refine ol_r (r_assign rfl) rfl ?_
  refine ol_nil (to_k0 (fun _ _ h => h) (hK11 _ _ _ _ _ ?_))
  clear hK11
  refine wp_seq' fun K12 hK12 => ?_
  refine wp_reg ?_
  refine ol_r (r_move rfl) rfl ?_
  refine ol_r (r_move rfl) rfl ?_
  refine ol_r (r_mulg (x * y) rfl rfl (wrap_u64 (by omega))) rfl ?_
  refine ol_r (r_assign rfl) rfl ?_
  refine ol_nil (to_k0 (fun _ _ h => h) (hK12 _ _ _ _ _ ?_))
  clear hK12
  refine hQ.ret (rvs2 (rv_t rfl) (rv_t rfl)) (fun _ _ h => h) fun w hb hs hB hkd => ?_
  exact ⟨rfl, hb⟩
theorem bits_Div64 (x y : Int) (w : World) (hx : 0 ≤ x ∧ x ≤ 9223372036854775807) (hy : 1 ≤ y ∧ y ≤ 9223372036854775807) :
    Calls Try.prog 135 #[.int .u64 0, .int .u64 x, .int .u64 y] w fun e w' => e = .returned (.tuple #[.int .u64 (x / y), .int .u64 (x % y)]) ∧ Below w.heap.size w w' := by
  have hq : 0 ≤ x / y := Int.ediv_nonneg hx.1 (by omega)
  have hq2 : x / y ≤ x := Int.ediv_le_self _ hx.1
  have hr : 0 ≤ x % y := Int.emod_nonneg _ (by omega)
  have hr2 : x % y < y := Int.emod_lt_of_pos _ (by omega)
  refine enterQ (N := 135) (C := fun _ => True) (H := []) (B := w.heap.size) (args := [_, _, _]) Try.func135 rfl rfl rfl (Nat.le_refl _) (Sat.nil _ _) fun Q hQ => ?_
  refine wp_seq' fun K1 hK1 => ?_
  refine wp_reg ?_
  refine ol_r (r_assign rfl) rfl ?_
  refine ol_r (r_assign rfl) rfl ?_
  refine ol_nil (to_k0 (fun _ _ h => h) (hK1 _ _ _ _ _ ?_))
  clear hK1
  refine wp_seq' fun K2 hK2 => ?_
  refine wp_seq' fun K3 hK3 => ?_
  refine wp_reg ?_
  refine ol_r (r_move rfl) rfl ?_
  refine ol_r (r_eql rfl rfl) rfl ?_
  refine ol_nil (to_k0 (fun _ _ h => h) (hK3 _ _ _ _ _ ?_))
  clear hK3
  refine wp_condD rfl (fun hc20 => ?_) (fun hc20 => ?_)
  ·exfalso
   omega
  ·refine wp_skip' (to_k0 (fun _ _ h => h) (hK2 _ _ _ _ _ ?_))
   clear hK2
   refine wp_seq' fun K4 hK4 => ?_
   refine wp_seq' fun K5 hK5 => ?_
   refine wp_reg ?_
   refine ol_r (r_move rfl) rfl ?_
   refine ol_r (r_move rfl) rfl ?_
   refine ol_r (r_leq rfl rfl) rfl ?_
   refine ol_nil (to_k0 (fun _ _ h => h) (hK5 _ _ _ _ _ ?_))
   clear hK5
   refine wp_condD rfl (fun hc24 => ?_) (fun hc24 => ?_)
   ·exfalso
    omega
   ·refine wp_skip' (to_k0 (fun _ _ h => h) (hK4 _ _ _ _ _ ?_))
    clear hK4
    refine wp_seq' fun K6 hK6 => ?_
    refine wp_seq' fun K7 hK7 => ?_
    refine wp_reg ?_
    refine ol_r (r_move rfl) rfl ?_
    refine ol_r (r_eql rfl rfl) rfl ?_
    refine ol_nil (to_k0 (fun _ _ h => h) (hK7 _ _ _ _ _ ?_))
    clear hK7
    refine wp_condD rfl (fun hc27 => ?_) (fun hc27 => ?_)
    ·refine wp_seq' fun K8 hK8 => ?_
     refine wp_regq (by kernel_rfl) (by kernel_rfl) ?_
     refine ql_r (r_move rfl) rfl ?_
     refine ql_r (r_move rfl) rfl ?_
     refine ql_r (r_quog rfl rfl (by omega) (by omega) (wrap_u64 (by omega))) rfl ?_
     refine ql_r (r_move rfl) rfl ?_
     refine ql_r (r_move rfl) rfl ?_
     refine ql_r (r_remg rfl rfl (by omega) (by omega) (wrap_u64 (by omega))) rfl ?_
     refine ql_r (r_assign rfl) rfl ?_
     refine ql_r (r_assign rfl) rfl ?_
     refine ql_nil (to_k0 (fun _ _ h => h) (hK8 _ _ _ _ _ ?_))
     clear hK8
     refine hQ.ret (rvs2 (rv_t rfl) (rv_t rfl)) (fun _ _ h => h) fun w hb hs hB hkd => ?_
     exact ⟨rfl, hb⟩
    ·exfalso
     omega
theorem cmp_isNaNu (x : Int) (w : World) : Calls Try.prog 147 #[.int .u64 x] w fun e w' => e = .returned (.bool false) ∧ Below w.heap.size w w' := by
  refine enterQ (N := 6) (C := fun _ => True) (H := []) (B := w.heap.size) (args := [_]) Try.func147 rfl rfl rfl (Nat.le_refl _) (Sat.nil _ _) fun Q hQ => ?_
  refine wp_seq' fun K1 hK1 => ?_
  refine wp_reg ?_
  refine ol_r (r_assign rfl) rfl ?_
  refine ol_nil (to_k0 (fun _ _ h => h) (hK1 _ _ _ _ _ ?_))
  clear hK1
  refine wp_seq' fun K2 hK2 => ?_
  refine wp_reg ?_
  refine ol_r (r_move rfl) rfl ?_
  refine ol_r (r_move rfl) rfl ?_
  refine ol_r (r_neq rfl rfl) rfl ?_
  refine ol_r (r_assign rfl) rfl ?_
  refine ol_nil (to_k0 (fun _ _ h => h) (hK2 _ _ _ _ _ ?_))
  clear hK2
  refine hQ.ret (rvs1 (rv_t rfl)) (fun _ _ h => h) fun w hb hs hB hkd => ?_
  exact ⟨by simp, hb⟩
def cmpI (x y : Int) : Int := if x < y then -1 else if y < x then 1 else 0
theorem cmp_Compareu (x y : Int) (w : World) : Calls Try.prog 131 #[.int .u64 x, .int .u64 y] w fun e w' => e = .returned (.int .i64 (cmpI x y)) ∧ Below w.heap.size w w' := by
  refine enterQ (N := 20) (C := fun _ => True) (H := []) (B := w.heap.size) (args := [_, _]) Try.func131 rfl rfl rfl (Nat.le_refl _) (Sat.nil _ _) fun Q hQ => ?_
  refine wp_seq' fun K1 hK1 => ?_
  refine wp_reg ?_
  refine ol_r (r_assign rfl) rfl ?_
  refine ol_nil (to_k0 (fun _ _ h => h) (hK1 _ _ _ _ _ ?_))
  clear hK1
  refine wp_seq' fun K2 hK2 => ?_
  refine wp_reg ?_
  refine ol_r (r_move rfl) rfl ?_
  refine ol_call rfl rfl cb147 rfl (fun w1 hb1 hs1 hB1 => Calls.mono (cmp_isNaNu _ _) ?_)
  rintro e w2 ⟨rfl, hb2⟩
  refine After.below rfl hb1 hs1 hB1 hb2 ?_
  clear hb2 hB1 hs1 hb1 w2 w1
  refine ol_r (r_assign rfl) rfl ?_
  refine ol_nil (to_k0 (fun _ _ h => h) (hK2 _ _ _ _ _ ?_))
  clear hK2
  refine wp_seq' fun K3 hK3 => ?_
  refine wp_reg ?_
  refine ol_r (r_move rfl) rfl ?_
  refine ol_call rfl rfl cb147 rfl (fun w1 hb1 hs1 hB1 => Calls.mono (cmp_isNaNu _ _) ?_)
  rintro e w2 ⟨rfl, hb2⟩
  refine After.below rfl hb1 hs1 hB1 hb2 ?_
  clear hb2 hB1 hs1 hb1 w2 w1
  refine ol_r (r_assign rfl) rfl ?_
  refine ol_nil (to_k0 (fun _ _ h => h) (hK3 _ _ _ _ _ ?_))
  clear hK3
  refine wp_seq' fun K4 hK4 => ?_
  refine wp_seq' fun K5 hK5 => ?_
  refine wp_reg ?_
  refine ol_r (r_move rfl) rfl ?_
  refine ol_nil (to_k0 (fun _ _ h => h) (hK5 _ _ _ _ _ ?_))
  clear hK5
  refine wp_cond' rfl (fun hc11 => ?_) (fun hc11 => ?_)
  ·refine wp_seq' fun K6 hK6 => ?_
   refine wp_seq' fun K7 hK7 => ?_
   refine wp_reg ?_
   refine ol_r (r_move rfl) rfl ?_
   refine ol_nil (to_k0 (fun _ _ h => h) (hK7 _ _ _ _ _ ?_))
   clear hK7
   refine wp_cond' rfl (fun hc12 => ?_) (fun hc12 => ?_)
   ·refine wp_seq' fun K8 hK8 => ?_
    refine wp_reg ?_
    refine ol_r (r_assign rfl) rfl ?_
    refine ol_nil (to_k0 (fun _ _ h => h) (hK8 _ _ _ _ _ ?_))
    clear hK8
    refine hQ.ret (rvs1 (rv_t rfl)) (fun _ _ h => h) fun w hb hs hB hkd => ?_
    first
      | (exfalso; simp_all; done)
   ·refine wp_skip' (to_k0 (fun _ _ h => h) (hK6 _ _ _ _ _ ?_))
    clear hK6
    refine wp_seq' fun K9 hK9 => ?_
    refine wp_reg ?_
    refine ol_r (r_assign rfl) rfl ?_
    refine ol_nil (to_k0 (fun _ _ h => h) (hK9 _ _ _ _ _ ?_))
    clear hK9
    refine hQ.ret (rvs1 (rv_t rfl)) (fun _ _ h => h) fun w hb hs hB hkd => ?_
    first
      | (exfalso; simp_all; done)
  ·refine wp_skip' (to_k0 (fun _ _ h => h) (hK4 _ _ _ _ _ ?_))
   clear hK4
   refine wp_seq' fun K10 hK10 => ?_
   refine wp_seq' fun K11 hK11 => ?_
   refine wp_reg ?_
   refine ol_r (r_move rfl) rfl ?_
   refine ol_nil (to_k0 (fun _ _ h => h) (hK11 _ _ _ _ _ ?_))
   clear hK11
   refine wp_cond' rfl (fun hc13 => ?_) (fun hc13 => ?_)
   ·refine wp_seq' fun K12 hK12 => ?_
    refine wp_reg ?_
    refine ol_r (r_assign rfl) rfl ?_
    refine ol_nil (to_k0 (fun _ _ h => h) (hK12 _ _ _ _ _ ?_))
    clear hK12
    refine hQ.ret (rvs1 (rv_t rfl)) (fun _ _ h => h) fun w hb hs hB hkd => ?_
    first
      | (exfalso; simp_all; done)
   ·refine wp_skip' (to_k0 (fun _ _ h => h) (hK10 _ _ _ _ _ ?_))
    clear hK10
    refine wp_seq' fun K13 hK13 => ?_
    refine wp_seq' fun K14 hK14 => ?_
    refine wp_reg ?_
    refine ol_r (r_move rfl) rfl ?_
    refine ol_r (r_move rfl) rfl ?_
    refine ol_r (r_lss rfl rfl) rfl ?_
    refine ol_nil (to_k0 (fun _ _ h => h) (hK14 _ _ _ _ _ ?_))
    clear hK14
    refine wp_condD rfl (fun hc16 => ?_) (fun hc16 => ?_)
    ·refine wp_seq' fun K15 hK15 => ?_
     refine wp_reg ?_
     refine ol_r (r_assign rfl) rfl ?_
     refine ol_nil (to_k0 (fun _ _ h => h) (hK15 _ _ _ _ _ ?_))
     clear hK15
     refine hQ.ret (rvs1 (rv_t rfl)) (fun _ _ h => h) fun w hb hs hB hkd => ?_
     first
       | exact ⟨by unfold cmpI; rw [if_pos (by omega)], hb⟩
    ·refine wp_skip' (to_k0 (fun _ _ h => h) (hK13 _ _ _ _ _ ?_))
     clear hK13
     refine wp_seq' fun K16 hK16 => ?_
     refine wp_seq' fun K17 hK17 => ?_
     refine wp_reg ?_
     refine ol_r (r_move rfl) rfl ?_
     refine ol_r (r_move rfl) rfl ?_
     refine ol_r (r_gtr rfl rfl) rfl ?_
     refine ol_nil (to_k0 (fun _ _ h => h) (hK17 _ _ _ _ _ ?_))
     clear hK17
     refine wp_condD rfl (fun hc19 => ?_) (fun hc19 => ?_)
     ·refine wp_seq' fun K18 hK18 => ?_
      refine wp_reg ?_
      refine ol_r (r_assign rfl) rfl ?_
      refine ol_nil (to_k0 (fun _ _ h => h) (hK18 _ _ _ _ _ ?_))
      clear hK18
      refine hQ.ret (rvs1 (rv_t rfl)) (fun _ _ h => h) fun w hb hs hB hkd => ?_
      first
        | exact ⟨by unfold cmpI; rw [if_neg (by omega), if_pos (by omega)], hb⟩
     ·refine wp_skip' (to_k0 (fun _ _ h => h) (hK16 _ _ _ _ _ ?_))
      clear hK16
      refine wp_seq' fun K19 hK19 => ?_
      refine wp_reg ?_
      refine ol_r (r_assign rfl) rfl ?_
      refine ol_nil (to_k0 (fun _ _ h => h) (hK19 _ _ _ _ _ ?_))
      clear hK19
      refine hQ.ret (rvs1 (rv_t rfl)) (fun _ _ h => h) fun w hb hs hB hkd => ?_
      first
        | exact ⟨by unfold cmpI; rw [if_neg (by omega), if_neg (by omega)], hb⟩
/-- A way of rounding, as it lies. -/
def encWay : Enc (Int × FuncId) := { size := 2, cells := fun x => [.int .i64 x.1, .func (.func x.2) #[] #[]], val := fun x => .agg #[.int .i64 x.1, .func (.func x.2) #[] #[]], len := fun _ => rfl, ones := fun _ u h => (by simp at h; rcases h with h | h <;> subst h <;> rfl), pos := by decide, vc := fun _ => rfl }
theorem ty186 : Ty Try.prog 186 encWay := .inr ⟨ag186, fun _ => rfl⟩
def waysL : List (Int × FuncId) := [(1, 148), (2, 149), (3, 150), (4, 151), (5, 152)]
theorem bd186_0_1 (x0 : Int) (g1 : FuncId) (w : World) : (Instr.build 186 #[(0, .int .i64 x0), (1, .func (.func g1) #[] #[])]).run Try.prog w = .ok (.agg #[.int .i64 x0, .func (.func g1) #[] #[]]) w := by kernel_rfl
theorem quant_ways (w : World) : Calls Try.prog 132 #[] w fun e w' => ∃ b m k, e = .returned (.slice b m k) ∧ Fresh encWay 186 w w' b m k waysL := by
  refine enterQ (N := 7) (C := fun _ => True) (H := []) (B := w.heap.size) (args := []) Try.func132 rfl rfl rfl (Nat.le_refl _) (Sat.nil _ _) fun Q hQ => ?_
  refine wp_seq' fun K1 hK1 => ?_
  refine wp_reg ?_
  refine ol_r (r_assign rfl) rfl ?_
  refine ol_nil (to_k0 (fun _ _ h => h) (hK1 _ _ _ _ _ ?_))
  clear hK1
  refine wp_seq' fun K2 hK2 => ?_
  refine wp_reg ?_
  refine ol_r (r_build rfl (fun _ => bd186_0_1 _ _ _)) rfl ?_
  refine ol_r (r_build rfl (fun _ => bd186_0_1 _ _ _)) rfl ?_
  refine ol_r (r_build rfl (fun _ => bd186_0_1 _ _ _)) rfl ?_
  refine ol_r (r_build rfl (fun _ => bd186_0_1 _ _ _)) rfl ?_
  refine ol_r (r_build rfl (fun _ => bd186_0_1 _ _ _)) rfl ?_
  refine ol_bsG (encWay.enc (waysL)) 6 rfl rw181 rfl rfl (fun _ => by kernel_rfl) rfl fun a6 => ?_
  refine ol_r (r_assign rfl) rfl ?_
  refine ol_nil (to_k0 (fun _ _ h => h) (hK2 _ _ _ _ _ ?_))
  clear hK2
  refine hQ.ret (rvs1 (rv_t rfl)) (fun _ _ h => h) fun w hb hs hB hkd => ?_
  exact ⟨_, _, _, rfl, hb, hs.ok 6 _ rfl⟩
theorem way_up (below : Bool) (whole half : Int) (w : World) : Calls Try.prog 149 #[.bool below, .int .u64 whole, .int .i64 half] w fun e w' => e = .returned (.bool (!below)) ∧ Below w.heap.size w w' := by
  refine enterQ (N := 9) (C := fun _ => True) (H := []) (B := w.heap.size) (args := [_, _, _]) Try.func149 rfl rfl rfl (Nat.le_refl _) (Sat.nil _ _) fun Q hQ => ?_
  refine wp_seq' fun K1 hK1 => ?_
  refine wp_reg ?_
  refine ol_r (r_assign rfl) rfl ?_
  refine ol_nil (to_k0 (fun _ _ h => h) (hK1 _ _ _ _ _ ?_))
  clear hK1
  refine wp_seq' fun K2 hK2 => ?_
  refine wp_reg ?_
  refine ol_r (r_move rfl) rfl ?_
  refine ol_r (r_not rfl) rfl ?_
  refine ol_r (r_assign rfl) rfl ?_
  refine ol_nil (to_k0 (fun _ _ h => h) (hK2 _ _ _ _ _ ?_))
  clear hK2
  refine hQ.ret (rvs1 (rv_t rfl)) (fun _ _ h => h) fun w hb hs hB hkd => ?_
  exact ⟨rfl, hb⟩
theorem way_near (below : Bool) (whole half : Int) (w : World) : Calls Try.prog 151 #[.bool below, .int .u64 whole, .int .i64 half] w fun e w' => e = .returned (.bool (decide (0 < half) || (decide (half = 0) && !below))) ∧ Below w.heap.size w w' := by
  refine enterQ (N := 17) (C := fun _ => True) (H := []) (B := w.heap.size) (args := [_, _, _]) Try.func151 rfl rfl rfl (Nat.le_refl _) (Sat.nil _ _) fun Q hQ => ?_
  refine wp_seq' fun K1 hK1 => ?_
  refine wp_reg ?_
  refine ol_r (r_assign rfl) rfl ?_
  refine ol_nil (to_k0 (fun _ _ h => h) (hK1 _ _ _ _ _ ?_))
  clear hK1
  refine wp_seq' fun K2 hK2 => ?_
  refine wp_reg ?_
  refine ol_r (r_move rfl) rfl ?_
  refine ol_r (r_gtr rfl rfl) rfl ?_
  refine ol_r (r_move rfl) rfl ?_
  refine ol_split (d := 9) rfl (fun hs9 => ?_) (fun hs9 => ?_)
  ·have phs9 := hs9; try simp only [decide_eq_true_eq, decide_eq_false_iff_not, Bool.not_eq_true', Bool.not_eq_false', Bool.not_true, Bool.not_false] at phs9
   refine ol_s rfl rfl hs9 rfl ?_
   refine ol_s rfl rfl hs9 rfl ?_
   refine ol_s rfl rfl hs9 rfl ?_
   refine ol_u rfl rfl rfl ?_
   refine ol_u rfl rfl rfl ?_
   refine ol_s rfl rfl hs9 rfl ?_
   refine ol_r (r_pickT rfl hs9 rfl) rfl ?_
   refine ol_r (r_assign rfl) rfl ?_
   refine ol_nil (to_k0 (fun _ _ h => h) (hK2 _ _ _ _ _ ?_))
   clear hK2
   refine hQ.ret (rvs1 (rv_t rfl)) (fun _ _ h => h) fun w hb hs hB hkd => ?_
   first
     | exact ⟨by simp_all, hb⟩
  ·have phs9 := hs9; try simp only [decide_eq_true_eq, decide_eq_false_iff_not, Bool.not_eq_true', Bool.not_eq_false', Bool.not_true, Bool.not_false] at phs9
   refine ol_g rfl rfl hs9 ?_
   refine ol_r (r_move rfl) rfl ?_
   refine ol_g rfl rfl hs9 ?_
   refine ol_r (r_eql rfl rfl) rfl ?_
   refine ol_g rfl rfl hs9 ?_
   refine ol_r (r_move rfl) rfl ?_
   refine ol_split (d := 12) rfl (fun hs12 => ?_) (fun hs12 => ?_)
   ·have phs12 := hs12; try simp only [decide_eq_true_eq, decide_eq_false_iff_not, Bool.not_eq_true', Bool.not_eq_false', Bool.not_true, Bool.not_false] at phs12
    refine ol_g rfl rfl hs12 ?_
    refine ol_r (r_move rfl) rfl ?_
    refine ol_g rfl rfl hs12 ?_
    refine ol_r (r_not rfl) rfl ?_
    refine ol_g rfl rfl hs9 ?_
    refine ol_r (r_pickT rfl hs12 rfl) rfl ?_
    refine ol_r (r_pickF rfl hs9 rfl) rfl ?_
    refine ol_r (r_assign rfl) rfl ?_
    refine ol_nil (to_k0 (fun _ _ h => h) (hK2 _ _ _ _ _ ?_))
    clear hK2
    refine hQ.ret (rvs1 (rv_t rfl)) (fun _ _ h => h) fun w hb hs hB hkd => ?_
    first
      | exact ⟨by simp_all, hb⟩
   ·have phs12 := hs12; try simp only [decide_eq_true_eq, decide_eq_false_iff_not, Bool.not_eq_true', Bool.not_eq_false', Bool.not_true, Bool.not_false] at phs12
    refine ol_s rfl rfl hs12 rfl ?_
    refine ol_s rfl rfl hs12 rfl ?_
    refine ol_g rfl rfl hs9 ?_
    refine ol_r (r_pickF rfl hs12 rfl) rfl ?_
    refine ol_r (r_pickF rfl hs9 rfl) rfl ?_
    refine ol_r (r_assign rfl) rfl ?_
    refine ol_nil (to_k0 (fun _ _ h => h) (hK2 _ _ _ _ _ ?_))
    clear hK2
    refine hQ.ret (rvs1 (rv_t rfl)) (fun _ _ h => h) fun w hb hs hB hkd => ?_
    first
      | exact ⟨by simp_all, hb⟩
theorem indexFunc_way (a : Option Addr) (n c1 : Nat) (xs : List (Int × FuncId)) (g : FuncId) (cv : List Value) (p : Int × FuncId → Bool) (r : Int) (w : World) (hx : Rd encWay w.heap.size w a n c1 xs) (hg : Callable Try.prog g) (hr : idxP p xs = r)
    (hf : ∀ x w', x ∈ xs → Below w.heap.size w w' → w.heap.size ≤ w'.heap.size → Calls Try.prog g ([encWay.val x] ++ cv).toArray w' fun e w2 => e = .returned (.bool (p x)) ∧ Below w'.heap.size w' w2) :
    Calls Try.prog 133 #[.slice a n c1, .func (.func g) #[] cv.toArray] w fun e w' => e = .returned (.int .i64 r) ∧ Below w.heap.size w w' := by
  have hl := hx.len
  have hfit := hx.fit
  subst hl
  subst hr
  refine enterQ (N := 19) (C := fun _ => True) (H := []) (B := w.heap.size) (args := [_, _]) Try.func133 rfl rfl rfl (Nat.le_refl _) (Sat.nil _ _) fun Q hQ => ?_
  refine wp_seq' fun K1 hK1 => ?_
  refine wp_reg ?_
  refine ol_r (r_assign rfl) rfl ?_
  refine ol_nil (to_k0 (fun _ _ h => h) (hK1 _ _ _ _ _ ?_))
  clear hK1
  refine wp_seq' fun K2 hK2 => ?_
  refine wp_seq' fun K3 hK3 => ?_
  refine wp_reg ?_
  refine ol_r (r_move rfl) rfl ?_
  refine ol_r (r_len rfl sl181) rfl ?_
  refine ol_r (r_move rfl) rfl ?_
  refine ol_nil (to_k0 (fun _ _ h => h) (hK3 _ _ _ _ _ ?_))
  clear hK3
  refine wp_block' ?_
  apply wp_loopM (σ := Nat) (fun s => s ≤ xs.length ∧ ∀ y ∈ xs.take s, p y = false) (fun s => [(8, .int .i64 s)]) [(0, _), (1, _), (7, _)] (fun s => []) [] (fun s => xs.length - s) (0)
  ·try dsimp only
   simp
  ·exact (sub_cons rfl sub_nil)
  ·exact (sub_cons rfl (sub_cons rfl (sub_cons rfl sub_nil)))
  ·exact subH_nil
  ·exact subH_nil
  ·rintro k ⟨hk, hP⟩
   intro K4 hK4
   refine wp_seq' fun K5 hK5 => ?_
   refine wp_reg ?_
   refine ol_r (r_lss rfl rfl) rfl ?_
   refine ol_nil (to_k0 (fun _ _ h => h) (hK5 _ _ _ _ _ ?_))
   clear hK5
   refine wp_seq' fun K6 hK6 => ?_
   refine wp_condD rfl (fun hc9 => ?_) (fun hc9 => ?_)
   ·refine wp_skip' (to_k0 (fun _ _ h => h) (hK6 _ _ _ _ _ ?_))
    clear hK6
    refine wp_seq' fun K7 hK7 => ?_
    refine wp_block' ?_
    refine wp_seq' fun K8 hK8 => ?_
    refine wp_reg ?_
    refine ol_r (r_move rfl) rfl ?_
    refine ol_r (r_assign rfl) rfl ?_
    refine ol_nil (to_k0 (fun _ _ h => h) (hK8 _ _ _ _ _ ?_))
    clear hK8
    refine wp_seq' fun K9 hK9 => ?_
    refine wp_reg ?_
    refine ol_r (r_move rfl) rfl ?_
    refine ol_r (r_move rfl) rfl ?_
    refine ol_r (r_move rfl) rfl ?_
    refine ol_ixr hx rfl rfl sl181 (by omega) rfl fun x14 hx14 => ?_
    try simp only [Int.toNat_natCast] at hx14
    refine ol_r (r_ldw rfl (fun w1 hb1 hs1 hB1 => Rd.loads hx ty186 hx14 hb1)) rfl ?_
    refine ol_call rfl rfl hg rfl (fun w1 hb1 hs1 hB1 => Calls.mono (hf _ _ (List.mem_of_getElem? hx14) hb1 hB1) ?_)
    rintro e w2 ⟨rfl, hb2⟩
    refine After.below rfl hb1 hs1 hB1 hb2 ?_
    clear hb2 hB1 hs1 hb1 w2 w1
    refine ol_nil (to_k0 (fun _ _ h => h) (hK9 _ _ _ _ _ ?_))
    clear hK9
    refine wp_cond' rfl (fun hc16 => ?_) (fun hc16 => ?_)
    ·refine wp_seq' fun K10 hK10 => ?_
     refine wp_reg ?_
     refine ol_r (r_move rfl) rfl ?_
     refine ol_r (r_assign rfl) rfl ?_
     refine ol_nil (to_k0 (fun _ _ h => h) (hK10 _ _ _ _ _ ?_))
     clear hK10
     refine hQ.ret (rvs1 (rv_t rfl)) (fun _ _ h => h) fun w hb hs hB hkd => ?_
     exact ⟨by rw [idxP_at hx14 hc16 hP], hb⟩
    ·refine wp_skip' (to_k0 (fun _ _ h => h) (hK7 _ _ _ _ _ ?_))
     clear hK7
     refine wp_reg ?_
     refine ol_r (r_add rfl rfl (by omega)) rfl ?_
     refine ol_r (r_move rfl) rfl ?_
     refine ol_nil (to_k0 (fun _ _ h => h) (hK4 (k + 1) _ _ ?_ ?_ (sub_cons rfl sub_nil) (sub_cons rfl (sub_cons rfl (sub_cons rfl sub_nil))) (by exact subH_nil) subH_nil))
     ·try dsimp only
      refine ⟨by omega, fun y hy => ?_⟩
      rw [take_succ_get hx14] at hy
      rcases List.mem_append.1 hy with h | h
      · exact hP y h
      · simp at h; subst h; exact hc16
     ·try dsimp only
      omega
   ·refine wp_exit' (to_k0 (fun _ _ h => h) (hK2 _ _ _ _ _ ?_))
    clear hK2
    refine wp_seq' fun K11 hK11 => ?_
    refine wp_reg ?_
    refine ol_r (r_assign rfl) rfl ?_
    refine ol_nil (to_k0 (fun _ _ h => h) (hK11 _ _ _ _ _ ?_))
    clear hK11
    refine hQ.ret (rvs1 (rv_t rfl)) (fun _ _ h => h) fun w hb hs hB hkd => ?_
    rw [List.take_of_length_le (by omega)] at hP
    exact ⟨by rw [idxP_no hP], hb⟩
theorem scale_is (x : Int × FuncId) (how : Int) (b : Nat) (w : World) (h : Blk w.heap.size w b [(0, .int .i64 how)]) :
    Calls Try.prog 134 ([encWay.val x] ++ [Value.pointer (some ⟨b, 0, none⟩)]).toArray w fun e w' => e = .returned (.bool (decide (x.1 = how))) ∧ Below w.heap.size w w' := by
  refine enterQ (N := 8) (C := fun _ => True) (H := []) (B := w.heap.size) (args := [_, _]) Try.func134 rfl rfl rfl (Nat.le_refl _) (Sat.nil _ _) fun Q hQ => ?_
  refine wp_seq' fun K1 hK1 => ?_
  refine wp_reg ?_
  refine ol_box 2 rfl rfl rfl fun b2 => ?_
  refine ol_r (r_assign rfl) rfl ?_
  refine ol_nil (to_k0 (fun _ _ h => h) (hK1 _ _ _ _ _ ?_))
  clear hK1
  refine wp_seq' fun K2 hK2 => ?_
  refine wp_reg ?_
  refine ol_r (r_fa (o' := 0) rfl fl186_0 rfl) rfl ?_
  refine ol_r (r_ld (id := 2) rfl rfl rfl sc3) rfl ?_
  refine ol_r (r_ldw rfl (fun w1 hb1 hs1 hB1 => Blk.loads (o := 0) h hb1 sc3 rfl)) rfl ?_
  refine ol_r (r_eql rfl rfl) rfl ?_
  refine ol_r (r_assign rfl) rfl ?_
  refine ol_nil (to_k0 (fun _ _ h => h) (hK2 _ _ _ _ _ ?_))
  clear hK2
  refine hQ.ret (rvs1 (rv_t rfl)) (fun _ _ h => h) fun w hb hs hB hkd => ?_
  exact ⟨rfl, hb⟩
theorem quant_ScaleUp (a num den : Int) (w : World) (ha : 0 ≤ a ∧ a ≤ 4294967295) (hn : 0 ≤ num ∧ num ≤ 4294967295) (hd : 1 ≤ den ∧ den ≤ 4294967295) (hx : 0 ≤ a * num ∧ a * num ≤ 1000000000000000000) :
    Calls Try.prog 106 #[.int .i64 a, .int .i64 num, .int .i64 den, .int .i64 2] w fun e w' => e = .returned (.tuple #[.int .i64 (upD (a * num) den), .int .i64 0]) ∧ Below w.heap.size w w' := by
  have hq : 0 ≤ a * num / den := Int.ediv_nonneg hx.1 (by omega)
  have hq2 : a * num / den ≤ a * num := Int.ediv_le_self _ hx.1
  have hr : 0 ≤ a * num % den := Int.emod_nonneg _ (by omega)
  have hr2 : a * num % den < den := Int.emod_lt_of_pos _ (by omega)
  have hup := upD_eq (x := a * num) hd.1
  refine enterQ (N := 88) (C := fun _ => True) (H := []) (B := w.heap.size) (args := [_, _, _, _]) Try.func106 rfl rfl rfl (Nat.le_refl _) (Sat.nil _ _) fun Q hQ => ?_
  refine wp_seq' fun K1 hK1 => ?_
  refine wp_reg ?_
  refine ol_box 7 rfl rfl rfl fun b7 => ?_
  refine ol_r (r_assign rfl) rfl ?_
  refine ol_r (r_assign rfl) rfl ?_
  refine ol_nil (to_k0 (fun _ _ h => h) (hK1 _ _ _ _ _ ?_))
  clear hK1
  refine wp_seq' fun K2 hK2 => ?_
  refine wp_reg ?_
  refine ol_call rfl rfl cb132 rfl (fun w1 hb1 hs1 hB1 => Calls.mono (quant_ways _) ?_)
  rintro e w2 ⟨a18, n18, c18, rfl, hf18⟩
  refine After.fresh (id := 18) rfl hb1 hs1 hB1 hf18 ?_
  have hl18 := hf18.len; clear hf18 hB1 hs1 hb1 w2 w1
  refine ol_r (r_assign rfl) rfl ?_
  refine ol_nil (to_k0 (fun _ _ h => h) (hK2 _ _ _ _ _ ?_))
  clear hK2
  refine wp_seq' fun K3 hK3 => ?_
  refine wp_reg ?_
  have hn18 : n18 = 5 := by rw [← hl18]; rfl
  refine ol_r (r_move rfl) rfl ?_
  refine ol_r (r_func rfl) rfl ?_
  refine ol_call rfl rfl cb133 rfl (fun w1 hb1 hs1 hB1 => Calls.mono (indexFunc_way _ _ _ waysL _ _ (fun x => decide (x.1 = 2)) 1 _ (Sat.rd hs1 (E := encWay) (id := 18) rfl rfl) cb134 rfl (fun x w' _ h1 h2 => scale_is x 2 _ w' ((hs1.blk (id := 7) rfl).at h1 h2))) ?_)
  rintro e w2 ⟨rfl, hb2⟩
  refine After.below rfl hb1 hs1 hB1 hb2 ?_
  clear hb2 hB1 hs1 hb1 w2 w1
  refine ol_r (r_assign rfl) rfl ?_
  refine ol_nil (to_k0 (fun _ _ h => h) (hK3 _ _ _ _ _ ?_))
  clear hK3
  refine wp_seq' fun K4 hK4 => ?_
  refine wp_seq' fun K5 hK5 => ?_
  refine wp_reg ?_
  refine ol_r (r_move rfl) rfl ?_
  refine ol_r (r_lss rfl rfl) rfl ?_
  refine ol_nil (to_k0 (fun _ _ h => h) (hK5 _ _ _ _ _ ?_))
  clear hK5
  refine wp_condD rfl (fun hc23 => ?_) (fun hc23 => ?_)
  ·exfalso
   omega
  ·refine wp_skip' (to_k0 (fun _ _ h => h) (hK4 _ _ _ _ _ ?_))
   clear hK4
   refine wp_seq' fun K6 hK6 => ?_
   refine wp_seq' fun K7 hK7 => ?_
   refine wp_reg ?_
   refine ol_r (r_move rfl) rfl ?_
   refine ol_r (r_leq rfl rfl) rfl ?_
   refine ol_r (r_move rfl) rfl ?_
   refine ol_split (d := 26) rfl (fun hs26 => ?_) (fun hs26 => ?_)
   ·have phs26 := hs26; try simp only [decide_eq_true_eq, decide_eq_false_iff_not, Bool.not_eq_true', Bool.not_eq_false', Bool.not_true, Bool.not_false] at phs26
    refine ol_s rfl rfl hs26 rfl ?_
    refine ol_s rfl rfl hs26 rfl ?_
    refine ol_r (r_pickT rfl hs26 rfl) rfl ?_
    refine ol_nil (to_k0 (fun _ _ h => h) (hK7 _ _ _ _ _ ?_))
    clear hK7
    refine wp_condT rfl ?_
    refine wp_seq' fun K8 hK8 => ?_
    refine wp_reg ?_
    refine ol_r (r_assign rfl) rfl ?_
    refine ol_r (r_assign rfl) rfl ?_
    refine ol_nil (to_k0 (fun _ _ h => h) (hK8 _ _ _ _ _ ?_))
    clear hK8
    refine hQ.ret (rvs2 (rv_t rfl) (rv_t rfl)) (fun _ _ h => h) fun w hb hs hB hkd => ?_
    first
      | (exfalso; omega)
   ·have phs26 := hs26; try simp only [decide_eq_true_eq, decide_eq_false_iff_not, Bool.not_eq_true', Bool.not_eq_false', Bool.not_true, Bool.not_false] at phs26
    refine ol_g rfl rfl hs26 ?_
    refine ol_r (r_move rfl) rfl ?_
    refine ol_g rfl rfl hs26 ?_
    refine ol_r (r_lss rfl rfl) rfl ?_
    refine ol_r (r_pickF rfl hs26 rfl) rfl ?_
    refine ol_nil (to_k0 (fun _ _ h => h) (hK7 _ _ _ _ _ ?_))
    clear hK7
    refine wp_condD rfl (fun hc29 => ?_) (fun hc29 => ?_)
    ·exfalso
     omega
    ·refine wp_skip' (to_k0 (fun _ _ h => h) (hK6 _ _ _ _ _ ?_))
     clear hK6
     refine wp_seq' fun K9 hK9 => ?_
     refine wp_reg ?_
     refine ol_r (r_move rfl) rfl ?_
     refine ol_r (r_lss rfl rfl) rfl ?_
     refine ol_r (r_assign rfl) rfl ?_
     refine ol_nil (to_k0 (fun _ _ h => h) (hK9 _ _ _ _ _ ?_))
     clear hK9
     refine wp_seq' fun K10 hK10 => ?_
     refine wp_reg ?_
     refine ol_r (r_move rfl) rfl ?_
     refine ol_r (r_conv (k2 := .u64) rfl (by kernel_rfl) (by kernel_rfl) (wrap_u64 (by omega))) rfl ?_
     refine ol_r (r_assign rfl) rfl ?_
     refine ol_nil (to_k0 (fun _ _ h => h) (hK10 _ _ _ _ _ ?_))
     clear hK10
     refine wp_seq' fun K11 hK11 => ?_
     refine wp_seq' fun K12 hK12 => ?_
     refine wp_reg ?_
     refine ol_r (r_move rfl) rfl ?_
     refine ol_nil (to_k0 (fun _ _ h => h) (hK12 _ _ _ _ _ ?_))
     clear hK12
     refine wp_condD rfl (fun hc34 => ?_) (fun hc34 => ?_)
     ·exfalso
      omega
     ·refine wp_skip' (to_k0 (fun _ _ h => h) (hK11 _ _ _ _ _ ?_))
      clear hK11
      refine wp_seq' fun K13 hK13 => ?_
      refine wp_reg ?_
      refine ol_r (r_move rfl) rfl ?_
      refine ol_r (r_move rfl) rfl ?_
      refine ol_r (r_conv (k2 := .u64) rfl (by kernel_rfl) (by kernel_rfl) (wrap_u64 (by omega))) rfl ?_
      refine ol_call rfl rfl cb130 rfl (fun w1 hb1 hs1 hB1 => Calls.mono (bits_Mul64 a num _ ha hn (by omega)) ?_)
      rintro e w2 ⟨rfl, hb2⟩
      refine After.below rfl hb1 hs1 hB1 hb2 ?_
      clear hb2 hB1 hs1 hb1 w2 w1
      refine ol_r (r_move rfl) rfl ?_
      refine ol_r (r_extract rfl rfl) rfl ?_
      refine ol_r (r_extract rfl rfl) rfl ?_
      refine ol_r (r_assign rfl) rfl ?_
      refine ol_r (r_assign rfl) rfl ?_
      refine ol_nil (to_k0 (fun _ _ h => h) (hK13 _ _ _ _ _ ?_))
      clear hK13
      refine wp_seq' fun K14 hK14 => ?_
      refine wp_seq' fun K15 hK15 => ?_
      refine wp_reg ?_
      refine ol_r (r_move rfl) rfl ?_
      refine ol_r (r_move rfl) rfl ?_
      refine ol_r (r_conv (k2 := .u64) rfl (by kernel_rfl) (by kernel_rfl) (wrap_u64 (by omega))) rfl ?_
      refine ol_r (r_geq rfl rfl) rfl ?_
      refine ol_nil (to_k0 (fun _ _ h => h) (hK15 _ _ _ _ _ ?_))
      clear hK15
      refine wp_condD rfl (fun hc47 => ?_) (fun hc47 => ?_)
      ·exfalso
       omega
      ·refine wp_skip' (to_k0 (fun _ _ h => h) (hK14 _ _ _ _ _ ?_))
       clear hK14
       refine wp_seq' fun K16 hK16 => ?_
       refine wp_reg ?_
       refine ol_r (r_move rfl) rfl ?_
       refine ol_r (r_move rfl) rfl ?_
       refine ol_r (r_move rfl) rfl ?_
       refine ol_r (r_conv (k2 := .u64) rfl (by kernel_rfl) (by kernel_rfl) (wrap_u64 (by omega))) rfl ?_
       refine ol_call rfl rfl cb135 rfl (fun w1 hb1 hs1 hB1 => Calls.mono (bits_Div64 (a * num) den _ (by omega) (by omega)) ?_)
       rintro e w2 ⟨rfl, hb2⟩
       refine After.below rfl hb1 hs1 hB1 hb2 ?_
       clear hb2 hB1 hs1 hb1 w2 w1
       refine ol_r (r_move rfl) rfl ?_
       refine ol_r (r_extract rfl rfl) rfl ?_
       refine ol_r (r_extract rfl rfl) rfl ?_
       refine ol_r (r_assign rfl) rfl ?_
       refine ol_r (r_assign rfl) rfl ?_
       refine ol_nil (to_k0 (fun _ _ h => h) (hK16 _ _ _ _ _ ?_))
       clear hK16
       refine wp_seq' fun K17 hK17 => ?_
       refine wp_seq' fun K18 hK18 => ?_
       refine wp_regq (by kernel_rfl) (by kernel_rfl) ?_
       refine ql_r (r_move rfl) rfl ?_
       refine ql_r (r_gtr rfl rfl) rfl ?_
       refine ql_r (r_move rfl) rfl ?_
       refine ql_split (d := 58) rfl (fun hs58 => ?_) (fun hs58 => ?_)
       ·have phs58 := hs58; try simp only [decide_eq_true_eq, decide_eq_false_iff_not, Bool.not_eq_true', Bool.not_eq_false', Bool.not_true, Bool.not_false] at phs58
        refine ql_g rfl rfl hs58 ?_
        refine ql_r (r_move rfl) rfl ?_
        refine ql_g rfl rfl hs58 ?_
        refine ql_r (r_leq rfl rfl) rfl ?_
        refine ql_r (r_pickT rfl hs58 rfl) rfl ?_
        refine ql_r (r_move rfl) rfl ?_
        refine ql_split (d := 62) rfl (fun hs62 => ?_) (fun hs62 => ?_)
        ·have phs62 := hs62; try simp only [decide_eq_true_eq, decide_eq_false_iff_not, Bool.not_eq_true', Bool.not_eq_false', Bool.not_true, Bool.not_false] at phs62
         refine ql_g rfl rfl hs62 ?_
         refine ql_r (r_move rfl) rfl ?_
         refine ql_g rfl rfl hs62 ?_
         refine ql_r (r_move rfl) rfl ?_
         refine ql_g rfl rfl hs62 ?_
         refine ql_ixo (id := 18) encWay waysL rfl rfl rfl rfl sl181 (by omega) (by omega) rfl fun x65 hx65 => ?_
         try simp only [Int.toNat_natCast] at hx65
         try simp only [Int.toNat_natCast] at hx65
         refine ql_g rfl rfl hs62 ?_
         have h65 := Option.some.inj (hx65.symm.trans (show _ = some ((2, 149) : Int × FuncId) from rfl))
         subst h65
         refine ql_r (r_faO (id := 18) rfl rfl rfl hx65 fl186_1) rfl ?_
         refine ql_g rfl rfl hs62 ?_
         refine ql_r (r_ldw rfl (fun w1 hb1 hs1 hB1 => ld_ownF (id := 18) (o := 1) hs1 rfl rfl sc184 hx65 rfl)) rfl ?_
         refine ql_g rfl rfl hs62 ?_
         refine ql_r (r_move rfl) rfl ?_
         refine ql_g rfl rfl hs62 ?_
         refine ql_r (r_move rfl) rfl ?_
         refine ql_g rfl rfl hs62 ?_
         refine ql_r (r_move rfl) rfl ?_
         refine ql_g rfl rfl hs62 ?_
         refine ql_r (r_move rfl) rfl ?_
         refine ql_g rfl rfl hs62 ?_
         refine ql_r (r_conv (k2 := .u64) rfl (by kernel_rfl) (by kernel_rfl) (wrap_u64 (by omega))) rfl ?_
         refine ql_g rfl rfl hs62 ?_
         refine ql_r (r_move rfl) rfl ?_
         refine ql_g rfl rfl hs62 ?_
         refine ql_r (r_subg _ rfl rfl (wrap_u64 (by omega))) rfl ?_
         refine ql_g rfl rfl hs62 ?_
         refine ql_call rfl rfl cb131 rfl (fun w1 hb1 hs1 hB1 => cmp_Compareu _ _ _) ?_
         refine ql_g rfl rfl hs62 ?_
         refine ql_call rfl rfl cb149 rfl (fun w1 hb1 hs1 hB1 => way_up _ _ _ _) ?_
         refine ql_r (r_pickT rfl hs62 rfl) rfl ?_
         refine ql_nil (to_k0 (fun _ _ h => h) (hK18 _ _ _ _ _ ?_))
         clear hK18
         refine wp_condN rfl (fun hc77 => ?_) (fun hc77 => ?_)
         ·refine wp_reg ?_
          refine ol_r (r_move rfl) rfl ?_
          refine ol_r (r_addg _ rfl rfl (wrap_u64 (by omega))) rfl ?_
          refine ol_r (r_assign rfl) rfl ?_
          refine ol_nil (to_k0 (fun _ _ h => h) (hK17 _ _ _ _ _ ?_))
          clear hK17
          refine wp_seq' fun K19 hK19 => ?_
          refine wp_seq' fun K20 hK20 => ?_
          refine wp_reg ?_
          refine ol_r (r_move rfl) rfl ?_
          refine ol_r (r_gtr rfl rfl) rfl ?_
          refine ol_nil (to_k0 (fun _ _ h => h) (hK20 _ _ _ _ _ ?_))
          clear hK20
          refine wp_condD rfl (fun hc81 => ?_) (fun hc81 => ?_)
          ·exfalso
           omega
          ·refine wp_skip' (to_k0 (fun _ _ h => h) (hK19 _ _ _ _ _ ?_))
           clear hK19
           refine wp_seq' fun K21 hK21 => ?_
           refine wp_seq' fun K22 hK22 => ?_
           refine wp_reg ?_
           refine ol_r (r_move rfl) rfl ?_
           refine ol_nil (to_k0 (fun _ _ h => h) (hK22 _ _ _ _ _ ?_))
           clear hK22
           refine wp_condD rfl (fun hc82 => ?_) (fun hc82 => ?_)
           ·exfalso
            omega
           ·refine wp_skip' (to_k0 (fun _ _ h => h) (hK21 _ _ _ _ _ ?_))
            clear hK21
            refine wp_seq' fun K23 hK23 => ?_
            refine wp_reg ?_
            refine ol_r (r_move rfl) rfl ?_
            refine ol_r (r_conv (k2 := .i64) rfl (by kernel_rfl) (by kernel_rfl) (IntWalk.i64_in _ (by omega))) rfl ?_
            refine ol_r (r_assign rfl) rfl ?_
            refine ol_r (r_assign rfl) rfl ?_
            refine ol_nil (to_k0 (fun _ _ h => h) (hK23 _ _ _ _ _ ?_))
            clear hK23
            refine hQ.ret (rvs2 (rv_t rfl) (rv_t rfl)) (fun _ _ h => h) fun w hb hs hB hkd => ?_
            first
              | exact ⟨by rw [← hup, if_pos (by omega)], hb⟩
         ·refine wp_skip' (to_k0 (fun _ _ h => h) (hK17 _ _ _ _ _ ?_))
          clear hK17
          refine wp_seq' fun K24 hK24 => ?_
          refine wp_seq' fun K25 hK25 => ?_
          refine wp_reg ?_
          refine ol_r (r_move rfl) rfl ?_
          refine ol_r (r_gtr rfl rfl) rfl ?_
          refine ol_nil (to_k0 (fun _ _ h => h) (hK25 _ _ _ _ _ ?_))
          clear hK25
          refine wp_condD rfl (fun hc81 => ?_) (fun hc81 => ?_)
          ·exfalso
           omega
          ·refine wp_skip' (to_k0 (fun _ _ h => h) (hK24 _ _ _ _ _ ?_))
           clear hK24
           refine wp_seq' fun K26 hK26 => ?_
           refine wp_seq' fun K27 hK27 => ?_
           refine wp_reg ?_
           refine ol_r (r_move rfl) rfl ?_
           refine ol_nil (to_k0 (fun _ _ h => h) (hK27 _ _ _ _ _ ?_))
           clear hK27
           refine wp_condD rfl (fun hc82 => ?_) (fun hc82 => ?_)
           ·exfalso
            omega
           ·refine wp_skip' (to_k0 (fun _ _ h => h) (hK26 _ _ _ _ _ ?_))
            clear hK26
            refine wp_seq' fun K28 hK28 => ?_
            refine wp_reg ?_
            refine ol_r (r_move rfl) rfl ?_
            refine ol_r (r_conv (k2 := .i64) rfl (by kernel_rfl) (by kernel_rfl) (IntWalk.i64_in _ (by omega))) rfl ?_
            refine ol_r (r_assign rfl) rfl ?_
            refine ol_r (r_assign rfl) rfl ?_
            refine ol_nil (to_k0 (fun _ _ h => h) (hK28 _ _ _ _ _ ?_))
            clear hK28
            refine hQ.ret (rvs2 (rv_t rfl) (rv_t rfl)) (fun _ _ h => h) fun w hb hs hB hkd => ?_
            first
              | (exfalso; omega)
        ·have phs62 := hs62; try simp only [decide_eq_true_eq, decide_eq_false_iff_not, Bool.not_eq_true', Bool.not_eq_false', Bool.not_true, Bool.not_false] at phs62
         refine ql_s rfl rfl hs62 rfl ?_
         refine ql_s rfl rfl hs62 rfl ?_
         refine ql_s rfl rfl hs62 rfl ?_
         refine ql_s rfl rfl hs62 rfl ?_
         refine ql_s rfl rfl hs62 rfl ?_
         refine ql_s rfl rfl hs62 rfl ?_
         refine ql_s rfl rfl hs62 rfl ?_
         refine ql_s rfl rfl hs62 rfl ?_
         refine ql_s rfl rfl hs62 rfl ?_
         refine ql_s rfl rfl hs62 rfl ?_
         refine ql_s rfl rfl hs62 rfl ?_
         refine ql_s rfl rfl hs62 rfl ?_
         refine ql_s rfl rfl hs62 rfl ?_
         refine ql_s rfl rfl hs62 rfl ?_
         refine ql_r (r_pickF rfl hs62 rfl) rfl ?_
         refine ql_nil (to_k0 (fun _ _ h => h) (hK18 _ _ _ _ _ ?_))
         clear hK18
         refine wp_condF rfl ?_
         refine wp_skip' (to_k0 (fun _ _ h => h) (hK17 _ _ _ _ _ ?_))
         clear hK17
         refine wp_seq' fun K29 hK29 => ?_
         refine wp_seq' fun K30 hK30 => ?_
         refine wp_reg ?_
         refine ol_r (r_move rfl) rfl ?_
         refine ol_r (r_gtr rfl rfl) rfl ?_
         refine ol_nil (to_k0 (fun _ _ h => h) (hK30 _ _ _ _ _ ?_))
         clear hK30
         refine wp_condD rfl (fun hc81 => ?_) (fun hc81 => ?_)
         ·exfalso
          omega
         ·refine wp_skip' (to_k0 (fun _ _ h => h) (hK29 _ _ _ _ _ ?_))
          clear hK29
          refine wp_seq' fun K31 hK31 => ?_
          refine wp_seq' fun K32 hK32 => ?_
          refine wp_reg ?_
          refine ol_r (r_move rfl) rfl ?_
          refine ol_nil (to_k0 (fun _ _ h => h) (hK32 _ _ _ _ _ ?_))
          clear hK32
          refine wp_condD rfl (fun hc82 => ?_) (fun hc82 => ?_)
          ·exfalso
           omega
          ·refine wp_skip' (to_k0 (fun _ _ h => h) (hK31 _ _ _ _ _ ?_))
           clear hK31
           refine wp_seq' fun K33 hK33 => ?_
           refine wp_reg ?_
           refine ol_r (r_move rfl) rfl ?_
           refine ol_r (r_conv (k2 := .i64) rfl (by kernel_rfl) (by kernel_rfl) (IntWalk.i64_in _ (by omega))) rfl ?_
           refine ol_r (r_assign rfl) rfl ?_
           refine ol_r (r_assign rfl) rfl ?_
           refine ol_nil (to_k0 (fun _ _ h => h) (hK33 _ _ _ _ _ ?_))
           clear hK33
           refine hQ.ret (rvs2 (rv_t rfl) (rv_t rfl)) (fun _ _ h => h) fun w hb hs hB hkd => ?_
           first
             | (exfalso; omega)
       ·have phs58 := hs58; try simp only [decide_eq_true_eq, decide_eq_false_iff_not, Bool.not_eq_true', Bool.not_eq_false', Bool.not_true, Bool.not_false] at phs58
        refine ql_s rfl rfl hs58 rfl ?_
        refine ql_s rfl rfl hs58 rfl ?_
        refine ql_r (r_pickF rfl hs58 rfl) rfl ?_
        refine ql_r (r_move rfl) rfl ?_
        refine ql_s rfl rfl rfl rfl ?_
        refine ql_s rfl rfl rfl rfl ?_
        refine ql_s rfl rfl rfl rfl ?_
        refine ql_s rfl rfl rfl rfl ?_
        refine ql_s rfl rfl rfl rfl ?_
        refine ql_s rfl rfl rfl rfl ?_
        refine ql_s rfl rfl rfl rfl ?_
        refine ql_s rfl rfl rfl rfl ?_
        refine ql_s rfl rfl rfl rfl ?_
        refine ql_s rfl rfl rfl rfl ?_
        refine ql_s rfl rfl rfl rfl ?_
        refine ql_s rfl rfl rfl rfl ?_
        refine ql_s rfl rfl rfl rfl ?_
        refine ql_s rfl rfl rfl rfl ?_
        refine ql_r (r_pickF rfl rfl rfl) rfl ?_
        refine ql_nil (to_k0 (fun _ _ h => h) (hK18 _ _ _ _ _ ?_))
        clear hK18
        refine wp_condF rfl ?_
        refine wp_skip' (to_k0 (fun _ _ h => h) (hK17 _ _ _ _ _ ?_))
        clear hK17
        refine wp_seq' fun K34 hK34 => ?_
        refine wp_seq' fun K35 hK35 => ?_
        refine wp_reg ?_
        refine ol_r (r_move rfl) rfl ?_
        refine ol_r (r_gtr rfl rfl) rfl ?_
        refine ol_nil (to_k0 (fun _ _ h => h) (hK35 _ _ _ _ _ ?_))
        clear hK35
        refine wp_condD rfl (fun hc81 => ?_) (fun hc81 => ?_)
        ·exfalso
         omega
        ·refine wp_skip' (to_k0 (fun _ _ h => h) (hK34 _ _ _ _ _ ?_))
         clear hK34
         refine wp_seq' fun K36 hK36 => ?_
         refine wp_seq' fun K37 hK37 => ?_
         refine wp_reg ?_
         refine ol_r (r_move rfl) rfl ?_
         refine ol_nil (to_k0 (fun _ _ h => h) (hK37 _ _ _ _ _ ?_))
         clear hK37
         refine wp_condD rfl (fun hc82 => ?_) (fun hc82 => ?_)
         ·exfalso
          omega
         ·refine wp_skip' (to_k0 (fun _ _ h => h) (hK36 _ _ _ _ _ ?_))
          clear hK36
          refine wp_seq' fun K38 hK38 => ?_
          refine wp_reg ?_
          refine ol_r (r_move rfl) rfl ?_
          refine ol_r (r_conv (k2 := .i64) rfl (by kernel_rfl) (by kernel_rfl) (IntWalk.i64_in _ (by omega))) rfl ?_
          refine ol_r (r_assign rfl) rfl ?_
          refine ol_r (r_assign rfl) rfl ?_
          refine ol_nil (to_k0 (fun _ _ h => h) (hK38 _ _ _ _ _ ?_))
          clear hK38
          refine hQ.ret (rvs2 (rv_t rfl) (rv_t rfl)) (fun _ _ h => h) fun w hb hs hB hkd => ?_
          first
            | exact ⟨by rw [← hup, if_neg (by omega), Int.add_zero], hb⟩
end Go.Proofs.Ytjflbnbofedlkaa

/-
  Between the library's contracts of sorting, which speak of worlds, and rows of the caller's.
-/


namespace Go.Proofs.Ytjflbnbofedlkaa.Hx
open Go Go.RowKit
set_option linter.unusedVariables false
set_option linter.unusedSimpArgs false
section
variable {w : World} {B g n cap size : Nat} {e : TypeId} {vs vs' : List Value}
theorem row_cells (h : w.ownsRow B e size (.slice (some ⟨g, 0, none⟩) n cap) n vs) : ∃ cur : Array Value, w.heap[g]? = some (.cells cur e (0, 0)) ∧ vs.length ≤ cur.size ∧ (∀ (j : Nat) (u : Value), vs[j]? = some u → cur[j]? = some u) := by
  obtain ⟨hl, h | ⟨g', cap', cur, hv, hb, hg, h1, h2, h3, h4⟩⟩ := h
  · cases h.1
  · cases hv
    have h5 := Nat.mul_le_mul_right size h1
    refine ⟨cur, hg, by omega, fun j u hj => ?_⟩
    rw [← h4, List.getElem?_take] at hj
    split at hj
    · simpa using hj
    · cases hj
theorem row_holds (h : w.ownsRow B e size (.slice (some ⟨g, 0, none⟩) n cap) n vs) : Go.Sort.Holds id w g 0 vs.toArray := by
  obtain ⟨cur, hg, hs, hc⟩ := row_cells h
  intro j hj
  have hj' : j < vs.length := by simpa using hj
  have h6 := hc j _ (List.getElem?_eq_getElem hj')
  constructor
  · simp [World.cell?, hg, h6, hj']
  · simp [World.frozen?, hg]
/-- The world behind the sort: the row holds other values, draws, and new blocks. -/
def putW (w : World) (g nd : Nat) (vs : List Value) (os : Array Obj) : World := Go.Sort.grow (Go.Sort.putRow id (Go.Sort.ahead w nd) g 0 vs.toArray) os
theorem putW_size (w : World) (g nd : Nat) (vs : List Value) (os : Array Obj) : w.heap.size ≤ (putW w g nd vs os).heap.size := by
  simp [putW, Go.Sort.grow, Go.Sort.putRow, Go.Sort.mapBlock, Go.Sort.ahead]
theorem putW_at {g nd : Nat} {vs : List Value} {os : Array Obj} {cur : Array Value} {fr : Nat × Nat} (hg : w.heap[g]? = some (.cells cur e fr)) : (putW w g nd vs os).heap[g]? = some (.cells (Go.Sort.putCells id 0 vs.toArray cur) e fr) := by
  have hlt := (Array.getElem?_eq_some_iff.1 hg).1
  simp only [putW, Go.Sort.grow, Go.Sort.putRow, Go.Sort.mapBlock, Go.Sort.ahead]
  rw [Array.getElem?_append, if_pos (by simpa using hlt), Array.getElem?_modify, if_pos rfl, hg]
  rfl
theorem putW_other {g nd k : Nat} {vs : List Value} {os : Array Obj} (hk : k < w.heap.size) (hn : k ≠ g) : (putW w g nd vs os).heap[k]? = w.heap[k]? := by
  simp only [putW, Go.Sort.grow, Go.Sort.putRow, Go.Sort.mapBlock, Go.Sort.ahead]
  rw [Array.getElem?_append, if_pos (by simpa using hk), Array.getElem?_modify, if_neg (fun h => hn h.symm)]
theorem putW_row {nd : Nat} {os : Array Obj} (h : w.ownsRow B e size (.slice (some ⟨g, 0, none⟩) n cap) n vs) (hl : vs'.length = vs.length) : (putW w g nd vs' os).ownsRow B e size (.slice (some ⟨g, 0, none⟩) n cap) n vs' := by
  obtain ⟨h0, h | ⟨g', cap', cur, hv, hb, hg, h1, h2, h3, h4⟩⟩ := h
  · cases h.1
  · cases hv
    refine ⟨by rw [hl]; exact h0, .inr ⟨_, _, _, rfl, hb, putW_at hg, h1, h2, by simpa [Go.Sort.putCells] using h3, ?_⟩⟩
    have h5 := Nat.mul_le_mul_right size h1
    apply List.ext_getElem?
    intro j
    rw [List.getElem?_take]
    split
    · rename_i hj
      have hjc : j < cur.size := by omega
      have hjv : j < vs'.length := by omega
      simp [Go.Sort.putCells, hjc, hjv]
    · rename_i hj
      rw [List.getElem?_eq_none (by omega)]
end
theorem Sat.sorted {w : World} {B id g n cap size nd : Nat} {e : TypeId} {vs vs' : List Value} {H : HL} {os : Array Obj} (hs : Sat B w H) (hB : B ≤ w.heap.size) (hr : look H id = some (.row (some ⟨g, 0, none⟩) n cap vs e size)) (hl : vs'.length = vs.length) :
    Below B w (putW w g nd vs' os) ∧ Sat B (putW w g nd vs' os) ((id, .row (some ⟨g, 0, none⟩) n cap vs' e size) :: H) ∧ B ≤ (putW w g nd vs' os).heap.size ∧ Kd (fun _ => False) w (putW w g nd vs' os) := by
  have hok := hs.ok id _ hr
  have hlt := Ent.own_lt hok (b := g) rfl
  obtain ⟨cur, hg, _, _⟩ := row_cells hok
  refine ⟨⟨rfl, rfl, rfl, putW_size _ _ _ _ _, fun k hk => putW_other (by omega) (by omega), Nat.le_add_right _ _⟩, ?_, Nat.le_trans hB (putW_size _ _ _ _ _), ?_⟩
  · refine hs.turn hr (e' := .row (some ⟨g, 0, none⟩) n cap vs' e size) (putW_row hok hl) (fun k hk hne => putW_other hk fun h => hne (by rw [h]; rfl)) (fun b hb => .inl hb)
  · intro k o hk hc _
    by_cases h : k = g
    · subst h; rw [hg] at hk; cases hk; cases hc
    · rw [putW_other (Array.getElem?_eq_some_iff.1 hk).1 h]; exact hk
/-- A store into a field of an element of a row of the call's own. -/
theorem ol_storeRowF {P : Program} {N : Fr} {B : Nat} {w0 : World} {Q : Exit → Act → World → Prop} {al : AL} {H : HL} {ops rest : List Oper} {ty : TypeId} {pos : String} {after : Array Edge} {α : Type} {a : Option Addr} {n cap : Nat}
    {ad x : Operand} {t e : TypeId} {id size o i : Nat} {v : Value} {x0 : α} (E : Enc α) (xs : List α) (y : α) (hp : ev al ad = some (.pointer ((a.map (·.add (i * E.size))).map (·.add o)))) (hH : look H id = some (.row a n cap (E.enc xs) e size)) (hz : size = E.size)
    (hx : ev al x = some v) (hv : v.cells = #[v]) (h1 : one v = true) (hT : Size P t 1) (hx0 : xs[i]? = some x0) (ho : o < E.size) (hy : E.cells y = (E.cells x0).set o v)
    (k : OL P N B w0 ops rest Q al ((id, .row a n cap (E.enc (xs.set i y)) e size) :: H)) :
    OL P N B w0 ops ({ dst := none, op := .store t ad x, type := ty, pos, after, guard := none } :: rest) Q al H := by
  subst hz
  intro a0 w hst
  refine wpList_plain rfl fun K hK => ?_
  have hok : w.ownsRow B e E.size (.slice a n cap) n (E.enc xs) := hst.sat.ok _ _ hH
  have hlen : xs.length = n := (hst.sat.rd hH rfl).len
  have hi : i < n := by have := (List.getElem?_eq_some_iff.1 hx0).1; omega
  obtain ⟨h1', h2⟩ := hok
  rcases h2 with ⟨hv', hn⟩ | ⟨g, cap', cur, hv', hb, hg, hnc, hcm, hcs, htake⟩
  · omega
  cases hv'
  have hlt := (Array.getElem?_eq_some_iff.1 hg).1
  have hmul : i * E.size + E.size ≤ n * E.size := by
    have : i + 1 ≤ n := by omega
    have := Nat.mul_le_mul_right E.size this
    rw [Nat.add_mul] at this; omega
  have hcapm : n * E.size ≤ cap * E.size := Nat.mul_le_mul_right _ hnc
  obtain ⟨cur', r1, r2, r3⟩ := run_storeCells (P := P) g e [v] (i * E.size + o) 0 cur w hg (by simp only [List.length_cons, List.length_nil]; omega) (fun u hu => by simp at hu; subst hu; exact h1)
  have hst' : (storeVar t ⟨g, i * E.size + o, none⟩ v).run P w = .ok () { w with heap := w.heap.setIfInBounds g (.cells cur' e (0, 0)) } := by
    simp only [storeVar, Sem.run_bind, run_sizeOf hT, Result.andThen_ok, hv, List.size_toArray, List.length_cons, List.length_nil, Nat.zero_add, r1, ne_eq, not_true_eq_false, if_false]
  have hpe : a0.eval ad = .pointer (some ⟨g, i * E.size + o, none⟩) := by
    rw [hst.regs.eval hp]; simp [add_none]
  unfold Oper.wp
  simp only [execOp, Instr.storeAt, Instr.sureAddr, hpe, hst.regs.eval hx, Sem.run_bind, Sem.run_pure, Result.andThen_ok, hst', Oper.upon_skip]
  refine hK _ _ (k _ _ (hst.step hst.regs (Below.setBlk hst.below hb _) ?_ (by simpa using hst.base) (Kd.one g (fun k _ hk => setBlk_other w g k _ hk) (fun o ho => .inl (by rw [hg] at ho; cases ho; rfl)))))
  refine hst.sat.turn hH (e' := .row (some ⟨g, 0, none⟩) n cap (E.enc (xs.set i y)) e E.size) ?_ (fun k _ hk => setBlk_other w g k _ (fun e => hk (by simp [Ent.own, e]))) (fun b' hb' => .inl hb')
  refine ⟨by rw [E.enc_len, List.length_set, hlen], .inr ⟨g, cap, cur', rfl, hb, by simp [hlt], hnc, hcm, by rw [r2, hcs], ?_⟩⟩
  apply List.ext_getElem?
  intro j
  rw [E.enc_set xs _ y j (by omega), List.getElem?_take]
  have h3 := r3 j
  simp only [Nat.add_zero, List.length_cons, List.length_nil, Nat.zero_add] at h3
  by_cases hj : j < n * E.size
  · rw [if_pos hj, Array.getElem?_toList, h3]
    by_cases hr : i * E.size ≤ j ∧ j < i * E.size + E.size
    · rw [if_pos hr, hy, List.getElem?_set]
      by_cases hjo : j = i * E.size + o
      · subst hjo
        rw [if_pos (by omega), Nat.sub_self, if_pos (by omega), if_pos (by rw [E.len]; exact ho)]; rfl
      · rw [if_neg (by omega), if_neg (by omega)]
        have h4 : j = i * E.size + (j - i * E.size) := by omega
        cases h5 : (E.cells x0)[j - i * E.size]? with
        | none => have := List.getElem?_eq_none_iff.1 h5; rw [E.len] at this; omega
        | some u =>
          have h6 := E.enc_get xs i x0 hx0 _ u h5
          rw [← h4, ← htake, List.getElem?_take, if_pos hj, Array.getElem?_toList] at h6
          exact h6
    · rw [if_neg hr, if_neg (by omega), ← htake, List.getElem?_take, if_pos hj, Array.getElem?_toList]
  · rw [if_neg hj, if_neg (by omega), List.getElem?_eq_none (by rw [h1']; omega)]
theorem putRow_id {α : Type} [Inhabited α] (enc : α → Value) (w : World) (g : Nat) (d : Array α) : Go.Sort.putRow enc w g 0 d = Go.Sort.putRow id w g 0 (d.map enc) := by
  unfold Go.Sort.putRow Go.Sort.mapBlock
  congr 2
  funext o
  cases o <;> simp only [Go.Sort.onCells]
  congr 1
  unfold Go.Sort.putCells
  apply Array.ext (by simp)
  intro i h1 h2
  simp only [Array.getElem_mapIdx, Array.size_map, Nat.zero_le, true_and, Nat.zero_add, Nat.sub_zero]
  split
  · rename_i h; simp [h]
  · rfl
theorem holds_id {α : Type} [Inhabited α] {enc : α → Value} {w : World} {g : Nat} {d : Array α} (h : Go.Sort.Holds id w g 0 (d.map enc)) : Go.Sort.Holds enc w g 0 d := by
  intro j hj
  have := h j (by simpa using hj)
  simpa [hj] using this
end Go.Proofs.Ytjflbnbofedlkaa.Hx

/-
  slices.SortFunc of structs: the library's contract, for rows of the caller's.
-/


namespace Go.Proofs.Ytjflbnbofedlkaa
open Go Go.RowKit Go.Sort Hx
set_option linter.unusedVariables false
set_option linter.unusedSimpArgs false
theorem Below.world {w w' : World} (h : Below w.heap.size w w') : ∃ q os, w' = Go.Sort.grow (w.drewN q) os := by
  obtain ⟨h1, h2, h3, h4, h5, h6⟩ := h
  refine ⟨w'.drawn - w.drawn, w'.heap.extract w.heap.size w'.heap.size, ?_⟩
  have hh : w'.heap = w.heap ++ w'.heap.extract w.heap.size w'.heap.size := by
    apply Array.ext_getElem?
    intro k
    rw [Array.getElem?_append]
    by_cases hk : k < w.heap.size
    · rw [if_pos hk]; exact h5 k hk
    · rw [if_neg hk, Array.getElem?_extract]
      by_cases hk2 : k < w'.heap.size
      · rw [if_pos (by omega), show w.heap.size + (k - w.heap.size) = k by omega]
      · rw [if_neg (by omega), Array.getElem?_eq_none (by omega)]
  have hd : w'.drawn = w.drawn + (w'.drawn - w.drawn) := by omega
  cases w'
  simp only at h1 h2 h3 hh hd
  subst h1 h2 h3
  unfold Go.Sort.grow World.drewN
  simp only [World.mk.injEq]
  exact ⟨hh, trivial, hd, trivial, trivial⟩
theorem flat_enc {α : Type} [Inhabited α] (E : Enc α) (d : Array α) : (flatK E.cells E.size d).toList = E.enc d.toList := by
  have hk := E.len
  apply List.ext_getElem?
  intro j
  have hp := E.pos
  by_cases hj : j < d.size * E.size
  · have h1 : j / E.size < d.size := (Nat.div_lt_iff_lt_mul hp).2 hj
    have h2 : d.toList[j / E.size]? = some (d[j / E.size]!) := by
      rw [Array.getElem?_toList, Array.getElem?_eq_getElem h1, getElem!_pos d _ h1]
    have h3 : j % E.size < (E.cells (d[j / E.size]!)).length := by rw [hk]; exact Nat.mod_lt _ hp
    have h4 := E.enc_get d.toList (j / E.size) _ h2 (j % E.size) _ (List.getElem?_eq_getElem h3)
    rw [show j / E.size * E.size + j % E.size = j by rw [Nat.mul_comm]; exact Nat.div_add_mod j E.size] at h4
    rw [h4]
    have h5 := get_flatK E.cells E.size d j hj
    have h6 : j < (flatK E.cells E.size d).size := by simpa using hj
    rw [Array.getElem?_toList, Array.getElem?_eq_getElem h6]
    rw [getElem!_pos (flatK E.cells E.size d) j h6, getElem!_pos (E.cells d[j / E.size]!) (j % E.size) h3] at h5
    rw [h5]
  · rw [List.getElem?_eq_none (by simp; omega), List.getElem?_eq_none (by rw [E.enc_len]; simp; omega)]
def sortBy {α : Type} (cf : α → α → Int) (xs : List α) : List α := xs.mergeSort fun x y => !ltOf cf y x
theorem sortBy_len {α : Type} (cf : α → α → Int) (xs : List α) : (sortBy cf xs).length = xs.length := List.length_mergeSort _
section
variable {P : Program} {ρ : Go.Shelf.Ren} {α : Type} [Inhabited α]
theorem sortK_rows (E : Enc α) (L : SlLaysF0.n6 P ρ) (aE : ∀ w, (isAgg (ρ.t 24)).run P w = .ok true w) (zE : ∀ w, (Go.sizeOf (ρ.t 24)).run P w = .ok E.size w) (cf : α → α → Int) (hO : Go.Sort.SWO (ltOf cf)) (hT : ∀ x y, ltOf cf x y = false → ltOf cf y x = false → x = y) (g : Nat) (cb : Array Value)
    (eg : ∀ args w, (callFunc g args).run P w = .ok (.enter g args) w) (hcmp : ∀ w x y, Calls P g (#[.agg (E.cells x).toArray, .agg (E.cells y).toArray] ++ cb) w fun e w' => e = .returned (.int .i64 (cf x y)) ∧ Below w.heap.size w w')
    (B id : Nat) (a : Option Addr) (n c : Nat) (xs : List α) (T : TypeId) (H : HL) (w : World) (hB : B ≤ w.heap.size) (hs : Sat B w H) (hr : Hx.look H id = some (.row a n c (E.enc xs) T E.size)) (hn : 0 < n) (hsz : n < 4611686018427387904) :
    Calls P (ρ.f 6) #[.slice a n c, .func (.func g) #[] cb] w fun e w' => e = .returned (.tuple #[]) ∧ Below B w w' ∧ Sat B w' ((id, .row a n c (E.enc (sortBy cf xs)) T E.size) :: H) ∧ B ≤ w'.heap.size ∧ Kd (fun _ => False) w w' := by
  have hok := hs.ok id _ hr
  have hlen : xs.length = n := (hs.rd hr rfl).len
  obtain ⟨g', rfl⟩ : ∃ g', a = some ⟨g', 0, none⟩ := by
    obtain ⟨_, h | ⟨g', cap', cur, hv, _⟩⟩ := (hok : w.ownsRow B T E.size (.slice a n c) n (E.enc xs))
    · omega
    · cases hv; exact ⟨g', rfl⟩
  have hlt := (Ent.own_lt hok (b := g') rfl).2
  subst hlen
  have h2 := row_holds hok
  have hfl : flatK E.cells E.size xs.toArray = (E.enc xs).toArray := by
    apply Array.ext'
    rw [flat_enc]
  have hH : HoldsK E.cells E.size w g' 0 xs.toArray := by
    unfold HoldsK
    rw [hfl]; exact h2
  have hcm : CmpLays P g cb E.cells E.size cf g' 0 xs.toArray.size w := fun m os dk _ x y => by
    refine (hcmp _ x y).mono ?_
    rintro e w2 ⟨he, hb⟩
    exact ⟨he, hb.world⟩
  have hones : ∀ x, ∀ v ∈ E.cells x, v.oneCell' = true := fun x v hv => oneCell_of (E.ones x v hv)
  have h := AnyQ.slices_SortFunc_total L E.size aE zE E.cells E.len hones cf hO g cb g' 0 c xs.toArray w eg hcm hH hlt (by simpa using hsz) hT
  rw [List.size_toArray] at h
  refine h.mono ?_
  rintro e w' ⟨rfl, nd, os, rfl⟩
  have hw : sortWorldK E.cells E.size w g' 0 nd (xs.toArray.toList.mergeSort fun x y => !(ltOf cf) y x).toArray os = putW w g' nd (E.enc (sortBy cf xs)) os := by
    unfold sortWorldK putRowK putW sortBy
    congr 2
    apply Array.ext'
    rw [flat_enc]
  rw [hw]
  exact ⟨rfl, hs.sorted hB hr (by rw [E.enc_len, E.enc_len, sortBy_len])⟩
end
end Go.Proofs.Ytjflbnbofedlkaa

/-
  Places: plain part.
-/








namespace Go.Proofs.Ytjflbnbofedlkaa
open Go Hx
set_option linter.unusedVariables false
set_option linter.unusedSimpArgs false
/-! #### names in order -/
def bytesB (b : ByteArray) : List UInt8 := b.data.toList
def ofB (l : List UInt8) : ByteArray := ⟨l.toArray⟩
theorem ofB_bytesB (b : ByteArray) : ofB (bytesB b) = b := by simp [ofB, bytesB]
theorem bytesB_inj {x y : ByteArray} (h : bytesB x = bytesB y) : x = y := by rw [← ofB_bytesB x, h, ofB_bytesB]
theorem less_eq : ∀ (x y : List UInt8), Op.bytesLess x y = decide (x < y)
  | [], [] => by simp [Op.bytesLess]
  | _ :: _, [] => by simp [Op.bytesLess]
  | [], _ :: _ => by simp [Op.bytesLess]
  | a :: x, b :: y => by
    rw [Op.bytesLess, less_eq x y]
    simp only [List.cons_lt_cons_iff]
    by_cases h1 : a < b <;> by_cases h2 : a = b <;> by_cases h3 : x < y <;> simp [h1, h2, h3]
theorem sLt_iff {x y : ByteArray} : sLt x y = true ↔ bytesB x < bytesB y := by
  unfold sLt; rw [less_eq, ByteArray.toList_eq, ByteArray.toList_eq, decide_eq_true_iff]; rfl
theorem sLt_no {x y : ByteArray} : sLt x y = false ↔ ¬bytesB x < bytesB y := by rw [← sLt_iff]; simp
theorem compareB_lt : ∀ (x y : List UInt8), Lib.compareBytes x y < 0 ↔ x < y
  | [], [] => by simp [Lib.compareBytes]
  | _ :: _, [] => by simp [Lib.compareBytes]
  | [], _ :: _ => by simp [Lib.compareBytes]
  | a :: x, b :: y => by
    rw [Lib.compareBytes, List.cons_lt_cons_iff]
    by_cases h1 : a < b
    · simp [h1]
    · by_cases h2 : b < a
      · have : a ≠ b := fun h => by subst h; exact h1 h2
        simp [h1, h2, this]
      · have : a = b := UInt8.le_antisymm (UInt8.not_lt.1 h2) (UInt8.not_lt.1 h1)
        subst this
        rw [if_neg h1, if_neg h1, compareB_lt x y]
        simp [h1]
theorem compareB_zero : ∀ (x y : List UInt8), Lib.compareBytes x y = 0 → x = y
  | [], [], _ => rfl
  | _ :: _, [], h => by simp [Lib.compareBytes] at h
  | [], _ :: _, h => by simp [Lib.compareBytes] at h
  | a :: x, b :: y, h => by
    rw [Lib.compareBytes] at h
    by_cases h1 : a < b
    · rw [if_pos h1] at h; cases h
    · rw [if_neg h1] at h
      by_cases h2 : b < a
      · rw [if_pos h2] at h; cases h
      · rw [if_neg h2] at h
        rw [UInt8.le_antisymm (UInt8.not_lt.1 h2) (UInt8.not_lt.1 h1), compareB_zero x y h]
def cmpS (a b : ByteArray) : Int := Lib.compareBytes a.data.toList b.data.toList
/-! #### scores -/
structure ScoreR where
  name : ByteArray
  start : Int
  time : Int
deriving DecidableEq
structure PlaceR where
  rank : Int
  sc : ScoreR
def scf (a b : ScoreR) : Int := orL [cmpI a.time b.time, cmpI a.start b.start, cmpS a.name b.name]
def sclt (a b : ScoreR) : Bool := if a.time ≠ b.time then decide (a.time < b.time) else if a.start ≠ b.start then decide (a.start < b.start) else sLt a.name b.name
theorem sclt_iff {a b : ScoreR} : sclt a b = true ↔ a.time < b.time ∨ a.time = b.time ∧ (a.start < b.start ∨ a.start = b.start ∧ bytesB a.name < bytesB b.name) := by
  unfold sclt
  by_cases h1 : a.time = b.time
  · rw [if_neg (fun h => h h1)]
    by_cases h2 : a.start = b.start
    · rw [if_neg (fun h => h h2), sLt_iff]; simp [h1, h2]
    · rw [if_pos h2]; simp [h1, h2]
  · rw [if_pos h1]; simp [h1]
theorem sclt_no {a b : ScoreR} : sclt a b = false ↔ ¬(a.time < b.time ∨ a.time = b.time ∧ (a.start < b.start ∨ a.start = b.start ∧ bytesB a.name < bytesB b.name)) := by rw [← sclt_iff]; simp
theorem sclt_tot : TotO sclt := by
  refine ⟨fun a b h => ?_, fun a b c h1 h2 => ?_, fun a b h1 h2 => ?_⟩
  · rw [sclt_iff] at h; rw [sclt_no]
    rcases h with h | ⟨h, h | ⟨h3, h4⟩⟩
    · omega
    · omega
    · rintro (h5 | ⟨h5, h6 | ⟨h6, h7⟩⟩)
      · omega
      · omega
      · exact List.lt_irrefl _ (List.lt_trans h4 h7)
  · rw [sclt_iff] at *
    rcases h1 with h | ⟨h, h | ⟨h3, h4⟩⟩ <;> rcases h2 with k | ⟨k, k | ⟨k3, k4⟩⟩
    any_goals omega
    exact .inr ⟨by omega, .inr ⟨by omega, List.lt_trans h4 k4⟩⟩
  · rw [sclt_no] at *
    have e1 : a.time = b.time := by
      by_cases h3 : a.time = b.time
      · exact h3
      · exfalso; omega
    have e2 : a.start = b.start := by
      by_cases h3 : a.start = b.start
      · exact h3
      · exfalso; omega
    have e3 : a.name = b.name := by
      refine bytesB_inj (List.le_antisymm (List.not_lt.1 fun h => h2 ?_) (List.not_lt.1 fun h => h1 ?_))
      · exact .inr ⟨e1.symm, .inr ⟨e2.symm, h⟩⟩
      · exact .inr ⟨e1, .inr ⟨e2, h⟩⟩
    cases a; cases b; simp at e1 e2 e3; subst e1 e2 e3; rfl
theorem scf_lt (a b : ScoreR) : ltOf scf a b = sclt a b := by
  have h : scf a b < 0 ↔ sclt a b = true := by
    rw [sclt_iff]
    unfold scf orL orL orL orL cmpI
    have h3 := compareB_lt a.name.data.toList b.name.data.toList
    have h4 := compareB_zero a.name.data.toList b.name.data.toList
    unfold cmpS bytesB
    by_cases e1 : a.time < b.time
    · simp [e1]
    · by_cases e2 : b.time < a.time
      · have e3 : a.time ≠ b.time := by omega
        simp [e1, e2, e3]
      · have e3 : a.time = b.time := by omega
        by_cases f1 : a.start < b.start
        · simp [e3, f1]
        · by_cases f2 : b.start < a.start
          · have f3 : a.start ≠ b.start := by omega
            simp [e3, f1, f2, f3]
          · have f3 : a.start = b.start := by omega
            simp only [e3, f3, Int.lt_irrefl, if_false, ne_eq, not_true_eq_false, false_or, true_and]
            by_cases g : Lib.compareBytes a.name.data.toList b.name.data.toList = 0
            · simp [g]; rw [Array.ext' (h4 g)]; exact Array.le_refl _
            · simp [g, h3]
  unfold ltOf
  cases h2 : sclt a b with
  | true => simpa using h.2 h2
  | false =>
    have h6 : ¬scf a b < 0 := fun h5 => (by rw [h.1 h5] at h2; cases h2)
    exact decide_eq_false h6
theorem scf_swo : Go.Sort.SWO (ltOf scf) := by
  refine ⟨fun x => ?_, fun x y z h1 h2 => ?_, fun x y z h1 h2 => ?_⟩
  · rw [scf_lt]
    cases h : sclt x x with
    | false => rfl
    | true => have := sclt_tot.asym x x h; rw [h] at this; cases this
  · rw [scf_lt] at *; exact sclt_tot.trans _ _ _ h1 h2
  · rw [scf_lt] at *; exact sclt_tot.le_trans h2 h1
theorem scf_tot (x y : ScoreR) (h1 : ltOf scf x y = false) (h2 : ltOf scf y x = false) : x = y := by
  rw [scf_lt] at h1 h2; exact sclt_tot.total x y h1 h2
theorem sortBy_scf (xs : List ScoreR) : sortBy scf xs = sortL sclt xs := by
  unfold sortBy sortL
  congr 1
  funext x y
  rw [scf_lt]
/-! #### the best of each name -/
instance (n : ByteArray) (l : List ByteArray) : Decidable (n ∈ l) := @List.instDecidableMemOfLawfulBEq _ instBEqOfDecidableEq _ n l
/-- The first of each name. -/
def firsts : List ScoreR → List ByteArray → List ScoreR
  | [], _ => []
  | x :: r, seen => if x.name ∈ seen then firsts r seen else x :: firsts r (x.name :: seen)
theorem firsts_sub : ∀ (l : List ScoreR) (seen : List ByteArray), (firsts l seen).Sublist l
  | [], _ => List.Sublist.refl _
  | x :: r, seen => by
    rw [firsts]
    by_cases h : x.name ∈ seen
    · rw [if_pos h]; exact (firsts_sub r seen).cons _
    · rw [if_neg h]; exact (firsts_sub r _).cons_cons _
theorem firsts_name : ∀ (l : List ScoreR) (seen : List ByteArray), (∀ x ∈ firsts l seen, x.name ∉ seen) ∧ ((firsts l seen).map (·.name)).Nodup
  | [], _ => ⟨fun x h => by simp [firsts] at h, List.nodup_nil⟩
  | x :: r, seen => by
    rw [firsts]
    by_cases h : x.name ∈ seen
    · rw [if_pos h]; exact firsts_name r seen
    · rw [if_neg h]
      obtain ⟨h1, h2⟩ := firsts_name r (x.name :: seen)
      refine ⟨fun y hy => ?_, ?_⟩
      · rcases List.mem_cons.1 hy with rfl | hy
        · exact h
        · exact fun hs => h1 y hy (List.mem_cons_of_mem _ hs)
      · rw [List.map_cons]
        refine List.nodup_cons.2 ⟨fun hm => ?_, h2⟩
        obtain ⟨y, hy, hyn⟩ := List.mem_map.1 hm
        exact h1 y hy (by rw [hyn]; exact List.mem_cons_self ..)
/-- In a list in order the first of a name is the least of that name. -/
theorem firsts_mem : ∀ (l : List ScoreR) (seen : List ByteArray), Srt sclt l → ∀ x, x ∈ firsts l seen ↔ x ∈ l ∧ x.name ∉ seen ∧ ∀ y ∈ l, y.name = x.name → sclt y x = false
  | [], seen, _, x => by simp [firsts]
  | z :: r, seen, hs, x => by
    have hs' := List.pairwise_cons.1 hs
    have hself : sclt x x = false := by
      cases h : sclt x x with
      | false => rfl
      | true => have := sclt_tot.asym x x h; rw [h] at this; cases this
    rw [firsts]
    by_cases h : z.name ∈ seen
    · rw [if_pos h, firsts_mem r seen hs'.2 x]
      constructor
      · rintro ⟨h1, h2, h3⟩
        refine ⟨List.mem_cons_of_mem _ h1, h2, fun y hy hyn => ?_⟩
        rcases List.mem_cons.1 hy with rfl | hy
        · rw [hyn] at h; exact absurd h h2
        · exact h3 y hy hyn
      · rintro ⟨h1, h2, h3⟩
        rcases List.mem_cons.1 h1 with rfl | h1
        · exact absurd h h2
        · exact ⟨h1, h2, fun y hy hyn => h3 y (List.mem_cons_of_mem _ hy) hyn⟩
    · rw [if_neg h, List.mem_cons, firsts_mem r (z.name :: seen) hs'.2 x]
      constructor
      · rintro (rfl | ⟨h1, h2, h3⟩)
        · refine ⟨List.mem_cons_self .., h, fun y hy hyn => ?_⟩
          rcases List.mem_cons.1 hy with rfl | hy
          · exact hself
          · exact hs'.1 y hy
        · rw [List.mem_cons, not_or] at h2
          refine ⟨List.mem_cons_of_mem _ h1, h2.2, fun y hy hyn => ?_⟩
          rcases List.mem_cons.1 hy with rfl | hy
          · exact absurd hyn.symm h2.1
          · exact h3 y hy hyn
      · rintro ⟨h1, h2, h3⟩
        by_cases hn : x.name = z.name
        · left
          have a1 := h3 z (List.mem_cons_self ..) hn.symm
          rcases List.mem_cons.1 h1 with h1 | h1
          · exact h1
          · exact (sclt_tot.total z x a1 (hs'.1 x h1)).symm
        · right
          rcases List.mem_cons.1 h1 with rfl | h1
          · exact absurd rfl hn
          · exact ⟨h1, by rw [List.mem_cons, not_or]; exact ⟨hn, h2⟩, fun y hy hyn => h3 y (List.mem_cons_of_mem _ hy) hyn⟩
theorem nodup_of_map {α β : Type} {f : α → β} {l : List α} (h : (l.map f).Nodup) : l.Nodup := List.Pairwise.of_map f (fun a b hab he => hab (congrArg f he)) h
/-- A list that holds of each name the least is, in order, this. -/
theorem best_is {l m : List ScoreR} (hn : (m.map (·.name)).Nodup) (hm : ∀ x, x ∈ m ↔ x ∈ l ∧ ∀ y ∈ l, y.name = x.name → sclt y x = false) : sortL sclt m = firsts (sortL sclt l) [] := by
  have hS := sortL_srt sclt_tot l
  refine (sortL_of sclt_tot (hS.sublist (firsts_sub _ _)) ((List.perm_ext_iff_of_nodup (nodup_of_map (firsts_name _ _).2) (nodup_of_map hn)).2 fun x => ?_)).symm
  rw [firsts_mem _ _ hS, hm, (sortL_perm l).mem_iff]
  constructor
  · rintro ⟨h1, _, h3⟩; exact ⟨h1, fun y hy => h3 y ((sortL_perm l).mem_iff.2 hy)⟩
  · rintro ⟨h1, h3⟩; exact ⟨h1, by simp, fun y hy => h3 y ((sortL_perm l).mem_iff.1 hy)⟩
/-! #### the map of the best -/
abbrev BM := List (ByteArray × ScoreR)
def bestM (D : BM) (x : ScoreR) : BM := match pO D x.name with | none => pS D x.name x | some y => if scf x y < 0 then pS D x.name x else D
structure BestOk (l : List ScoreR) (D : BM) : Prop where
  nd : (pKeys D).Nodup
  is : ∀ n x, pO D n = some x ↔ x ∈ l ∧ x.name = n ∧ ∀ y ∈ l, y.name = n → sclt y x = false
theorem BestOk.nil : BestOk [] [] := ⟨List.nodup_nil, fun n x => by simp [pO]⟩
theorem scf_neg {x y : ScoreR} : scf x y < 0 ↔ sclt x y = true := by rw [← scf_lt]; unfold ltOf; simp
theorem sclt_self (x : ScoreR) : sclt x x = false := by
  cases h : sclt x x with
  | false => rfl
  | true => have := sclt_tot.asym x x h; rw [h] at this; cases this
theorem BestOk.put {l : List ScoreR} {D : BM} {x : ScoreR} (h : BestOk l D) (hx : ∀ y, pO D x.name = some y → sclt x y = true) : BestOk (l ++ [x]) (pS D x.name x) := by
  refine ⟨nodup_pS h.nd, fun n z => ?_⟩
  rw [pO_pS]
  by_cases hn : x.name = n
  · subst hn
    rw [if_pos rfl]
    have low : ∀ y ∈ l, y.name = x.name → sclt y x = false := fun y hy hyn => by
      cases hD : pO D x.name with
      | none =>
        exfalso
        -- some least one of that name is there
        have hne : ∃ z, z ∈ l ∧ z.name = x.name ∧ ∀ y ∈ l, y.name = x.name → sclt y z = false := by
          have hmm : y ∈ sortL sclt (l.filter fun z => z.name = x.name) := by rw [(sortL_perm _).mem_iff, List.mem_filter]; exact ⟨hy, by simpa using hyn⟩
          have hso := sortL_srt sclt_tot (l.filter fun z => z.name = x.name)
          have hpm := sortL_perm (lt := sclt) (l.filter fun z => z.name = x.name)
          cases hL : sortL sclt (l.filter fun z => z.name = x.name) with
          | nil => rw [hL] at hmm; simp at hmm
          | cons z r =>
            rw [hL] at hso hpm
            have hz := hpm.mem_iff.1 (List.mem_cons_self ..)
            rw [List.mem_filter] at hz
            refine ⟨z, hz.1, by simpa using hz.2, fun u hu hun => ?_⟩
            have hu2 := hpm.mem_iff.2 (List.mem_filter.2 ⟨hu, by simpa using hun⟩)
            rcases List.mem_cons.1 hu2 with rfl | hu2
            · exact sclt_self _
            · exact (List.pairwise_cons.1 hso).1 u hu2
        obtain ⟨z, h1, h2, h3⟩ := hne
        have := (h.is x.name z).2 ⟨h1, h2, h3⟩
        rw [hD] at this; cases this
      | some z =>
        have h1 := (h.is x.name z).1 hD
        have h2 := hx z hD
        cases hyx : sclt y x with
        | false => rfl
        | true => have := sclt_tot.trans _ _ _ hyx h2; rw [h1.2.2 y hy hyn] at this; cases this
    constructor
    · intro he
      cases he
      refine ⟨List.mem_append_right _ (List.mem_singleton.2 rfl), rfl, fun y hy hyn => ?_⟩
      rcases List.mem_append.1 hy with hy | hy
      · exact low y hy hyn
      · rw [List.mem_singleton.1 hy]; exact sclt_self _
    · rintro ⟨h1, h2, h3⟩
      have a1 := h3 x (List.mem_append_right _ (List.mem_singleton.2 rfl)) rfl
      rcases List.mem_append.1 h1 with h1 | h1
      · rw [sclt_tot.total x z a1 (low z h1 h2)]
      · rw [List.mem_singleton.1 h1]
  · rw [if_neg hn, h.is]
    constructor
    · rintro ⟨h1, h2, h3⟩
      refine ⟨List.mem_append_left _ h1, h2, fun y hy hyn => ?_⟩
      rcases List.mem_append.1 hy with hy | hy
      · exact h3 y hy hyn
      · rw [List.mem_singleton.1 hy] at hyn; exact absurd hyn hn
    · rintro ⟨h1, h2, h3⟩
      refine ⟨?_, h2, fun y hy => h3 y (List.mem_append_left _ hy)⟩
      rcases List.mem_append.1 h1 with h1 | h1
      · exact h1
      · rw [List.mem_singleton.1 h1] at h2; exact absurd h2 hn
theorem BestOk.keep {l : List ScoreR} {D : BM} {x y : ScoreR} (h : BestOk l D) (hD : pO D x.name = some y) (hx : sclt x y = false) : BestOk (l ++ [x]) D := by
  refine ⟨h.nd, fun n z => ?_⟩
  have hy := (h.is _ _).1 hD
  rw [h.is]
  constructor
  · rintro ⟨h1, h2, h3⟩
    refine ⟨List.mem_append_left _ h1, h2, fun u hu hun => ?_⟩
    rcases List.mem_append.1 hu with hu | hu
    · exact h3 u hu hun
    · rw [List.mem_singleton.1 hu] at hun ⊢
      have e : z = y := by
        have h4 := (h.is n z).2 ⟨h1, h2, h3⟩
        rw [← hun, hD] at h4; cases h4; rfl
      rw [e]; exact hx
  · rintro ⟨h1, h2, h3⟩
    have h3' : ∀ u ∈ l, u.name = n → sclt u z = false := fun u hu => h3 u (List.mem_append_left _ hu)
    rcases List.mem_append.1 h1 with h1 | h1
    · exact ⟨h1, h2, h3'⟩
    · have e : z = x := List.mem_singleton.1 h1
      subst e
      have h5 := h3' y hy.1 (by rw [hy.2.1, h2])
      have e2 := sclt_tot.total _ _ hx h5
      exact ⟨e2 ▸ hy.1, h2, h3'⟩
def valsB (D : BM) : List ScoreR := D.map (·.2)
theorem BestOk.end_ {l : List ScoreR} {D : BM} (h : BestOk l D) : sortL sclt (valsB D) = firsts (sortL sclt l) [] := by
  have hmem : ∀ x, x ∈ valsB D ↔ pO D x.name = some x := fun x => by
    constructor
    · intro hx
      obtain ⟨⟨n, z⟩, h1, h2⟩ := List.mem_map.1 hx
      dsimp only at h2; subst h2
      have h3 := pO_of h.nd h1
      rw [((h.is n z).1 h3).2.1]; exact h3
    · intro hx
      exact List.mem_map.2 ⟨_, pO_mem hx, rfl⟩
  have hnames : (valsB D).map (·.name) = pKeys D := by
    unfold valsB pKeys
    rw [List.map_map]
    apply List.map_congr_left
    rintro ⟨n, z⟩ hz
    exact ((h.is n z).1 (pO_of h.nd hz)).2.1
  refine best_is (by rw [hnames]; exact h.nd) fun x => ?_
  rw [hmem, h.is]
  simp
/-! #### ranks -/
def ranksA : List ScoreR → Int → Option PlaceR → List PlaceR
  | [], _, _ => []
  | x :: r, i, p =>
    let k := match p with | some q => if q.sc.time = x.time then q.rank else i + 1 | none => i + 1
    ⟨k, x⟩ :: ranksA r (i + 1) (some ⟨k, x⟩)
def ranksL (l : List ScoreR) : List PlaceR := ranksA l 0 none
/-- The ranks of the first k. -/
def rankN (l : List ScoreR) : Nat → Int
  | 0 => 1
  | k + 1 => match l[k]?, l[k + 1]? with | some x, some y => if x.time = y.time then rankN l k else (k : Int) + 2 | _, _ => 0
def placesN (l : List ScoreR) (k : Nat) : List PlaceR := (List.range k).filterMap fun i => (l[i]?).map fun x => ⟨rankN l i, x⟩
theorem placesN_len {l : List ScoreR} : ∀ {k : Nat}, k ≤ l.length → (placesN l k).length = k
  | 0, _ => rfl
  | k + 1, h => by
    have h1 := List.getElem?_eq_getElem (l := l) (i := k) (by omega)
    unfold placesN
    rw [List.range_succ, List.filterMap_append, List.length_append, show (List.filterMap (fun i => (l[i]?).map fun x => (⟨rankN l i, x⟩ : PlaceR)) (List.range k)).length = k from placesN_len (by omega)]
    simp [h1]
theorem placesN_succ {l : List ScoreR} {k : Nat} {x : ScoreR} (h : l[k]? = some x) : placesN l (k + 1) = placesN l k ++ [⟨rankN l k, x⟩] := by
  unfold placesN
  rw [List.range_succ, List.filterMap_append]
  simp [h]
theorem placesN_get {l : List ScoreR} : ∀ {k i : Nat} {p : PlaceR}, k ≤ l.length → (placesN l k)[i]? = some p → ∃ x, l[i]? = some x ∧ p = ⟨rankN l i, x⟩
  | 0, i, p, _, h => by simp [placesN] at h
  | k + 1, i, p, hk, h => by
    have h1 := List.getElem?_eq_getElem (l := l) (i := k) (by omega)
    rw [placesN_succ h1, List.getElem?_append] at h
    rw [placesN_len (by omega)] at h
    by_cases hi : i < k
    · rw [if_pos hi] at h; exact placesN_get (by omega) h
    · rw [if_neg hi] at h
      have hik : i = k := by
        have := (List.getElem?_eq_some_iff.1 h).1
        simp at this; omega
      subst hik
      rw [Nat.sub_self] at h
      simp at h
      exact ⟨_, h1, h.symm⟩
theorem rankN_eq {l : List ScoreR} {k : Nat} {x y : ScoreR} (hx : l[k]? = some x) (hy : l[k + 1]? = some y) : rankN l (k + 1) = if x.time = y.time then rankN l k else (k : Int) + 2 := by rw [rankN, hx, hy]
def placesS (l : List ScoreR) : List PlaceR := placesN (firsts (sortL sclt l) []) (firsts (sortL sclt l) []).length
def chkEn (x : ScoreR) : Int := if nameB x.name = false then 8 else if inB x.start 0 86399999999 = false ∨ inB x.time 1 1000000000 = false then 9 else 0
def placesR (l : List ScoreR) : List PlaceR × Int := if l.length > 5000 then ([], 3) else if chkE (fun _ x => chkEn x) none l ≠ 0 then ([], chkE (fun _ x => chkEn x) none l) else (placesS l, 0)
/-! #### as the program and the reference go -/
/-- The places with ranks up to k, the rest without. -/
def rowP (S : List ScoreR) (k : Nat) : List PlaceR := placesN S k ++ (S.drop k).map fun x => ⟨0, x⟩
theorem rowP_len {S : List ScoreR} {k : Nat} (hk : k ≤ S.length) : (rowP S k).length = S.length := by
  rw [rowP, List.length_append, placesN_len hk, List.length_map, List.length_drop]; omega
theorem rowP_get {S : List ScoreR} {k : Nat} {p : PlaceR} (hk : k ≤ S.length) (h : (rowP S k)[k]? = some p) : ∃ x, S[k]? = some x ∧ p = ⟨0, x⟩ := by
  unfold rowP at h
  rw [List.getElem?_append_right (by rw [placesN_len hk]; omega), placesN_len hk, Nat.sub_self, List.getElem?_map, List.getElem?_drop] at h
  obtain ⟨x, h1, h2⟩ := Option.map_eq_some_iff.1 h
  exact ⟨x, by simpa using h1, h2.symm⟩
theorem rowP_set {S : List ScoreR} {k : Nat} {x : ScoreR} {r : Int} (hx : S[k]? = some x) (hr : r = rankN S k) : (rowP S k).set k ⟨r, x⟩ = rowP S (k + 1) := by
  have hk := (List.getElem?_eq_some_iff.1 hx).1
  unfold rowP
  rw [placesN_succ hx, List.set_append_right _ _ (by rw [placesN_len (by omega)]; omega), placesN_len (by omega), Nat.sub_self, drop_of hx, List.map_cons, List.set_cons_zero, List.append_assoc, hr]
  rfl
theorem rowP_prev {S : List ScoreR} {k : Nat} {p q : PlaceR} (hk : k ≤ S.length) (h0 : 0 < k) (h : ((rowP S k).set k q)[k - 1]? = some p) : ∃ y, S[k - 1]? = some y ∧ p = ⟨rankN S (k - 1), y⟩ := by
  rw [List.getElem?_set_ne (by omega)] at h
  unfold rowP at h
  rw [List.getElem?_append_left (by rw [placesN_len hk]; omega)] at h
  exact placesN_get hk h
theorem set_get {α : Type} {l : List α} {k : Nat} {a b p : α} (ha : l[k]? = some a) (h : (l.set k b)[k]? = some p) : p = b := by
  rw [List.getElem?_set_self (List.getElem?_eq_some_iff.1 ha).1] at h
  cases h; rfl
theorem rank_next {S : List ScoreR} {k : Nat} {x y : ScoreR} (h0 : 0 < k) (hy : S[k - 1]? = some y) (hx : S[k]? = some x) : rankN S k = if y.time = x.time then rankN S (k - 1) else (k : Int) + 1 := by
  obtain ⟨j, rfl⟩ : ∃ j, k = j + 1 := ⟨k - 1, by omega⟩
  rw [Nat.add_sub_cancel] at hy ⊢
  rw [rankN_eq hy hx]
  by_cases h : y.time = x.time
  · rw [if_pos h, if_pos h]
  · rw [if_neg h, if_neg h]; omega
theorem rank_zero (S : List ScoreR) : rankN S 0 = 1 := rfl
/-- What the reference has seen. -/
def SeenB (D : List (ByteArray × Bool)) (seen : List ByteArray) : Prop := ∀ n, pO D n = if n ∈ seen then some true else none
theorem SeenB.nil : SeenB [] [] := fun n => by rw [if_neg (by simp)]; rfl
theorem SeenB.put {D : List (ByteArray × Bool)} {seen : List ByteArray} (h : SeenB D seen) (n : ByteArray) : SeenB (pS D n true) (n :: seen) := fun m => by
  rw [pO_pS]
  by_cases hn : n = m
  · rw [if_pos hn, if_pos (by rw [hn]; exact List.mem_cons_self ..)]
  · rw [if_neg hn, h m]
    by_cases hm : m ∈ seen
    · rw [if_pos hm, if_pos (List.mem_cons_of_mem _ hm)]
    · rw [if_neg hm, if_neg (by rw [List.mem_cons]; rintro (h1 | h1); exact hn h1.symm; exact hm h1)]
theorem SeenB.get {D : List (ByteArray × Bool)} {seen : List ByteArray} (h : SeenB D seen) (n : ByteArray) : (pO D n).getD false = decide (n ∈ seen) := by
  rw [h n]
  by_cases hm : n ∈ seen
  · rw [if_pos hm, decide_eq_true hm]; rfl
  · rw [if_neg hm, decide_eq_false hm]; rfl
theorem firsts_skip {S F : List ScoreR} {k j : Nat} {seen : List ByteArray} {x : ScoreR} (h : firsts (S.drop k) seen = F.drop j) (hx : S[k]? = some x) (hm : x.name ∈ seen) : firsts (S.drop (k + 1)) seen = F.drop j := by
  rw [drop_of hx, firsts, if_pos hm] at h; exact h
theorem firsts_take {S F : List ScoreR} {k j : Nat} {seen : List ByteArray} {x : ScoreR} (h : firsts (S.drop k) seen = F.drop j) (hx : S[k]? = some x) (hm : x.name ∉ seen) : F[j]? = some x ∧ firsts (S.drop (k + 1)) (x.name :: seen) = F.drop (j + 1) := by
  rw [drop_of hx, firsts, if_neg hm] at h
  have h1 : F[j]? = some x := by
    have := congrArg (fun l => l[0]?) h
    simpa using this.symm
  rw [drop_of h1, List.cons.injEq] at h
  exact ⟨h1, h.2⟩
theorem firsts_done {S F : List ScoreR} {k j : Nat} {seen : List ByteArray} (h : firsts (S.drop k) seen = F.drop j) (hk : S.length ≤ k) : F.length ≤ j := by
  rw [List.drop_eq_nil_of_le hk, firsts] at h
  have := congrArg List.length h
  simp at this; omega
theorem valsB_get {D : BM} {j : Nat} {n : ByteArray} {v : ScoreR} (h : D[j]? = some (n, v)) : (valsB D)[j]? = some v := by rw [valsB, List.getElem?_map, h]; rfl
theorem valsB_len (D : BM) : (valsB D).length = D.length := by rw [valsB, List.length_map]
theorem placesR_3 {l : List ScoreR} (h : l.length > 5000) : placesR l = ([], 3) := if_pos h
theorem placesR_e {l : List ScoreR} (h : ¬l.length > 5000) (h2 : chkE (fun _ x => chkEn x) none l ≠ 0) : placesR l = ([], chkE (fun _ x => chkEn x) none l) := by rw [placesR, if_neg h, if_pos h2]
theorem placesR_0 {l : List ScoreR} (h : ¬l.length > 5000) (h2 : chkE (fun _ x => chkEn x) none l = 0) : placesR l = (placesS l, 0) := by rw [placesR, if_neg h, if_neg (fun h3 => h3 h2)]
def zS : ScoreR := ⟨⟨#[]⟩, 0, 0⟩
theorem rk_prev {F : List ScoreR} {j : Nat} {p : PlaceR} (hj : j ≤ F.length) (h0 : 0 < (j : Int)) (hp : (placesN F j)[((j : Int) - 1).toNat]? = some p) : ∃ y, F[j - 1]? = some y ∧ p = ⟨rankN F (j - 1), y⟩ := by
  rw [show ((j : Int) - 1).toNat = j - 1 by omega] at hp
  exact placesN_get hj hp
theorem rk_same {F : List ScoreR} {j : Nat} {x : ScoreR} {p q : PlaceR} (hj : j ≤ F.length) (h0 : 0 < (j : Int)) (hx : F[j]? = some x) (hp : (placesN F j)[((j : Int) - 1).toNat]? = some p) (hq : (placesN F j)[((j : Int) - 1).toNat]? = some q) (ht : p.sc.time = x.time) : rankN F j = q.rank := by
  rw [hp] at hq; cases hq
  obtain ⟨y, hy, rfl⟩ := rk_prev hj h0 hp
  rw [rank_next (by omega) hy hx, if_pos ht]
theorem rk_new {F : List ScoreR} {j : Nat} {x : ScoreR} {p : PlaceR} (hj : j ≤ F.length) (h0 : 0 < (j : Int)) (hx : F[j]? = some x) (hp : (placesN F j)[((j : Int) - 1).toNat]? = some p) (ht : ¬p.sc.time = x.time) : rankN F j = (j : Int) + 1 := by
  obtain ⟨y, hy, rfl⟩ := rk_prev hj h0 hp
  rw [rank_next (by omega) hy hx, if_neg ht]
theorem rk_first {F : List ScoreR} {j : Nat} (h0 : ¬0 < (j : Int)) : rankN F j = (j : Int) + 1 := by
  obtain rfl : j = 0 := by omega
  rfl
theorem pS_le {α β : Type} [DecidableEq α] (k : α) (v : β) : ∀ D : List (α × β), (pS D k v).length ≤ D.length + 1
  | [] => by simp [pS]
  | (a, b) :: r => by
    rw [pS]
    split
    · simp
    · have := pS_le k v r; simp only [List.length_cons]; omega
theorem take_next {α : Type} {l : List α} {k : Nat} {x : α} (h : l[k]? = some x) : l.take (k + 1) = l.take k ++ [x] := by
  obtain ⟨h1, rfl⟩ := List.getElem?_eq_some_iff.1 h
  exact List.take_succ_eq_append_getElem h1
section
variable {S : List ScoreR} {k : Nat} {x : ScoreR} {p q r s : PlaceR}
theorem rowA (hx : S[k]? = some x) (h0 : 0 < (k : Int)) (hp : ((rowP S k).set k ⟨(k : Int) + 1, x⟩)[k]? = some p) (hq : ((rowP S k).set k ⟨(k : Int) + 1, x⟩)[((k : Int) - 1).toNat]? = some q) (hr : ((rowP S k).set k ⟨(k : Int) + 1, x⟩)[((k : Int) - 1).toNat]? = some r) (hs : ((rowP S k).set k ⟨(k : Int) + 1, x⟩)[k]? = some s) (ht : p.sc.time = q.sc.time) :
    ((rowP S k).set k ⟨(k : Int) + 1, x⟩).set k ⟨r.rank, s.sc⟩ = rowP S (k + 1) := by
  have hk := (List.getElem?_eq_some_iff.1 hx).1
  rw [hp] at hs; cases hs
  rw [hq] at hr; cases hr
  rw [show ((k : Int) - 1).toNat = k - 1 by omega] at hq
  obtain ⟨y, hy, rfl⟩ := rowP_prev (by omega) (by omega) hq
  have hpl : p = ⟨(k : Int) + 1, x⟩ := by
    have h1 := (List.getElem?_eq_some_iff.1 hp).1
    rw [List.length_set] at h1
    rw [List.getElem?_set_self h1] at hp
    cases hp; rfl
  subst hpl
  rw [List.set_set]
  exact rowP_set hx (by rw [rank_next (by omega) hy hx, if_pos ht.symm])
theorem rowB (hx : S[k]? = some x) (h0 : 0 < (k : Int)) (hp : ((rowP S k).set k ⟨(k : Int) + 1, x⟩)[k]? = some p) (hq : ((rowP S k).set k ⟨(k : Int) + 1, x⟩)[((k : Int) - 1).toNat]? = some q) (ht : ¬p.sc.time = q.sc.time) :
    (rowP S k).set k ⟨(k : Int) + 1, x⟩ = rowP S (k + 1) := by
  have hk := (List.getElem?_eq_some_iff.1 hx).1
  rw [show ((k : Int) - 1).toNat = k - 1 by omega] at hq
  obtain ⟨y, hy, rfl⟩ := rowP_prev (by omega) (by omega) hq
  have hpl : p = ⟨(k : Int) + 1, x⟩ := by
    have h1 := (List.getElem?_eq_some_iff.1 hp).1
    rw [List.length_set] at h1
    rw [List.getElem?_set_self h1] at hp
    cases hp; rfl
  subst hpl
  exact rowP_set hx (by rw [rank_next (by omega) hy hx, if_neg (fun h => ht h.symm)])
theorem rowC (hx : S[k]? = some x) (h0 : ¬0 < (k : Int)) : (rowP S k).set k ⟨(k : Int) + 1, x⟩ = rowP S (k + 1) := rowP_set hx (rk_first h0).symm
end
theorem rowP_sc {S : List ScoreR} {k : Nat} {p : PlaceR} (hk : k ≤ S.length) (h : (rowP S k)[k]? = some p) : S[k]? = some p.sc := by
  obtain ⟨x, h1, rfl⟩ := rowP_get hk h
  exact h1
end Go.Proofs.Ytjflbnbofedlkaa

/-
  Contracts of functions of package slices, at int.
-/


namespace Go.Proofs.Ytjflbnbofedlkaa
open Go Go.RowKit Hx
set_option linter.unusedVariables false
set_option linter.unusedSimpArgs false

theorem list_ne_of_get {α : Type} {xs ys : List α} {k : Nat} {x y : α} (hx : xs[k]? = some x) (hy : ys[k]? = some y) (h : x ≠ y) : xs ≠ ys := by
  intro e; subst e; rw [hx] at hy; exact h (by cases hy; rfl)


def maxV : List Int → Int
  | [] => 0
  | x :: r => r.foldl max x
theorem maxV_snoc {ys : List Int} {x : Int} (h : ys ≠ []) : maxV (ys ++ [x]) = max (maxV ys) x := by
  cases ys with
  | nil => exact absurd rfl h
  | cons y r => simp [maxV]
theorem foldl_max_ge : ∀ (r : List Int) (x : Int), x ≤ r.foldl max x
  | [], x => by simp
  | y :: r, x => by
    have := foldl_max_ge r (max x y)
    simp only [List.foldl_cons]; omega
theorem foldl_max_mem : ∀ (r : List Int) (x y : Int), y ∈ r → y ≤ r.foldl max x
  | z :: r, x, y, h => by
    simp only [List.foldl_cons]
    rcases List.mem_cons.1 h with rfl | h
    · have := foldl_max_ge r (max x y); omega
    · exact foldl_max_mem r _ y h
theorem foldl_max_in : ∀ (r : List Int) (x : Int), r.foldl max x = x ∨ r.foldl max x ∈ r
  | [], x => .inl rfl
  | y :: r, x => by
    simp only [List.foldl_cons]
    rcases foldl_max_in r (max x y) with h | h
    · rw [h]
      rcases Int.le_total x y with h1 | h1
      · rw [Int.max_eq_right h1]; exact .inr (by simp)
      · rw [Int.max_eq_left h1]; exact .inl rfl
    · exact .inr (by simp [h])
theorem maxV_ge {ys : List Int} {y : Int} (h : y ∈ ys) : y ≤ maxV ys := by
  cases ys with
  | nil => simp at h
  | cons x r =>
    rcases List.mem_cons.1 h with rfl | h
    · exact foldl_max_ge r y
    · exact foldl_max_mem r x y h
theorem maxV_mem {ys : List Int} (h : ys ≠ []) : maxV ys ∈ ys := by
  cases ys with
  | nil => exact absurd rfl h
  | cons x r =>
    rcases foldl_max_in r x with h1 | h1
    · show r.foldl max x ∈ _; rw [h1]; simp
    · exact List.mem_cons_of_mem _ h1


def idxI (ys : List Int) (v : Int) : Int := match ys.findIdx? (· == v) with | some i => i | none => -1
theorem idxI_at {ys : List Int} {v : Int} {k : Nat} (h : ys[k]? = some v) (h2 : ∀ y ∈ ys.take k, y ≠ v) : idxI ys v = k := by
  have : ys.findIdx? (· == v) = some k := by
    rw [List.findIdx?_eq_some_iff_getElem]
    have hk := (List.getElem?_eq_some_iff.1 h).1
    refine ⟨hk, by have := (List.getElem?_eq_some_iff.1 h).2; simp [this], fun j hj => ?_⟩
    have : ys[j]'(by omega) ∈ ys.take k := by
      rw [List.mem_take_iff_getElem]
      exact ⟨j, by omega, rfl⟩
    have := h2 _ this
    simpa using this
  simp [idxI, this]
theorem idxI_no {ys : List Int} {v : Int} (h2 : ∀ y ∈ ys, y ≠ v) : idxI ys v = -1 := by
  have : ys.findIdx? (· == v) = none := by
    rw [List.findIdx?_eq_none_iff]
    intro y hy
    simpa using h2 y hy
  simp [idxI, this]

end Go.Proofs.Ytjflbnbofedlkaa
