/-
  The steps of an activity: the iterator.
-/
import Derived.Test.YtogcclagmobkiaaEncAct
import Derived.Test.YtogcclagmobkiaaWaysM
namespace Go.Proofs.Ytogcclagmobkiaa
open Go Go.RowKit Hx
set_option linter.unusedVariables false
set_option linter.unusedSimpArgs false
set_option maxRecDepth 8000
theorem steps_iter (A : ActV) (B b : Nat) (w0 : World) (hA : Rd encSmp B w0 A.sa A.sn A.sc A.ss) :
    Iter Try.prog 165 [.pointer (some ⟨b, 0, none⟩)] (fun x : SmpR × SmpR => [.agg #[.int .i64 x.1.at_, .int .i64 x.1.x, .int .i64 x.1.y, .int .i64 x.1.z, .int .i64 x.1.pulse, .int .i64 x.1.power, .int .i64 x.1.steps], .agg #[.int .i64 x.2.at_, .int .i64 x.2.x, .int .i64 x.2.y, .int .i64 x.2.z, .int .i64 x.2.pulse, .int .i64 x.2.power, .int .i64 x.2.steps]]) (stepsL A.ss) (fun W => Below B w0 W ∧ (∃ T, Sat B W [(100, .blk b [(3, .slice A.sa A.sn A.sc)] T)]) ∧ B ≤ W.heap.size) := by
  intro l J Jx W hRq hJb hJx hY h0
  have hsn := hA.len
  have hsf := hA.fit
  have hlen := stepsL_len A.ss
  refine enterI (n := 25) (args := [_, _]) Try.func165 rfl rfl rfl rfl fun Q hQ => ?_
  refine wp_seq' fun K1 hK1 => ?_
  refine wp_reg ?_
  refine ol_r (r_assign rfl) rfl ?_
  refine ol_nil (to_k0 (fun _ _ h => h) (hK1 _ _ _ _ _ ?_))
  clear hK1
  refine wp_block' ?_
  refine wp_loopI (J := J) (fun k => [(3, .int .i64 (k + 1)), (0, .func (.yield l) #[] #[]), (1, .pointer (some ⟨b, 0, none⟩))]) (fun k => k ≤ (stepsL A.ss).length) (fun k => (stepsL A.ss).length - k) (0) ?_ ?_ ?_ ?_
  ·try dsimp only
   omega
  ·exact (sub_cons rfl (sub_cons rfl (sub_cons rfl sub_nil)))
  ·intro w hb hB
   exact hJb 0 W w h0 hb
  ·intro k W1 hI hJ
   obtain ⟨q1, ⟨T, q2⟩, q3⟩ := hRq k W1 hJ
   have hc : Blk W1.heap.size W1 b [(3, .slice A.sa A.sn A.sc)] := q2.blk (id := 100) rfl
   have hS := hA.at q1 q3
   intro K2 hK2
   refine wp_seq' fun K3 hK3 => ?_
   refine wp_seq' fun K4 hK4 => ?_
   refine wp_reg ?_
   refine ol_r (r_move rfl) rfl ?_
   refine ol_r (r_fa (o' := 3) rfl fl26_3 rfl) rfl ?_
   refine ol_r (r_ldw rfl (fun w1 hb1 hs1 hB1 => Blk.loads (o := 3) hc hb1 sc22 rfl)) rfl ?_
   refine ol_r (r_len rfl sl22) rfl ?_
   refine ol_r (r_lss rfl rfl) rfl ?_
   refine ol_nil (to_k0 (fun _ _ h => h) (hK4 _ _ _ _ _ ?_))
   clear hK4
   refine wp_condD rfl (fun hc8 => ?_) (fun hc8 => ?_)
   ·refine wp_skip' (to_k0 (fun _ _ h => h) (hK3 _ _ _ _ _ ?_))
    clear hK3
    refine wp_seq' fun K5 hK5 => ?_
    refine wp_block' ?_
    refine wp_seq' fun K6 hK6 => ?_
    refine wp_regti 12 rfl (by kernel_rfl) (by kernel_rfl) ?_
    simp only [List.take_succ_cons, List.take_zero, List.drop_succ_cons, List.drop_zero]
    refine sli_r (r_move rfl) rfl ?_
    refine sli_r (r_fa (o' := 3) rfl fl26_3 rfl) rfl ?_
    refine sli_r (r_ldw rfl (fun w1 hb1 hs1 hB1 => Blk.loads (o := 3) hc hb1 sc22 rfl)) rfl ?_
    refine sli_r (r_move rfl) rfl ?_
    refine sli_r (r_sub rfl rfl (by omega)) rfl ?_
    refine sli_ixr hS rfl rfl sl22 (by omega) rfl fun x16 hx16 => ?_
    try simp only [Int.toNat_natCast] at hx16
    refine sli_r (r_ldw rfl (fun w1 hb1 hs1 hB1 => Rd.loads hS ty28 hx16 hb1)) rfl ?_
    refine sli_r (r_fa (o' := 3) rfl fl26_3 rfl) rfl ?_
    refine sli_r (r_ldw rfl (fun w1 hb1 hs1 hB1 => Blk.loads (o := 3) hc hb1 sc22 rfl)) rfl ?_
    refine sli_r (r_move rfl) rfl ?_
    refine sli_ixr hS rfl rfl sl22 (by omega) rfl fun x21 hx21 => ?_
    try simp only [Int.toNat_natCast] at hx21
    refine sli_r (r_ldw rfl (fun w1 hb1 hs1 hB1 => Rd.loads hS ty28 hx21 hb1)) rfl ?_
    refine sli_nil ?_
    refine oli_yield rfl rfl rfl rfl rfl (fun w1 hb1 hs1 hB1 => ?_)
    obtain ⟨fn, tm, asg, bo, hy, hR⟩ := hY k (x16, x21) w1 (stepsL_get (by rw [← hx16]; congr 1; omega) (by rw [← hx21]; congr 1)) (hJb k W1 w1 hJ hb1)
    refine ⟨fn, tm, asg, bo, hy, hR.mono ?_⟩
    intro e w2 he
    obtain ⟨bb, rfl, hT, hF⟩ : ∃ bb, e = .returned (.bool bb) ∧ (bb = true → J (k + 1) w2) ∧ (bb = false → Jx w2) := by
      rcases he with ⟨rfl, h⟩ | ⟨rfl, h⟩
      · exact ⟨true, rfl, fun _ => h, fun h => by cases h⟩
      · exact ⟨false, rfl, fun h => (by cases h), fun _ => h⟩
    refine ⟨_, rfl, ?_⟩
    refine oli_r (r_not rfl) rfl ?_
    refine oli_nil (to_k0 (fun _ _ h => h) (hK6 _ _ _ _ _ ?_))
    clear hK6
    refine wp_condNB rfl (fun hc24 => ?_) (fun hc24 => ?_)
    ·refine hQ.ret (fun _ _ h => h) fun w hb hs hB => ?_
     exact .inr (hJx _ _ (hF hc24) hb)
    ·refine wp_skip' (to_k0 (fun _ _ h => h) (hK5 _ _ _ _ _ ?_))
     clear hK5
     refine wp_reg ?_
     refine ol_r (r_move rfl) rfl ?_
     refine ol_r (r_add rfl rfl (by omega)) rfl ?_
     refine ol_r (r_assign rfl) rfl ?_
     refine ol_nil (to_k0 (fun _ _ h => h) (hK2 (k + 1) _ _ _ _ ?_ ?_ (by exact (sub_cons rfl (sub_cons rfl (sub_cons rfl sub_nil)))) ?_))
     ·try dsimp only
      omega
     ·try dsimp only
      omega
     ·intro w hb hB
      exact hJb (k + 1) _ w (hT hc24) hb
   ·refine wp_exit' (hQ.fall (fun _ _ h => h) fun w hb hs hB => ?_)
    have hk : k = (stepsL A.ss).length := by omega
    exact .inl (hk ▸ hJb k _ w hJ hb)
theorem track_Steps (A : ActV) (w : World) (hA : A.Ok w.heap.size w) :
    Calls Try.prog 124 #[.agg #[.string A.name, .int .i64 A.sport, .int .i64 A.start, .slice A.sa A.sn A.sc, .slice A.la A.ln A.lc, .slice A.ta A.tn A.tc]] w fun e w' => ∃ b T, e = .returned (.func (.func 165) #[] #[.pointer (some ⟨b, 0, none⟩)]) ∧ Below w.heap.size w w' ∧ Sat w.heap.size w' [(1001, .blk b [(3, .slice A.sa A.sn A.sc)] T)] := by
  refine enterQ (N := 4) (C := fun _ => True) (H := []) (B := w.heap.size) (args := [_]) Try.func124 rfl rfl rfl (Nat.le_refl _) (Sat.nil _ _) fun Q hQ => ?_
  refine wp_seq' fun K1 hK1 => ?_
  refine wp_reg ?_
  refine ol_box 1 rfl rfl rfl fun b1 => ?_
  refine ol_r (r_assign rfl) rfl ?_
  refine ol_nil (to_k0 (fun _ _ h => h) (hK1 _ _ _ _ _ ?_))
  clear hK1
  refine wp_seq' fun K2 hK2 => ?_
  refine wp_reg ?_
  refine ol_r (r_func rfl) rfl ?_
  refine ol_r (r_assign rfl) rfl ?_
  refine ol_nil (to_k0 (fun _ _ h => h) (hK2 _ _ _ _ _ ?_))
  clear hK2
  refine hQ.ret (rvs1 (rv_t rfl)) (fun _ _ h => h) fun w hb hs hB hkd => ?_
  exact ⟨_, _, rfl, hb, hs.one 1 1001 rfl ⟨rfl, rfl, Sub.out (sub_cons rfl sub_nil)⟩⟩
end Go.Proofs.Ytogcclagmobkiaa
