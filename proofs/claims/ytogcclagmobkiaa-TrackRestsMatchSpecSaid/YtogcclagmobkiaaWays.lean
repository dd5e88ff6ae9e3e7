/-
  Ways: program and reference.
-/
import Derived.Test.YtogcclagmobkiaaSteps
import Derived.Test.YtogcclagmobkiaaRoot
import Derived.Test.YtogcclagmobkiaaCheck
namespace Go.Proofs.Ytogcclagmobkiaa
open Go Go.RowKit Hx
set_option linter.unusedVariables false
set_option linter.unusedSimpArgs false
set_option maxRecDepth 8000
theorem track_ways (A : ActV) (w : World) (hA : A.Ok w.heap.size w) (hok : SmpOk A.start A.ss) :
    Calls Try.prog 105 #[.agg #[.string A.name, .int .i64 A.sport, .int .i64 A.start, .slice A.sa A.sn A.sc, .slice A.la A.ln A.lc, .slice A.ta A.tn A.tc]] w fun e w' => ∃ b m k, e = .returned (.slice b m k) ∧ Fresh encI 3 w w' b m k (wayL A.ss) := by
  have hsn := hA.s.len
  have hsf := hA.s.fit
  have hlen := stepsL_len A.ss
  have hl20 := hok.len
  refine enterQ (N := 29) (C := fun _ => True) (H := []) (B := w.heap.size) (args := [_]) Try.func105 rfl rfl rfl (Nat.le_refl _) (Sat.nil _ _) fun Q hQ => ?_
  refine wp_seq' fun K1 hK1 => ?_
  refine wp_reg ?_
  refine ol_box 1 rfl rfl rfl fun b1 => ?_
  refine ol_r (r_assign rfl) rfl ?_
  refine ol_nil (to_k0 (fun _ _ h => h) (hK1 _ _ _ _ _ ?_))
  clear hK1
  refine wp_seq' fun K2 hK2 => ?_
  refine wp_seq' fun K3 hK3 => ?_
  refine wp_reg ?_
  refine ol_r (r_fa (o' := 3) rfl fl26_3 rfl) rfl ?_
  refine ol_r (r_ld (id := 1) rfl rfl rfl sc22) rfl ?_
  refine ol_r (r_len rfl sl22) rfl ?_
  refine ol_r (r_eql rfl rfl) rfl ?_
  refine ol_nil (to_k0 (fun _ _ h => h) (hK3 _ _ _ _ _ ?_))
  clear hK3
  refine wp_condD rfl (fun hc9 => ?_) (fun hc9 => ?_)
  ·refine wp_seq' fun K4 hK4 => ?_
   refine wp_reg ?_
   refine ol_r (r_assign rfl) rfl ?_
   refine ol_nil (to_k0 (fun _ _ h => h) (hK4 _ _ _ _ _ ?_))
   clear hK4
   refine hQ.ret (rvs1 (rv_t rfl)) (fun _ _ h => h) fun w hb hs hB hkd => ?_
   first
     | (have h0 : A.ss = [] := List.length_eq_zero_iff.1 (by omega)
        have h1 : wayL A.ss = [] := by rw [h0]; rfl
        exact ⟨_, _, _, rfl, by rw [h1]; exact Fresh.nil hb⟩)
  ·refine wp_skip' (to_k0 (fun _ _ h => h) (hK2 _ _ _ _ _ ?_))
   clear hK2
   refine wp_seq' fun K5 hK5 => ?_
   refine wp_reg ?_
   refine ol_bs1 10 rfl rfl rw37 rfl rfl rfl fun a10 => ?_
   refine ol_alloc 3 z37 rfl fun b3 => ?_
   refine ol_store (id := 3) rfl rfl rfl rfl sz37 rfl rfl (by first | decide | exact Nat.zero_lt_succ _ | simp) ?_
   refine ol_nil (to_k0 (fun _ _ h => h) (hK5 _ _ _ _ _ ?_))
   clear hK5
   refine wp_seq' fun K6 hK6 => ?_
   refine wp_seq' fun K7 hK7 => ?_
   refine wp_reg ?_
   refine ol_r (r_lda (id := 1) (n := 6) rfl rfl rfl ag26) rfl ?_
   refine ol_call rfl rfl cb124 rfl (fun w1 hb1 hs1 hB1 => ?_)
   refine Calls.mono (track_Steps A _ (hA.at hb1 hB1)) ?_
   rintro e w2 ⟨b0, T0, rfl, hb2, hs2⟩
   refine After.more rfl hb1 hs1 hB1 hb2 hs2 ?_
   clear hs2 hb2 hB1 hs1 hb1 w2 w1
   refine ol_nil (to_k0 (fun _ _ h => h) (hK7 _ _ _ _ _ ?_))
   clear hK7
   refine wp_block' ?_
   refine wp_rf (σ := Option Addr × Nat) (τ := Unit) (encs := fun x : SmpR × SmpR => [.agg #[.int .i64 x.1.at_, .int .i64 x.1.x, .int .i64 x.1.y, .int .i64 x.1.z, .int .i64 x.1.pulse, .int .i64 x.1.power, .int .i64 x.1.steps], .agg #[.int .i64 x.2.at_, .int .i64 x.2.x, .int .i64 x.2.y, .int .i64 x.2.z, .int .i64 x.2.pulse, .int .i64 x.2.power, .int .i64 x.2.steps]]) (zs := stepsL A.ss) rfl cb165 (steps_iter A _ b0 _ hA.s) (by rfl) (by rfl) (by rfl) (fun _ => rfl) (fun k s => k ≤ (stepsL A.ss).length) (fun k s => [(3, .blk b3 [(0, .slice s.1 (k + 1) s.2)] 37), (10, .row s.1 (k + 1) s.2 (encI.enc (runW A.ss (k + 1))) 3 1)]) [(1, _), (1001, _)] (fun t => False) (fun t => []) ((_, _)) ?_ (by exact (subH_blk rfl (sub_cons rfl sub_nil) (subH_row rfl (by (rw [runW_succ, wayN_zero]; rfl)) subH_nil))) (subH_same rfl (subH_same rfl subH_nil)) ?_ ?_ ?_ ?_
   ·try dsimp only
    omega
   ·intro k s W hI hbW hsW hBW
    exact ⟨hbW, ⟨_, hsW.one 1001 100 rfl (Ent.le_refl _)⟩, hBW⟩
   ·rintro k x ⟨oa, oc⟩ B0 W hx hI hbW hBW hB0
    have hxx := stepsL_inv hx
    have hp := hok.place (List.mem_of_getElem? hxx.1)
    have hq := hok.place (List.mem_of_getElem? hxx.2)
    have hlb := lenD_bd hp hq
    have hwb := wayN_bd hok k
    dsimp only at hI ⊢
    intro Ka8 hKa8
    simp only [alp]
    refine wp_seq' fun K9 hK9 => ?_
    refine wp_reg ?_
    refine ol_alloc 4 z28 rfl fun b4 => ?_
    refine ol_store (id := 4) rfl rfl rfl rfl sz28 rfl rfl (by first | decide | exact Nat.zero_lt_succ _ | simp) ?_
    refine ol_nil (to_k0 (fun _ _ h => h) (hK9 _ _ _ _ _ ?_))
    clear hK9
    refine wp_reg ?_
    refine ol_alloc 5 z28 rfl fun b5 => ?_
    refine ol_store (id := 5) rfl rfl rfl rfl sz28 rfl rfl (by first | decide | exact Nat.zero_lt_succ _ | simp) ?_
    refine ol_nil (to_k0 (fun _ _ h => h) (hKa8 _ _ fun Wb R hbw hBw hn hr => ?_))
    refine wp_block' ?_
    refine wp_rega [(999, [(1, _), (4, _), (5, _), (1001, _)]), (13, [(3, _)]), (12, [(10, _)])] (by kernel_rfl) ⟨.inr (subH_same rfl (subH_same rfl (subH_same rfl (subH_same rfl subH_nil)))), ⟨.inr (subH_same rfl subH_nil), ⟨.inr (subH_same rfl subH_nil), trivial⟩⟩⟩ ?_
    refine aq_r 0 13 rfl (by kernel_rfl) (by kernel_rfl) (by kernel_rfl) (.tail _ (.head _)) (by kernel_rfl) (by kernel_rfl) rfl (r_ld (id := 3) rfl rfl rfl sc37) ?_
    refine aq_r 1 13 rfl (by kernel_rfl) (by kernel_rfl) (by kernel_rfl) (.tail _ (.head _)) (by kernel_rfl) (by kernel_rfl) rfl (r_ld (id := 3) rfl rfl rfl sc37) ?_
    refine aq_r 2 13 rfl (by kernel_rfl) (by kernel_rfl) (by kernel_rfl) (.tail _ (.head _)) (by kernel_rfl) (by kernel_rfl) rfl (r_ld (id := 3) rfl rfl rfl sc37) ?_
    refine aq_r 3 999 rfl (by kernel_rfl) (by kernel_rfl) (by kernel_rfl) (.head _) (by kernel_rfl) (by kernel_rfl) rfl (r_len rfl sl37) ?_
    refine aq_r 4 999 rfl (by kernel_rfl) (by kernel_rfl) (by kernel_rfl) (.head _) (by kernel_rfl) (by kernel_rfl) rfl (r_sub rfl rfl (by omega)) ?_
    refine aq_r 7 999 rfl (by kernel_rfl) (by kernel_rfl) (by kernel_rfl) (.head _) (by kernel_rfl) (by kernel_rfl) rfl (r_lda (id := 4) (n := 7) rfl rfl rfl ag28) ?_
    refine aq_r 8 999 rfl (by kernel_rfl) (by kernel_rfl) (by kernel_rfl) (.head _) (by kernel_rfl) (by kernel_rfl) rfl (r_lda (id := 5) (n := 7) rfl rfl rfl ag28) ?_
    refine aq_two (i := 5) (j := 9) (by kernel_rfl) rfl rfl (fun K10 hK10 => ?_) (fun K10 hK10 => ?_)
    ·refine ol_ixo (id := 10) encI _ rfl rfl rfl rfl sl37 (by omega) rfl fun x20 hx20 => ?_
     try simp only [Int.toNat_natCast] at hx20
     try simp only [Int.toNat_natCast] at hx20
     refine ol_nil (to_k0 (fun _ _ h => h) (hK10 _ _ ⟨.inr (by repeat' first | exact subH_nil | refine subH_same rfl ?_ | (refine subH_blk rfl (by repeat' first | exact sub_nil | refine sub_cons rfl ?_) ?_)), ⟨.inr (by repeat' first | exact subH_nil | refine subH_same rfl ?_ | (refine subH_blk rfl (by repeat' first | exact sub_nil | refine sub_cons rfl ?_) ?_)), ⟨.inr (by repeat' first | exact subH_nil | refine subH_same rfl ?_ | (refine subH_blk rfl (by repeat' first | exact sub_nil | refine sub_cons rfl ?_) ?_)), trivial⟩⟩⟩ ?_))
     clear hK10
     refine aq_two (i := 6) (j := 9) (by kernel_rfl) rfl rfl (fun K11 hK11 => ?_) (fun K11 hK11 => ?_)
     ·refine ol_r (r_ldw rfl (fun w1 hb1 hs1 hB1 => show Loads _ _ _ _ (.int .i64 x20) from ld_own (id := 10) hs1 rfl rfl ty3 hx20)) rfl ?_
      refine ol_nil (to_k0 (fun _ _ h => h) (hK11 _ _ ⟨.inr (by repeat' first | exact subH_nil | refine subH_same rfl ?_ | (refine subH_blk rfl (by repeat' first | exact sub_nil | refine sub_cons rfl ?_) ?_)), ⟨.inr (by repeat' first | exact subH_nil | refine subH_same rfl ?_ | (refine subH_blk rfl (by repeat' first | exact sub_nil | refine sub_cons rfl ?_) ?_)), ⟨.inr (by repeat' first | exact subH_nil | refine subH_same rfl ?_ | (refine subH_blk rfl (by repeat' first | exact sub_nil | refine sub_cons rfl ?_) ?_)), trivial⟩⟩⟩ ?_))
      clear hK11
      refine aq_one (i := 9) (by kernel_rfl) rfl fun K12 hK12 => ?_
      refine ol_call rfl rfl cb116 rfl (fun w1 hb1 hs1 hB1 => Calls.mono (track_length x.1 x.2 _ hp hq) ?_)
      rintro e w2 ⟨rfl, hb2⟩
      refine After.below rfl hb1 hs1 hB1 hb2 ?_
      clear hb2 hB1 hs1 hb1 w2 w1
      refine ol_nil (to_k0 (fun _ _ h => h) (hK12 _ _ ⟨.inr (by repeat' first | exact subH_nil | refine subH_same rfl ?_ | (refine subH_blk rfl (by repeat' first | exact sub_nil | refine sub_cons rfl ?_) ?_)), ⟨.inr (by repeat' first | exact subH_nil | refine subH_same rfl ?_ | (refine subH_blk rfl (by repeat' first | exact sub_nil | refine sub_cons rfl ?_) ?_)), ⟨.inr (by repeat' first | exact subH_nil | refine subH_same rfl ?_ | (refine subH_blk rfl (by repeat' first | exact sub_nil | refine sub_cons rfl ?_) ?_)), trivial⟩⟩⟩ ?_))
      clear hK12
      have e19 : (((k + 1 : Nat) : Int) - 1).toNat = k := by omega
      rw [e19] at hx20
      have h20 := runW_get hx20
      subst h20
      refine aq_r 10 999 rfl (by kernel_rfl) (by kernel_rfl) (by kernel_rfl) (.head _) (by kernel_rfl) (by kernel_rfl) rfl (r_add rfl rfl (by omega)) ?_
      refine aq_one (i := 11) (by kernel_rfl) rfl fun K13 hK13 => ?_
      refine ol_bs1 26 rfl rfl rw37 rfl rfl rfl fun a26 => ?_
      refine ol_nil (to_k0 (fun _ _ h => h) (hK13 _ _ ⟨.inr (by repeat' first | exact subH_nil | refine subH_same rfl ?_ | (refine subH_blk rfl (by repeat' first | exact sub_nil | refine sub_cons rfl ?_) ?_)), ⟨.inr (by repeat' first | exact subH_nil | refine subH_same rfl ?_ | (refine subH_blk rfl (by repeat' first | exact sub_nil | refine sub_cons rfl ?_) ?_)), ⟨.inr (by repeat' first | exact subH_nil | refine subH_same rfl ?_ | (refine subH_blk rfl (by repeat' first | exact sub_nil | refine sub_cons rfl ?_) ?_)), trivial⟩⟩⟩ ?_))
      clear hK13
      refine aq_one (i := 12) (by kernel_rfl) rfl fun K14 hK14 => ?_
      refine ol_append1 (id := 10) (id2 := 26) rfl rfl rfl rfl rfl rw37 (by omega) rfl fun a27 c27 => ?_
      refine ol_nil (to_k0 (fun _ _ h => h) (hK14 _ _ ⟨.inr (by repeat' first | exact subH_nil | refine subH_same rfl ?_ | (refine subH_blk rfl (by repeat' first | exact sub_nil | refine sub_cons rfl ?_) ?_)), ⟨.inr (by repeat' first | exact subH_nil | refine subH_same rfl ?_ | (refine subH_blk rfl (by repeat' first | exact sub_nil | refine sub_cons rfl ?_) ?_)), ⟨.inl (by kernel_rfl), trivial⟩⟩⟩ ?_))
      clear hK14
      refine aq_one (i := 13) (by kernel_rfl) rfl fun K15 hK15 => ?_
      refine ol_store (id := 3) rfl rfl rfl rfl sz37 rfl rfl (by first | decide | exact Nat.zero_lt_succ _ | simp) ?_
      refine ol_nil (to_k0 (fun _ _ h => h) (hK15 _ _ ⟨.inr (by repeat' first | exact subH_nil | refine subH_same rfl ?_ | (refine subH_blk rfl (by repeat' first | exact sub_nil | refine sub_cons rfl ?_) ?_)), ⟨.inl (by kernel_rfl), ⟨.inl (by kernel_rfl), trivial⟩⟩⟩ ?_))
      clear hK15
      refine aq_done (by kernel_rfl) ?_
      refine (QP.of (hn ((_, _)) _ _ ?_ (by exact (subH_blk rfl (sub_cons rfl sub_nil) (subH_row rfl (by rw [runW_succ A.ss (k + 1), encI_snoc, wayN_succ hx]) subH_nil))) (subH_same rfl (subH_same rfl subH_nil))) (fun _ _ h => h))
      try dsimp only
      have := (List.getElem?_eq_some_iff.1 hx).1
      omega
     ·refine ol_call rfl rfl cb116 rfl (fun w1 hb1 hs1 hB1 => Calls.mono (track_length x.1 x.2 _ hp hq) ?_)
      rintro e w2 ⟨rfl, hb2⟩
      refine After.below rfl hb1 hs1 hB1 hb2 ?_
      clear hb2 hB1 hs1 hb1 w2 w1
      refine ol_nil (to_k0 (fun _ _ h => h) (hK11 _ _ ⟨.inr (by repeat' first | exact subH_nil | refine subH_same rfl ?_ | (refine subH_blk rfl (by repeat' first | exact sub_nil | refine sub_cons rfl ?_) ?_)), ⟨.inr (by repeat' first | exact subH_nil | refine subH_same rfl ?_ | (refine subH_blk rfl (by repeat' first | exact sub_nil | refine sub_cons rfl ?_) ?_)), ⟨.inr (by repeat' first | exact subH_nil | refine subH_same rfl ?_ | (refine subH_blk rfl (by repeat' first | exact sub_nil | refine sub_cons rfl ?_) ?_)), trivial⟩⟩⟩ ?_))
      clear hK11
      refine aq_one (i := 6) (by kernel_rfl) rfl fun K12 hK12 => ?_
      refine ol_r (r_ldw rfl (fun w1 hb1 hs1 hB1 => show Loads _ _ _ _ (.int .i64 x20) from ld_own (id := 10) hs1 rfl rfl ty3 hx20)) rfl ?_
      refine ol_nil (to_k0 (fun _ _ h => h) (hK12 _ _ ⟨.inr (by repeat' first | exact subH_nil | refine subH_same rfl ?_ | (refine subH_blk rfl (by repeat' first | exact sub_nil | refine sub_cons rfl ?_) ?_)), ⟨.inr (by repeat' first | exact subH_nil | refine subH_same rfl ?_ | (refine subH_blk rfl (by repeat' first | exact sub_nil | refine sub_cons rfl ?_) ?_)), ⟨.inr (by repeat' first | exact subH_nil | refine subH_same rfl ?_ | (refine subH_blk rfl (by repeat' first | exact sub_nil | refine sub_cons rfl ?_) ?_)), trivial⟩⟩⟩ ?_))
      clear hK12
      have e19 : (((k + 1 : Nat) : Int) - 1).toNat = k := by omega
      rw [e19] at hx20
      have h20 := runW_get hx20
      subst h20
      refine aq_r 10 999 rfl (by kernel_rfl) (by kernel_rfl) (by kernel_rfl) (.head _) (by kernel_rfl) (by kernel_rfl) rfl (r_add rfl rfl (by omega)) ?_
      refine aq_one (i := 11) (by kernel_rfl) rfl fun K13 hK13 => ?_
      refine ol_bs1 26 rfl rfl rw37 rfl rfl rfl fun a26 => ?_
      refine ol_nil (to_k0 (fun _ _ h => h) (hK13 _ _ ⟨.inr (by repeat' first | exact subH_nil | refine subH_same rfl ?_ | (refine subH_blk rfl (by repeat' first | exact sub_nil | refine sub_cons rfl ?_) ?_)), ⟨.inr (by repeat' first | exact subH_nil | refine subH_same rfl ?_ | (refine subH_blk rfl (by repeat' first | exact sub_nil | refine sub_cons rfl ?_) ?_)), ⟨.inr (by repeat' first | exact subH_nil | refine subH_same rfl ?_ | (refine subH_blk rfl (by repeat' first | exact sub_nil | refine sub_cons rfl ?_) ?_)), trivial⟩⟩⟩ ?_))
      clear hK13
      refine aq_one (i := 12) (by kernel_rfl) rfl fun K14 hK14 => ?_
      refine ol_append1 (id := 10) (id2 := 26) rfl rfl rfl rfl rfl rw37 (by omega) rfl fun a27 c27 => ?_
      refine ol_nil (to_k0 (fun _ _ h => h) (hK14 _ _ ⟨.inr (by repeat' first | exact subH_nil | refine subH_same rfl ?_ | (refine subH_blk rfl (by repeat' first | exact sub_nil | refine sub_cons rfl ?_) ?_)), ⟨.inr (by repeat' first | exact subH_nil | refine subH_same rfl ?_ | (refine subH_blk rfl (by repeat' first | exact sub_nil | refine sub_cons rfl ?_) ?_)), ⟨.inl (by kernel_rfl), trivial⟩⟩⟩ ?_))
      clear hK14
      refine aq_one (i := 13) (by kernel_rfl) rfl fun K15 hK15 => ?_
      refine ol_store (id := 3) rfl rfl rfl rfl sz37 rfl rfl (by first | decide | exact Nat.zero_lt_succ _ | simp) ?_
      refine ol_nil (to_k0 (fun _ _ h => h) (hK15 _ _ ⟨.inr (by repeat' first | exact subH_nil | refine subH_same rfl ?_ | (refine subH_blk rfl (by repeat' first | exact sub_nil | refine sub_cons rfl ?_) ?_)), ⟨.inl (by kernel_rfl), ⟨.inl (by kernel_rfl), trivial⟩⟩⟩ ?_))
      clear hK15
      refine aq_done (by kernel_rfl) ?_
      refine (QP.of (hn ((_, _)) _ _ ?_ (by exact (subH_blk rfl (sub_cons rfl sub_nil) (subH_row rfl (by rw [runW_succ A.ss (k + 1), encI_snoc, wayN_succ hx]) subH_nil))) (subH_same rfl (subH_same rfl subH_nil))) (fun _ _ h => h))
      try dsimp only
      have := (List.getElem?_eq_some_iff.1 hx).1
      omega
    ·refine ol_call rfl rfl cb116 rfl (fun w1 hb1 hs1 hB1 => Calls.mono (track_length x.1 x.2 _ hp hq) ?_)
     rintro e w2 ⟨rfl, hb2⟩
     refine After.below rfl hb1 hs1 hB1 hb2 ?_
     clear hb2 hB1 hs1 hb1 w2 w1
     refine ol_nil (to_k0 (fun _ _ h => h) (hK10 _ _ ⟨.inr (by repeat' first | exact subH_nil | refine subH_same rfl ?_ | (refine subH_blk rfl (by repeat' first | exact sub_nil | refine sub_cons rfl ?_) ?_)), ⟨.inr (by repeat' first | exact subH_nil | refine subH_same rfl ?_ | (refine subH_blk rfl (by repeat' first | exact sub_nil | refine sub_cons rfl ?_) ?_)), ⟨.inr (by repeat' first | exact subH_nil | refine subH_same rfl ?_ | (refine subH_blk rfl (by repeat' first | exact sub_nil | refine sub_cons rfl ?_) ?_)), trivial⟩⟩⟩ ?_))
     clear hK10
     refine aq_one (i := 5) (by kernel_rfl) rfl fun K11 hK11 => ?_
     refine ol_ixo (id := 10) encI _ rfl rfl rfl rfl sl37 (by omega) rfl fun x20 hx20 => ?_
     try simp only [Int.toNat_natCast] at hx20
     try simp only [Int.toNat_natCast] at hx20
     refine ol_nil (to_k0 (fun _ _ h => h) (hK11 _ _ ⟨.inr (by repeat' first | exact subH_nil | refine subH_same rfl ?_ | (refine subH_blk rfl (by repeat' first | exact sub_nil | refine sub_cons rfl ?_) ?_)), ⟨.inr (by repeat' first | exact subH_nil | refine subH_same rfl ?_ | (refine subH_blk rfl (by repeat' first | exact sub_nil | refine sub_cons rfl ?_) ?_)), ⟨.inr (by repeat' first | exact subH_nil | refine subH_same rfl ?_ | (refine subH_blk rfl (by repeat' first | exact sub_nil | refine sub_cons rfl ?_) ?_)), trivial⟩⟩⟩ ?_))
     clear hK11
     refine aq_one (i := 6) (by kernel_rfl) rfl fun K12 hK12 => ?_
     refine ol_r (r_ldw rfl (fun w1 hb1 hs1 hB1 => show Loads _ _ _ _ (.int .i64 x20) from ld_own (id := 10) hs1 rfl rfl ty3 hx20)) rfl ?_
     refine ol_nil (to_k0 (fun _ _ h => h) (hK12 _ _ ⟨.inr (by repeat' first | exact subH_nil | refine subH_same rfl ?_ | (refine subH_blk rfl (by repeat' first | exact sub_nil | refine sub_cons rfl ?_) ?_)), ⟨.inr (by repeat' first | exact subH_nil | refine subH_same rfl ?_ | (refine subH_blk rfl (by repeat' first | exact sub_nil | refine sub_cons rfl ?_) ?_)), ⟨.inr (by repeat' first | exact subH_nil | refine subH_same rfl ?_ | (refine subH_blk rfl (by repeat' first | exact sub_nil | refine sub_cons rfl ?_) ?_)), trivial⟩⟩⟩ ?_))
     clear hK12
     have e19 : (((k + 1 : Nat) : Int) - 1).toNat = k := by omega
     rw [e19] at hx20
     have h20 := runW_get hx20
     subst h20
     refine aq_r 10 999 rfl (by kernel_rfl) (by kernel_rfl) (by kernel_rfl) (.head _) (by kernel_rfl) (by kernel_rfl) rfl (r_add rfl rfl (by omega)) ?_
     refine aq_one (i := 11) (by kernel_rfl) rfl fun K13 hK13 => ?_
     refine ol_bs1 26 rfl rfl rw37 rfl rfl rfl fun a26 => ?_
     refine ol_nil (to_k0 (fun _ _ h => h) (hK13 _ _ ⟨.inr (by repeat' first | exact subH_nil | refine subH_same rfl ?_ | (refine subH_blk rfl (by repeat' first | exact sub_nil | refine sub_cons rfl ?_) ?_)), ⟨.inr (by repeat' first | exact subH_nil | refine subH_same rfl ?_ | (refine subH_blk rfl (by repeat' first | exact sub_nil | refine sub_cons rfl ?_) ?_)), ⟨.inr (by repeat' first | exact subH_nil | refine subH_same rfl ?_ | (refine subH_blk rfl (by repeat' first | exact sub_nil | refine sub_cons rfl ?_) ?_)), trivial⟩⟩⟩ ?_))
     clear hK13
     refine aq_one (i := 12) (by kernel_rfl) rfl fun K14 hK14 => ?_
     refine ol_append1 (id := 10) (id2 := 26) rfl rfl rfl rfl rfl rw37 (by omega) rfl fun a27 c27 => ?_
     refine ol_nil (to_k0 (fun _ _ h => h) (hK14 _ _ ⟨.inr (by repeat' first | exact subH_nil | refine subH_same rfl ?_ | (refine subH_blk rfl (by repeat' first | exact sub_nil | refine sub_cons rfl ?_) ?_)), ⟨.inr (by repeat' first | exact subH_nil | refine subH_same rfl ?_ | (refine subH_blk rfl (by repeat' first | exact sub_nil | refine sub_cons rfl ?_) ?_)), ⟨.inl (by kernel_rfl), trivial⟩⟩⟩ ?_))
     clear hK14
     refine aq_one (i := 13) (by kernel_rfl) rfl fun K15 hK15 => ?_
     refine ol_store (id := 3) rfl rfl rfl rfl sz37 rfl rfl (by first | decide | exact Nat.zero_lt_succ _ | simp) ?_
     refine ol_nil (to_k0 (fun _ _ h => h) (hK15 _ _ ⟨.inr (by repeat' first | exact subH_nil | refine subH_same rfl ?_ | (refine subH_blk rfl (by repeat' first | exact sub_nil | refine sub_cons rfl ?_) ?_)), ⟨.inl (by kernel_rfl), ⟨.inl (by kernel_rfl), trivial⟩⟩⟩ ?_))
     clear hK15
     refine aq_done (by kernel_rfl) ?_
     refine (QP.of (hn ((_, _)) _ _ ?_ (by exact (subH_blk rfl (sub_cons rfl sub_nil) (subH_row rfl (by rw [runW_succ A.ss (k + 1), encI_snoc, wayN_succ hx]) subH_nil))) (subH_same rfl (subH_same rfl subH_nil))) (fun _ _ h => h))
     try dsimp only
     have := (List.getElem?_eq_some_iff.1 hx).1
     omega
   ·rintro s dd hI
    refine (to_k0 (fun _ _ h => h) (hK6 _ _ _ _ _ ?_))
    clear hK6
    refine wp_seq' fun K16 hK16 => ?_
    refine wp_reg ?_
    refine ol_r (r_ld (id := 3) rfl rfl rfl sc37) rfl ?_
    refine ol_r (r_assign rfl) rfl ?_
    refine ol_nil (to_k0 (fun _ _ h => h) (hK16 _ _ _ _ _ ?_))
    clear hK16
    refine hQ.ret (rvs1 (rv_t rfl)) (fun _ _ h => h) fun w hb hs hB hkd => ?_
    first
      | (have h1 : (stepsL A.ss).length + 1 = A.ss.length := by omega
         refine ⟨_, _, _, rfl, hb, ?_⟩
         have h2 := hs.ok 10 _ rfl
         rw [show wayL A.ss = runW A.ss ((stepsL A.ss).length + 1) by rw [h1]; rfl]
         exact h2)
   ·exact fun t dd hI => hI.elim
theorem wayN_pred {ss : List SmpR} {k : Nat} {x y : SmpR} (hx : ss[((k:Int) - 1).toNat]? = some x) (hy : ss[k]? = some y) (hk : 0 < (k:Int)) : wayN ss k = wayN ss (k - 1) + lenD x y := by
  obtain ⟨j, rfl⟩ : ∃ j, k = j + 1 := ⟨k - 1, by omega⟩
  have e : (((j + 1 : Nat) : Int) - 1).toNat = j := by omega
  rw [e] at hx
  exact wayN_succ (stepsL_get hx hy)
theorem wayN_0 {ss : List SmpR} {k : Nat} (hk : ¬0 < (k:Int)) : wayN ss k = wayN ss (k - 1) := by
  have : k = 0 := by omega
  subst this; rfl
end Go.Proofs.Ytogcclagmobkiaa
