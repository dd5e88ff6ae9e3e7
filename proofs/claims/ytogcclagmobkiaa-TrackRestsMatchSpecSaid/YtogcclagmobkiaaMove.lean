/-
  Moving: the program.
-/
import Derived.Test.YtogcclagmobkiaaRuns
import Derived.Test.YtogcclagmobkiaaSpanS
namespace Go.Proofs.Ytogcclagmobkiaa
open Go Go.RowKit Hx
set_option linter.unusedVariables false
set_option linter.unusedSimpArgs false
set_option maxRecDepth 8000
theorem idleR_is {a : ActD} {gap : Int} (h : (idleR a gap).2 = 0) : GoodA a ∧ (idleR a gap).1 = rowsR a.ss (idleM a.ss gap) 0 := by
  by_cases h1 : chkA a ≠ 0
  · rw [idleR_e h1] at h; exact absurd h h1
  · by_cases h2 : gap < 1 ∨ 1000000 < gap
    · rw [idleR_9 h1 h2] at h; cases h
    · exact ⟨goodA (Decidable.not_not.1 h1), by rw [idleR_0 h1 h2]⟩
noncomputable def movR (a : ActD) (gap slow least : Int) : Int × Int :=
  if (idleR a gap).2 ≠ 0 then (0, (idleR a gap).2) else if stillC slow least ≠ 0 then (0, stillC slow least) else (uncS (atN a.ss) ((idleR a gap).1 ++ rowsR a.ss (stillM a.ss slow) least) (a.ss.length - 1), 0)
theorem movR_e {a : ActD} {g s l : Int} (h : (idleR a g).2 ≠ 0) : movR a g s l = (0, (idleR a g).2) := if_pos h
theorem movR_9 {a : ActD} {g s l : Int} (h : ¬(idleR a g).2 ≠ 0) (h2 : stillC s l ≠ 0) : movR a g s l = (0, stillC s l) := by rw [movR, if_neg h, if_pos h2]
theorem movR_0 {a : ActD} {g s l : Int} (h : ¬(idleR a g).2 ≠ 0) (h2 : ¬stillC s l ≠ 0) : movR a g s l = (uncS (atN a.ss) ((idleR a g).1 ++ rowsR a.ss (stillM a.ss s) l) (a.ss.length - 1), 0) := by rw [movR, if_neg h, if_neg h2]
theorem ofS_bd {st : Int} {ss : List SmpR} (h : SmpOk st ss) {s : SpanR} (ho : OfS (atN ss) (ss.length - 1) s) : (0 ≤ s.from_ ∧ s.from_ ≤ 1000000) ∧ (-1 ≤ s.to ∧ s.to ≤ 1000000) := by
  obtain ⟨u, v, _, _, h1, h2⟩ := ho
  have h3 := atN_bd h u
  have h4 := atN_bd h v
  omega
theorem track_Moving (A : ActV) (gap slow least : Int) (w : World) (hA : A.Ok w.heap.size w) :
    Calls Try.prog 31 #[.agg #[.string A.name, .int .i64 A.sport, .int .i64 A.start, .slice A.sa A.sn A.sc, .slice A.la A.ln A.lc, .slice A.ta A.tn A.tc], .int .i64 gap, .int .i64 slow, .int .i64 least] w fun e w' => e = .returned (.tuple #[.int .i64 (movR A.d gap slow least).1, .int .i64 (movR A.d gap slow least).2]) ∧ Below w.heap.size w w' := by
  have hsn := hA.s.len
  refine enterQ (N := 65) (C := fun _ => True) (H := []) (B := w.heap.size) (args := [_, _, _, _]) Try.func31 rfl rfl rfl (Nat.le_refl _) (Sat.nil _ _) fun Q hQ => ?_
  refine wp_seq' fun K1 hK1 => ?_
  refine wp_reg ?_
  refine ol_box 4 rfl rfl rfl fun b4 => ?_
  refine ol_r (r_assign rfl) rfl ?_
  refine ol_r (r_assign rfl) rfl ?_
  refine ol_nil (to_k0 (fun _ _ h => h) (hK1 _ _ _ _ _ ?_))
  clear hK1
  refine wp_seq' fun K2 hK2 => ?_
  refine wp_reg ?_
  refine ol_r (r_lda (id := 4) (n := 6) rfl rfl rfl ag26) rfl ?_
  refine ol_r (r_move rfl) rfl ?_
  refine ol_call rfl rfl cb27 rfl (fun w1 hb1 hs1 hB1 => ?_)
  refine Calls.mono (track_Idle A gap _ (hA.at hb1 hB1)) ?_
  rintro e w2 ⟨⟨a1, c1, rfl, hs2⟩, hb2⟩
  refine After.more rfl hb1 hs1 hB1 hb2 (hs2.kle [(1001, 1011)] (kle_cons rfl (Ent.le_refl _) kle_nil) (by decide)) ?_
  clear hs2 hb2 hB1 hs1 hb1 w2 w1
  refine ol_r (r_move rfl) rfl ?_
  refine ol_r (r_extract rfl rfl) rfl ?_
  refine ol_r (r_extract rfl rfl) rfl ?_
  refine ol_r (r_assign rfl) rfl ?_
  refine ol_r (r_assign rfl) rfl ?_
  refine ol_nil (to_k0 (fun _ _ h => h) (hK2 _ _ _ _ _ ?_))
  clear hK2
  refine wp_seq' fun K3 hK3 => ?_
  refine wp_seq' fun K4 hK4 => ?_
  refine wp_reg ?_
  refine ol_r (r_move rfl) rfl ?_
  refine ol_r (r_eql rfl rfl) rfl ?_
  refine ol_nil (to_k0 (fun _ _ h => h) (hK4 _ _ _ _ _ ?_))
  clear hK4
  first | refine wp_condD rfl (fun hc23 => ?_) (fun hc23 => ?_) | refine wp_condN rfl (fun hc23 => ?_) (fun hc23 => ?_) | refine wp_condNB rfl (fun hc23 => ?_) (fun hc23 => ?_) | refine wp_cond' rfl (fun hc23 => ?_) (fun hc23 => ?_)
  ·refine wp_reg ?_
   refine ol_r (r_move rfl) rfl ?_
   refine ol_r (r_move rfl) rfl ?_
   refine ol_call rfl rfl cb73 rfl (fun w1 hb1 hs1 hB1 => Calls.mono (track_checkStill _ _ _) ?_)
   rintro e w2 ⟨rfl, hb2⟩
   refine After.below rfl hb1 hs1 hB1 hb2 ?_
   clear hb2 hB1 hs1 hb1 w2 w1
   refine ol_r (r_assign rfl) rfl ?_
   refine ol_nil (to_k0 (fun _ _ h => h) (hK3 _ _ _ _ _ ?_))
   clear hK3
   refine wp_seq' fun K5 hK5 => ?_
   refine wp_seq' fun K6 hK6 => ?_
   refine wp_reg ?_
   refine ol_r (r_move rfl) rfl ?_
   refine ol_r (r_neq rfl rfl) rfl ?_
   refine ol_nil (to_k0 (fun _ _ h => h) (hK6 _ _ _ _ _ ?_))
   clear hK6
   first | refine wp_condD rfl (fun hc28 => ?_) (fun hc28 => ?_) | refine wp_condN rfl (fun hc28 => ?_) (fun hc28 => ?_) | refine wp_condNB rfl (fun hc28 => ?_) (fun hc28 => ?_) | refine wp_cond' rfl (fun hc28 => ?_) (fun hc28 => ?_)
   ·refine wp_seq' fun K7 hK7 => ?_
    refine wp_reg ?_
    refine ol_r (r_move rfl) rfl ?_
    refine ol_r (r_assign rfl) rfl ?_
    refine ol_r (r_assign rfl) rfl ?_
    refine ol_nil (to_k0 (fun _ _ h => h) (hK7 _ _ _ _ _ ?_))
    clear hK7
    refine hQ.ret (rvs2 (rv_t rfl) (rv_t rfl)) (fun _ _ h => h) fun w hb hs hB hkd => ?_
    exact ⟨by rw [movR_9 (fun h => h hc23) hc28], hb⟩
   ·refine wp_skip' (to_k0 (fun _ _ h => h) (hK5 _ _ _ _ _ ?_))
    clear hK5
    refine wp_seq' fun K8 hK8 => ?_
    refine wp_reg ?_
    obtain ⟨hg, hL1⟩ := idleR_is hc23
    have hok : SmpOk A.start A.ss := hg.smp
    have hll := hok.len
    have hn1 := rowsR_len A.ss (idleM A.ss gap) 0
    have hn2 := rowsR_len A.ss (stillM A.ss slow) least
    have hq1 : (idleR A.d gap).1.length = (rowsR A.ss (idleM A.ss gap) 0).length := by rw [hL1]; rfl
    have hof : ∀ s ∈ (idleR A.d gap).1 ++ rowsR A.ss (stillM A.ss slow) least, OfS (atN A.ss) (A.ss.length - 1) s := fun s hs => by
      rw [hL1] at hs
      rcases List.mem_append.1 hs with h | h
      · exact rowsR_of h
      · exact rowsR_of h
    refine ol_r (r_move rfl) rfl ?_
    refine ol_r (r_lda (id := 4) (n := 6) rfl rfl rfl ag26) rfl ?_
    refine ol_r (r_move rfl) rfl ?_
    refine ol_r (r_move rfl) rfl ?_
    refine ol_call rfl rfl cb74 rfl (fun w1 hb1 hs1 hB1 => ?_)
    refine Calls.mono (track_still A slow least _ (hA.at hb1 hB1) hok (inB_iff.1 (stillC_0 hc28).1)) ?_
    rintro e w2 ⟨⟨a2, c2, rfl, hs2⟩, hb2⟩
    refine After.more rfl hb1 hs1 hB1 hb2 (hs2.kle [(1001, 1021)] (kle_cons rfl (Ent.le_refl _) kle_nil) (by decide)) ?_
    clear hs2 hb2 hB1 hs1 hb1 w2 w1
    refine ol_appendO (id := 1011) (id2 := 1021) encSpan rfl rfl rfl rfl rfl rw46 (by omega) rfl fun a35 c35 => ?_
    refine ol_r (r_assign rfl) rfl ?_
    refine ol_nil (to_k0 (fun _ _ h => h) (hK8 _ _ _ _ _ ?_))
    clear hK8
    refine wp_seq' fun K9 hK9 => ?_
    refine wp_reg ?_
    refine ol_r (r_move rfl) rfl ?_
    refine ol_call rfl rfl cb76 rfl (fun w1 hb1 hs1 hB1 => ?_)
    refine Calls.mono (sort_spans _ 1011 _ _ _ ((idleR A.d gap).1 ++ rowsR A.ss (stillM A.ss slow) least) _ _ _ hB1 hs1 rfl (by omega)) ?_
    rintro e w2 ⟨ys, rfl, hp, hso, hbw, hs2, hB2, hkd2⟩
    refine After.sat rfl hb1 hbw hs2 hB2 (hkd2.imp (fun _ h => h.elim)) ?_
    clear hkd2 hB2 hs2 hbw hB1 hs1 hb1 w2 w1
    refine ol_nil (to_k0 (fun _ _ h => h) (hK9 _ _ _ _ _ ?_))
    clear hK9
    refine wp_seq' fun K10 hK10 => ?_
    refine wp_reg ?_
    refine ol_r (r_lda (id := 4) (n := 6) rfl rfl rfl ag26) rfl ?_
    refine ol_call rfl rfl cb42 rfl (fun w1 hb1 hs1 hB1 => Calls.mono (record_Span A _ (hA.at hb1 hB1)) ?_)
    rintro e w2 ⟨rfl, hb2⟩
    refine After.below rfl hb1 hs1 hB1 hb2 ?_
    clear hb2 hB1 hs1 hb1 w2 w1
    refine ol_r (r_assign rfl) rfl ?_
    refine ol_r (r_assign rfl) rfl ?_
    refine ol_nil (to_k0 (fun _ _ h => h) (hK10 _ _ _ _ _ ?_))
    clear hK10
    refine wp_seq' fun K11 hK11 => ?_
    refine wp_seq' fun K12 hK12 => ?_
    refine wp_reg ?_
    have hyl : ys.length = (idleR A.d gap).1.length + (rowsR A.ss (stillM A.ss slow) least).length := by rw [hp.length_eq, List.length_append]
    have hr := riseN hok
    have hofy : ∀ s ∈ ys, OfS (atN A.ss) (A.ss.length - 1) s := fun s hs => hof s (hp.mem_iff.1 hs)
    refine ol_r (r_move rfl) rfl ?_
    refine ol_r (r_len rfl sl46) rfl ?_
    refine ol_r (r_move rfl) rfl ?_
    refine ol_nil (to_k0 (fun _ _ h => h) (hK12 _ _ _ _ _ ?_))
    clear hK12
    refine wp_block' ?_
    apply wp_loopM (σ := Nat × Int × Int) (fun s => s.1 ≤ (idleR A.d gap).1.length + (rowsR A.ss (stillM A.ss slow) least).length ∧ Swp (atN A.ss) (A.ss.length - 1) (ys.take s.1) s.2.1 s.2.2) (fun s => [(42, .int .i64 s.1), (12, .int .i64 s.2.1), (13, .int .i64 s.2.2)]) [(8, _), (9, _), (40, _), (41, _)] (fun s => []) [(4, _), (1011, _), (1021, _)] (fun s => (idleR A.d gap).1.length + (rowsR A.ss (stillM A.ss slow) least).length - s.1) ((0, spanL A.ss, 0))
    ·try dsimp only
     refine ⟨Nat.zero_le _, ?_⟩
     have h := Swp.start (a := atN A.ss) (N := A.ss.length - 1) (n := spanL A.ss) (by rw [atN_zero hok, atN_last]; omega)
     rw [atN_zero hok] at h
     exact h
    ·exact (sub_cons rfl (sub_cons rfl (sub_cons rfl sub_nil)))
    ·exact (sub_cons rfl (sub_cons rfl (sub_cons rfl (sub_cons rfl sub_nil))))
    ·exact subH_nil
    ·exact (subH_same rfl (subH_same rfl (subH_same rfl subH_nil)))
    ·rintro ⟨i, n, z⟩ ⟨hi, hS⟩
     dsimp only at hi hS ⊢
     have hub := uncS_bd hr (ys.take i) _ (Nat.le_refl _)
     rw [← hS.cnt, atN_zero hok] at hub
     have hlb := atN_bd hok (A.ss.length - 1)
     have hzb : 0 ≤ z ∧ z ≤ 1000000 := by
       obtain ⟨v, _, hv⟩ := hS.at_
       rw [hv]; exact atN_bd hok v
     intro K13 hK13
     refine wp_seq' fun K14 hK14 => ?_
     refine wp_reg ?_
     refine ol_r (r_lss rfl rfl) rfl ?_
     refine ol_nil (to_k0 (fun _ _ h => h) (hK14 _ _ _ _ _ ?_))
     clear hK14
     refine wp_seq' fun K15 hK15 => ?_
     first | refine wp_condD rfl (fun hc43 => ?_) (fun hc43 => ?_) | refine wp_condN rfl (fun hc43 => ?_) (fun hc43 => ?_) | refine wp_condNB rfl (fun hc43 => ?_) (fun hc43 => ?_) | refine wp_cond' rfl (fun hc43 => ?_) (fun hc43 => ?_)
     ·refine wp_skip' (to_k0 (fun _ _ h => h) (hK15 _ _ _ _ _ ?_))
      clear hK15
      refine wp_seq' fun K16 hK16 => ?_
      refine wp_block' ?_
      refine wp_seq' fun K17 hK17 => ?_
      refine wp_reg ?_
      refine ol_ixo (id := 1011) encSpan _ rfl rfl rfl rfl sl46 (by omega) rfl fun x44 hx44 => ?_
      try simp only [Int.toNat_natCast] at hx44
      try simp only [Int.toNat_natCast] at hx44
      refine ol_r (r_ldw rfl (fun w1 hb1 hs1 hB1 => ld_own (id := 1011) hs1 rfl rfl ty54 hx44)) rfl ?_
      refine ol_alloc 15 z54 rfl fun b15 => ?_
      refine ol_store (id := 15) rfl rfl rfl rfl sz54 rfl rfl (by first | decide | exact Nat.zero_lt_succ _ | simp) ?_
      refine ol_nil (to_k0 (fun _ _ h => h) (hK17 _ _ _ _ _ ?_))
      clear hK17
      refine wp_seq' fun K18 hK18 => ?_
      refine wp_reg ?_
      have hO := hofy x44 (List.mem_of_getElem? hx44)
      have hOb := ofS_bd hok hO
      have hord : ∀ t ∈ ys.take i, t.from_ ≤ x44.from_ := fun t ht => by
        obtain ⟨j, hj⟩ := List.mem_iff_getElem?.1 ht
        have hjl := (List.getElem?_eq_some_iff.1 hj).1
        rw [List.length_take] at hjl
        rw [List.getElem?_take, if_pos (by omega)] at hj
        exact hso j i t x44 (by omega) hj hx44
      refine ol_r (r_fa (o' := 1) rfl fl54_1 rfl) rfl ?_
      refine ol_r (r_ld (id := 15) rfl rfl rfl sc3) rfl ?_
      refine ol_r (r_move rfl) rfl ?_
      refine ol_r (r_geq rfl rfl) rfl ?_
      refine ol_nil (to_k0 (fun _ _ h => h) (hK18 _ _ _ _ _ ?_))
      clear hK18
      first | refine wp_condD rfl (fun hc49 => ?_) (fun hc49 => ?_) | refine wp_condN rfl (fun hc49 => ?_) (fun hc49 => ?_) | refine wp_condNB rfl (fun hc49 => ?_) (fun hc49 => ?_) | refine wp_cond' rfl (fun hc49 => ?_) (fun hc49 => ?_)
      ·refine wp_seq' fun K19 hK19 => ?_
       refine wp_reg ?_
       refine ol_r (r_move rfl) rfl ?_
       refine ol_r (r_fa (o' := 1) rfl fl54_1 rfl) rfl ?_
       refine ol_r (r_ld (id := 15) rfl rfl rfl sc3) rfl ?_
       refine ol_r (r_add rfl rfl (by omega)) rfl ?_
       refine ol_r (r_fa (o' := 0) rfl fl54_0 rfl) rfl ?_
       refine ol_r (r_ld (id := 15) rfl rfl rfl sc3) rfl ?_
       refine ol_r (r_move rfl) rfl ?_
       refine ol_r (r_max rfl rfl) rfl ?_
       refine ol_r (r_sub rfl rfl (by omega)) rfl ?_
       refine ol_r (r_sub rfl rfl (by omega)) rfl ?_
       refine ol_r (r_assign rfl) rfl ?_
       refine ol_nil (to_k0 (fun _ _ h => h) (hK19 _ _ _ _ _ ?_))
       clear hK19
       refine wp_reg ?_
       refine ol_r (r_fa (o' := 1) rfl fl54_1 rfl) rfl ?_
       refine ol_r (r_ld (id := 15) rfl rfl rfl sc3) rfl ?_
       refine ol_r (r_add rfl rfl (by omega)) rfl ?_
       refine ol_r (r_assign rfl) rfl ?_
       refine ol_nil (to_k0 (fun _ _ h => h) (hK16 _ _ _ _ _ ?_))
       clear hK16
       refine wp_reg ?_
       refine ol_r (r_add rfl rfl (by omega)) rfl ?_
       refine ol_r (r_move rfl) rfl ?_
       refine ol_nil (to_k0 (fun _ _ h => h) (hK13 ((i + 1, _, _)) _ _ ?_ ?_ (sub_cons rfl (sub_cons rfl (sub_cons rfl sub_nil))) (sub_cons rfl (sub_cons rfl (sub_cons rfl (sub_cons rfl sub_nil)))) (by exact subH_nil) (subH_same rfl (subH_same rfl (subH_same rfl subH_nil)))))
       ·try dsimp only
        refine ⟨by omega, ?_⟩
        rw [take_succ_get hx44]
        exact hS.take hr hO hord hc49
       ·try dsimp only
        omega
      ·refine wp_skip' (to_k0 (fun _ _ h => h) (hK16 _ _ _ _ _ ?_))
       clear hK16
       refine wp_reg ?_
       refine ol_r (r_add rfl rfl (by omega)) rfl ?_
       refine ol_r (r_move rfl) rfl ?_
       refine ol_nil (to_k0 (fun _ _ h => h) (hK13 ((i + 1, _, _)) _ _ ?_ ?_ (sub_cons rfl (sub_cons rfl (sub_cons rfl sub_nil))) (sub_cons rfl (sub_cons rfl (sub_cons rfl (sub_cons rfl sub_nil)))) (by exact subH_nil) (subH_same rfl (subH_same rfl (subH_same rfl subH_nil)))))
       ·try dsimp only
        refine ⟨by omega, ?_⟩
        rw [take_succ_get hx44]
        exact hS.skip hr hO hord (by omega)
       ·try dsimp only
        omega
     ·refine wp_exit' (to_k0 (fun _ _ h => h) (hK11 _ _ _ _ _ ?_))
      clear hK11
      refine wp_seq' fun K20 hK20 => ?_
      refine wp_reg ?_
      refine ol_r (r_move rfl) rfl ?_
      refine ol_r (r_assign rfl) rfl ?_
      refine ol_r (r_assign rfl) rfl ?_
      refine ol_nil (to_k0 (fun _ _ h => h) (hK20 _ _ _ _ _ ?_))
      clear hK20
      refine hQ.ret (rvs2 (rv_t rfl) (rv_t rfl)) (fun _ _ h => h) fun w hb hs hB hkd => ?_
      have hil : i = ys.length := by omega
      subst hil
      have hcnt := hS.cnt
      rw [List.take_length, uncS_perm hp] at hcnt
      refine ⟨?_, hb⟩
      rw [movR_0 (fun h => h hc23) hc28]
      show _ = Ending.returned (Value.tuple #[.int .i64 (uncS (atN A.ss) ((idleR A.d gap).1 ++ rowsR A.ss (stillM A.ss slow) least) (A.ss.length - 1)), .int .i64 0])
      rw [← hcnt]
  ·refine wp_skip' (to_k0 (fun _ _ h => h) (hK3 _ _ _ _ _ ?_))
   clear hK3
   refine wp_seq' fun K21 hK21 => ?_
   refine wp_seq' fun K22 hK22 => ?_
   refine wp_reg ?_
   refine ol_r (r_move rfl) rfl ?_
   refine ol_r (r_neq rfl rfl) rfl ?_
   refine ol_nil (to_k0 (fun _ _ h => h) (hK22 _ _ _ _ _ ?_))
   clear hK22
   first | refine wp_condD rfl (fun hc28 => ?_) (fun hc28 => ?_) | refine wp_condN rfl (fun hc28 => ?_) (fun hc28 => ?_) | refine wp_condNB rfl (fun hc28 => ?_) (fun hc28 => ?_) | refine wp_cond' rfl (fun hc28 => ?_) (fun hc28 => ?_)
   ·refine wp_seq' fun K23 hK23 => ?_
    refine wp_reg ?_
    refine ol_r (r_move rfl) rfl ?_
    refine ol_r (r_assign rfl) rfl ?_
    refine ol_r (r_assign rfl) rfl ?_
    refine ol_nil (to_k0 (fun _ _ h => h) (hK23 _ _ _ _ _ ?_))
    clear hK23
    refine hQ.ret (rvs2 (rv_t rfl) (rv_t rfl)) (fun _ _ h => h) fun w hb hs hB hkd => ?_
    exact ⟨by rw [movR_e hc23], hb⟩
   ·exfalso
    exact hc28 hc23
end Go.Proofs.Ytogcclagmobkiaa
