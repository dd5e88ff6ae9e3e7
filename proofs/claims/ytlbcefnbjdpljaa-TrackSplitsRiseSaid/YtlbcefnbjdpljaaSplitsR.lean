/-
  TrackSplitsRise: the walk of the law.
-/
import Derived.Test.YtlbcefnbjdpljaaSplits
namespace Go.Proofs.Ytlbcefnbjdpljaa
open Go Go.RowKit Hx
set_option linter.unusedVariables false
set_option linter.unusedSimpArgs false
set_option maxRecDepth 8000
theorem splitsR_inv {a : ActD} {way : Int} (h : (splitsR a way).2 = 0) : chkA a = 0 ∧ (1 ≤ way ∧ way ≤ 1000000000) ∧ (splitsR a way).1 = splK a.ss way (a.ss.length - 1) := by
  by_cases h0 : chkA a = 0
  · by_cases h1 : 1 ≤ way ∧ way ≤ 1000000000
    · by_cases h2 : 10000 < wayN a.ss (a.ss.length - 1) / way
      · rw [splitsR_3 h0 h1 h2] at h; exact absurd h (by show ¬((3 : Int) = 0); omega)
      · exact ⟨h0, h1, by rw [splitsR_0 h0 h1 h2]⟩
    · rw [splitsR_9 h0 h1] at h; exact absurd h (by show ¬((9 : Int) = 0); omega)
  · rw [splitsR_e h0] at h; exact absurd h h0
/-- The splits lie in order, and not beyond the end. -/
theorem splits_ok {st : Int} {ss : List SmpR} {way : Int} (hok : SmpOk st ss) (hw : 1 ≤ way) : SpOk way (splK ss way (ss.length - 1)) (1000 * spanL ss) := by
  cases h : ss[ss.length - 1]? with
  | none =>
    have := List.getElem?_eq_none_iff.1 h
    have h2 : ss = [] := List.length_eq_zero_iff.1 (by omega)
    subst h2
    exact spOk_nil _ _
  | some x =>
    have h2 := (List.getElem?_eq_some_iff.1 h).1
    rw [spanL_get h (by omega)]
    exact splK_ok hok hw _ _ h
theorem SmpOk.spanS {st : Int} {ss : List SmpR} (h : SmpOk st ss) : 0 ≤ spanL ss ∧ spanL ss ≤ 1000000 := by
  unfold spanL
  split
  · rename_i x hx
    have := h.bd x (List.mem_of_getElem? hx)
    omega
  · omega
theorem law3_length (A : ActV) (w : World) (hA : A.Ok w.heap.size w) (h0 : chkA A.d = 0) :
    Calls Try.prog 34 #[.agg #[.string A.name, .int .i64 A.sport, .int .i64 A.start, .slice A.sa A.sn A.sc, .slice A.la A.ln A.lc, .slice A.ta A.tn A.tc]] w fun e w' => e = .returned (.int .i64 (wayN A.ss (A.ss.length - 1))) ∧ Below w.heap.size w w' := by
  have hwl := wayL_len A.ss
  have hl20 : A.ss.length ≤ 20000 := (goodA h0).smp.len
  have hW : (waysR A.d).1 = wayL A.ss := by rw [waysR_0 (fun h => h h0)]; rfl
  refine enterQ (N := 19) (C := fun _ => True) (H := []) (B := w.heap.size) (args := [_]) Try.func34 rfl rfl rfl (Nat.le_refl _) (Sat.nil _ _) fun Q hQ => ?_
  refine wp_seq' fun K1 hK1 => ?_
  refine wp_reg ?_
  refine ol_box 1 rfl rfl rfl fun b1 => ?_
  refine ol_r (r_assign rfl) rfl ?_
  refine ol_nil (to_k0 (fun _ _ h => h) (hK1 _ _ _ _ _ ?_))
  clear hK1
  refine wp_seq' fun K2 hK2 => ?_
  refine wp_reg ?_
  refine ol_r (r_lda (id := 1) (n := 6) rfl rfl rfl ag26) rfl ?_
  refine ol_call rfl rfl cb17 rfl (fun w1 hb1 hs1 hB1 => Calls.mono (track_Ways A _ (hA.at hb1 hB1)) ?_)
  rintro e w2 ⟨a7, n7, c7, rfl, hf7⟩
  refine After.fresh (id := 7) rfl hb1 hs1 hB1 hf7 ?_
  have hl7 := hf7.len; clear hf7 hB1 hs1 hb1 w2 w1
  refine ol_r (r_move rfl) rfl ?_
  refine ol_r (r_extract rfl rfl) rfl ?_
  refine ol_r (r_extract rfl rfl) rfl ?_
  refine ol_r (r_assign rfl) rfl ?_
  refine ol_r (r_assign rfl) rfl ?_
  refine ol_nil (to_k0 (fun _ _ h => h) (hK2 _ _ _ _ _ ?_))
  clear hK2
  refine wp_seq' fun K3 hK3 => ?_
  refine wp_seq' fun K4 hK4 => ?_
  refine wp_reg ?_
  rw [hW] at hl7
  simp only [hW]
  refine ol_r (r_move rfl) rfl ?_
  refine ol_r (r_len rfl sl34) rfl ?_
  refine ol_r (r_eql rfl rfl) rfl ?_
  refine ol_nil (to_k0 (fun _ _ h => h) (hK4 _ _ _ _ _ ?_))
  clear hK4
  first | refine wp_condD rfl (fun hc12 => ?_) (fun hc12 => ?_) | refine wp_condN rfl (fun hc12 => ?_) (fun hc12 => ?_) | refine wp_condNB rfl (fun hc12 => ?_) (fun hc12 => ?_) | refine wp_cond' rfl (fun hc12 => ?_) (fun hc12 => ?_)
  ·refine wp_seq' fun K5 hK5 => ?_
   refine wp_reg ?_
   refine ol_r (r_assign rfl) rfl ?_
   refine ol_nil (to_k0 (fun _ _ h => h) (hK5 _ _ _ _ _ ?_))
   clear hK5
   refine hQ.ret (rvs1 (rv_t rfl)) (fun _ _ h => h) fun w hb hs hB hkd => ?_
   exact ⟨by rw [show A.ss.length - 1 = 0 by omega, wayN_zero], hb⟩
  ·refine wp_skip' (to_k0 (fun _ _ h => h) (hK3 _ _ _ _ _ ?_))
   clear hK3
   refine wp_seq' fun K6 hK6 => ?_
   refine wp_reg ?_
   refine ol_r (r_move rfl) rfl ?_
   refine ol_r (r_move rfl) rfl ?_
   refine ol_r (r_len rfl sl34) rfl ?_
   refine ol_r (r_sub rfl rfl (by omega)) rfl ?_
   refine ol_ixo (id := 7) encI _ rfl rfl rfl rfl sl34 (by omega) rfl fun x17 hx17 => ?_
   try simp only [Int.toNat_natCast] at hx17
   try simp only [Int.toNat_natCast] at hx17
   refine ol_r (r_ldw rfl (fun w1 hb1 hs1 hB1 => show Loads _ _ _ _ (.int .i64 x17) from ld_own (id := 7) hs1 rfl rfl ty3 hx17)) rfl ?_
   refine ol_r (r_assign rfl) rfl ?_
   refine ol_nil (to_k0 (fun _ _ h => h) (hK6 _ _ _ _ _ ?_))
   clear hK6
   refine hQ.ret (rvs1 (rv_t rfl)) (fun _ _ h => h) fun w hb hs hB hkd => ?_
   have h17 := runW_get hx17
   rw [show ((n7 : Int) - 1).toNat = A.ss.length - 1 by omega] at h17
   exact ⟨by rw [h17], hb⟩
theorem law3_span (A : ActV) (w : World) (hA : A.Ok w.heap.size w) :
    Calls Try.prog 35 #[.agg #[.string A.name, .int .i64 A.sport, .int .i64 A.start, .slice A.sa A.sn A.sc, .slice A.la A.ln A.lc, .slice A.ta A.tn A.tc]] w fun e w' => e = .returned (.int .i64 (spanL A.ss)) ∧ Below w.heap.size w w' := by
  have hsn := hA.s.len
  have hsf := hA.s.fit
  refine enterQ (N := 16) (C := fun _ => True) (H := []) (B := w.heap.size) (args := [_]) Try.func35 rfl rfl rfl (Nat.le_refl _) (Sat.nil _ _) fun Q hQ => ?_
  refine wp_seq' fun K1 hK1 => ?_
  refine wp_reg ?_
  refine ol_box 1 rfl rfl rfl fun b1 => ?_
  refine ol_r (r_assign rfl) rfl ?_
  refine ol_nil (to_k0 (fun _ _ h => h) (hK1 _ _ _ _ _ ?_))
  clear hK1
  refine wp_seq' fun K2 hK2 => ?_
  refine wp_seq' fun K3 hK3 => ?_
  refine wp_reg ?_
  refine ol_r (r_fa (o' := 3) rfl fl26_3 rfl) rfl ?_
  refine ol_r (r_ld (id := 1) rfl rfl rfl sc22) rfl ?_
  refine ol_r (r_len rfl sl22) rfl ?_
  refine ol_r (r_eql rfl rfl) rfl ?_
  refine ol_nil (to_k0 (fun _ _ h => h) (hK3 _ _ _ _ _ ?_))
  clear hK3
  first | refine wp_condD rfl (fun hc6 => ?_) (fun hc6 => ?_) | refine wp_condN rfl (fun hc6 => ?_) (fun hc6 => ?_) | refine wp_condNB rfl (fun hc6 => ?_) (fun hc6 => ?_) | refine wp_cond' rfl (fun hc6 => ?_) (fun hc6 => ?_)
  ·refine wp_seq' fun K4 hK4 => ?_
   refine wp_reg ?_
   refine ol_r (r_assign rfl) rfl ?_
   refine ol_nil (to_k0 (fun _ _ h => h) (hK4 _ _ _ _ _ ?_))
   clear hK4
   refine hQ.ret (rvs1 (rv_t rfl)) (fun _ _ h => h) fun w hb hs hB hkd => ?_
   exact ⟨by rw [spanL_nil (by omega)], hb⟩
  ·refine wp_skip' (to_k0 (fun _ _ h => h) (hK2 _ _ _ _ _ ?_))
   clear hK2
   refine wp_seq' fun K5 hK5 => ?_
   refine wp_reg ?_
   refine ol_r (r_fa (o' := 3) rfl fl26_3 rfl) rfl ?_
   refine ol_r (r_ld (id := 1) rfl rfl rfl sc22) rfl ?_
   refine ol_r (r_fa (o' := 3) rfl fl26_3 rfl) rfl ?_
   refine ol_r (r_ld (id := 1) rfl rfl rfl sc22) rfl ?_
   refine ol_r (r_len rfl sl22) rfl ?_
   refine ol_r (r_sub rfl rfl (by omega)) rfl ?_
   refine ol_ixr hA.s rfl rfl sl22 (by omega) rfl fun x13 hx13 => ?_
   try simp only [Int.toNat_natCast] at hx13
   refine ol_r (r_faw rfl (ix_some hA.s (by omega)) fl36_0) rfl ?_
   refine ol_r (r_ldw rfl (fun w1 hb1 hs1 hB1 => Rd.loadsF (o := 0) hA.s sc3 hx13 hb1 rfl)) rfl ?_
   refine ol_r (r_assign rfl) rfl ?_
   refine ol_nil (to_k0 (fun _ _ h => h) (hK5 _ _ _ _ _ ?_))
   clear hK5
   refine hQ.ret (rvs1 (rv_t rfl)) (fun _ _ h => h) fun w hb hs hB hkd => ?_
   exact ⟨by rw [spanL_get hx13 (by omega)], hb⟩
theorem law_splitsRise (A : ActV) (way : Int) (w : World) (hA : A.Ok w.heap.size w) :
    Calls Try.prog 11 #[.agg #[.string A.name, .int .i64 A.sport, .int .i64 A.start, .slice A.sa A.sn A.sc, .slice A.la A.ln A.lc, .slice A.ta A.tn A.tc], .int .i64 way] w fun e w' => e = .returned (.bool true) ∧ Below w.heap.size w w' := by
  refine enterQ (N := 69) (C := fun _ => True) (H := []) (B := w.heap.size) (args := [_, _]) Try.func11 rfl rfl rfl (Nat.le_refl _) (Sat.nil _ _) fun Q hQ => ?_
  refine wp_seq' fun K1 hK1 => ?_
  refine wp_reg ?_
  refine ol_box 2 rfl rfl rfl fun b2 => ?_
  refine ol_r (r_assign rfl) rfl ?_
  refine ol_nil (to_k0 (fun _ _ h => h) (hK1 _ _ _ _ _ ?_))
  clear hK1
  refine wp_seq' fun K2 hK2 => ?_
  refine wp_reg ?_
  refine ol_r (r_lda (id := 2) (n := 6) rfl rfl rfl ag26) rfl ?_
  refine ol_r (r_move rfl) rfl ?_
  refine ol_call rfl rfl cb31 rfl (fun w1 hb1 hs1 hB1 => Calls.mono (track_Splits A way _ (hA.at hb1 hB1)) ?_)
  rintro e w2 ⟨a12, n12, c12, rfl, hf12⟩
  refine After.fresh (id := 12) rfl hb1 hs1 hB1 hf12 ?_
  have hl12 := hf12.len; clear hf12 hB1 hs1 hb1 w2 w1
  refine ol_r (r_move rfl) rfl ?_
  refine ol_r (r_extract rfl rfl) rfl ?_
  refine ol_r (r_extract rfl rfl) rfl ?_
  refine ol_r (r_assign rfl) rfl ?_
  refine ol_r (r_assign rfl) rfl ?_
  refine ol_nil (to_k0 (fun _ _ h => h) (hK2 _ _ _ _ _ ?_))
  clear hK2
  refine wp_seq' fun K3 hK3 => ?_
  refine wp_seq' fun K4 hK4 => ?_
  refine wp_reg ?_
  refine ol_r (r_move rfl) rfl ?_
  refine ol_r (r_neq rfl rfl) rfl ?_
  refine ol_nil (to_k0 (fun _ _ h => h) (hK4 _ _ _ _ _ ?_))
  clear hK4
  first | refine wp_condD rfl (fun hc16 => ?_) (fun hc16 => ?_) | refine wp_condN rfl (fun hc16 => ?_) (fun hc16 => ?_) | refine wp_condNB rfl (fun hc16 => ?_) (fun hc16 => ?_) | refine wp_cond' rfl (fun hc16 => ?_) (fun hc16 => ?_)
  ·refine wp_seq' fun K5 hK5 => ?_
   refine wp_reg ?_
   refine ol_call rfl rfl cb14 rfl (fun w1 hb1 hs1 hB1 => Calls.mono (law3_told _) ?_)
   rintro e w2 ⟨rfl, hb2⟩
   refine After.below rfl hb1 hs1 hB1 hb2 ?_
   clear hb2 hB1 hs1 hb1 w2 w1
   refine ol_r (r_assign rfl) rfl ?_
   refine ol_nil (to_k0 (fun _ _ h => h) (hK5 _ _ _ _ _ ?_))
   clear hK5
   refine hQ.ret (rvs1 (rv_t rfl)) (fun _ _ h => h) fun w hb hs hB hkd => ?_
   first
     | exact ⟨rfl, hb⟩
     | (exfalso; omega)
  ·refine wp_skip' (to_k0 (fun _ _ h => h) (hK3 _ _ _ _ _ ?_))
   clear hK3
   refine wp_seq' fun K6 hK6 => ?_
   refine wp_seq' fun K7 hK7 => ?_
   refine wp_reg ?_
   obtain ⟨h0, hw, hL⟩ := splitsR_inv (Decidable.not_not.1 hc16)
   change (splitsR A.d way).1 = splK A.ss way (A.ss.length - 1) at hL
   have hok : SmpOk A.start A.ss := (goodA h0).smp
   have hl20 := hok.len
   have hlen := splK_len hok hw.1 (A.ss.length - 1)
   have hsp := spN_eq hok hw.1 (A.ss.length - 1)
   have hsb := spN_bd hok hw.1 (A.ss.length - 1)
   have hwb := wayN_bd hok (A.ss.length - 1)
   have hso := splits_ok hok hw.1
   have hspan := hok.spanS
   have hll := hl12
   rw [hL] at hl12
   refine ol_r (r_move rfl) rfl ?_
   refine ol_r (r_len rfl sl60) rfl ?_
   refine ol_r (r_lda (id := 2) (n := 6) rfl rfl rfl ag26) rfl ?_
   refine ol_call rfl rfl cb34 rfl (fun w1 hb1 hs1 hB1 => Calls.mono (law3_length A _ (hA.at hb1 hB1) h0) ?_)
   rintro e w2 ⟨rfl, hb2⟩
   refine After.below rfl hb1 hs1 hB1 hb2 ?_
   clear hb2 hB1 hs1 hb1 w2 w1
   refine ol_r (r_move rfl) rfl ?_
   first | refine ol_r (r_quo rfl rfl (by omega)) rfl ?_ | refine ol_r (r_tquo rfl rfl (by omega)) rfl ?_
   refine ol_r (r_neq rfl rfl) rfl ?_
   refine ol_nil (to_k0 (fun _ _ h => h) (hK7 _ _ _ _ _ ?_))
   clear hK7
   first | refine wp_condD rfl (fun hc24 => ?_) (fun hc24 => ?_) | refine wp_condN rfl (fun hc24 => ?_) (fun hc24 => ?_) | refine wp_condNB rfl (fun hc24 => ?_) (fun hc24 => ?_) | refine wp_cond' rfl (fun hc24 => ?_) (fun hc24 => ?_)
   ·refine wp_seq' fun K8 hK8 => ?_
    refine wp_reg ?_
    refine ol_r (r_assign rfl) rfl ?_
    refine ol_nil (to_k0 (fun _ _ h => h) (hK8 _ _ _ _ _ ?_))
    clear hK8
    refine hQ.ret (rvs1 (rv_t rfl)) (fun _ _ h => h) fun w hb hs hB hkd => ?_
    first
      | exact ⟨rfl, hb⟩
      | (exfalso; omega)
   ·refine wp_skip' (to_k0 (fun _ _ h => h) (hK6 _ _ _ _ _ ?_))
    clear hK6
    refine wp_seq' fun K9 hK9 => ?_
    refine wp_seq' fun K10 hK10 => ?_
    refine wp_reg ?_
    refine ol_r (r_move rfl) rfl ?_
    refine ol_r (r_len rfl sl60) rfl ?_
    refine ol_r (r_move rfl) rfl ?_
    refine ol_nil (to_k0 (fun _ _ h => h) (hK10 _ _ _ _ _ ?_))
    clear hK10
    refine wp_block' ?_
    apply wp_loopM (σ := Nat) (fun s => s ≤ n12) (fun s => [(27, .int .i64 s)]) [(1, _), (2, _), (5, _), (25, _), (26, _)] (fun s => []) [(2, _), (12, _)] (fun s => n12 - s) (0)
    ·try dsimp only
     simp
    ·exact (sub_cons rfl sub_nil)
    ·exact (sub_cons rfl (sub_cons rfl (sub_cons rfl (sub_cons rfl (sub_cons rfl sub_nil)))))
    ·exact subH_nil
    ·exact (subH_same rfl (subH_same rfl subH_nil))
    ·rintro k hk
     intro K11 hK11
     refine wp_seq' fun K12 hK12 => ?_
     refine wp_reg ?_
     refine ol_r (r_lss rfl rfl) rfl ?_
     refine ol_nil (to_k0 (fun _ _ h => h) (hK12 _ _ _ _ _ ?_))
     clear hK12
     refine wp_seq' fun K13 hK13 => ?_
     first | refine wp_condD rfl (fun hc28 => ?_) (fun hc28 => ?_) | refine wp_condN rfl (fun hc28 => ?_) (fun hc28 => ?_) | refine wp_condNB rfl (fun hc28 => ?_) (fun hc28 => ?_) | refine wp_cond' rfl (fun hc28 => ?_) (fun hc28 => ?_)
     ·refine wp_skip' (to_k0 (fun _ _ h => h) (hK13 _ _ _ _ _ ?_))
      clear hK13
      refine wp_seq' fun K14 hK14 => ?_
      refine wp_block' ?_
      refine wp_seq' fun K15 hK15 => ?_
      refine wp_reg ?_
      refine ol_r (r_move rfl) rfl ?_
      refine ol_ixo (id := 12) encSplit _ rfl rfl rfl rfl sl60 (by omega) rfl fun x30 hx30 => ?_
      try simp only [Int.toNat_natCast] at hx30
      try simp only [Int.toNat_natCast] at hx30
      refine ol_r (r_ldw rfl (fun w1 hb1 hs1 hB1 => ld_own (id := 12) hs1 rfl rfl ty65 hx30)) rfl ?_
      refine ol_alloc 8 z65 rfl fun b8 => ?_
      refine ol_r (r_assign rfl) rfl ?_
      refine ol_store (id := 8) rfl rfl rfl rfl sz65 rfl rfl (by first | decide | exact Nat.zero_lt_succ _ | simp) ?_
      refine ol_nil (to_k0 (fun _ _ h => h) (hK15 _ _ _ _ _ ?_))
      clear hK15
      refine wp_seq' fun K16 hK16 => ?_
      refine wp_regq (by kernel_rfl) (by kernel_rfl) ?_
      refine ql_r (r_fa (o' := 0) rfl fl65_0 rfl) rfl ?_
      have hq := hso k x30 (by rw [← hL]; exact hx30)
      have hmul : ((k : Int) + 1) * way ≤ (spN A.ss way (A.ss.length - 1) : Int) * way := Int.mul_le_mul_of_nonneg_right (by omega) (by omega)
      have hmul0 : 0 ≤ ((k : Int) + 1) * way := Int.mul_nonneg (by omega) (by omega)
      obtain ⟨q1, q2, q3, q4⟩ := hq
      refine ql_r (r_ld (id := 8) rfl rfl rfl sc3) rfl ?_
      refine ql_r (r_move rfl) rfl ?_
      refine ql_r (r_add rfl rfl (by omega)) rfl ?_
      refine ql_r (r_move rfl) rfl ?_
      refine ql_r (r_mul rfl rfl (by omega)) rfl ?_
      refine ql_r (r_neq rfl rfl) rfl ?_
      refine ql_r (r_move rfl) rfl ?_
      refine ql_split (d := 39) rfl (fun hs39 => ?_) (fun hs39 => ?_)
      ·have phs39 := hs39; try simp only [decide_eq_true_eq, decide_eq_false_iff_not, Bool.not_eq_true', Bool.not_eq_false', Bool.not_true, Bool.not_false] at phs39
       refine ql_s rfl rfl hs39 rfl ?_
       refine ql_s rfl rfl hs39 rfl ?_
       refine ql_s rfl rfl hs39 rfl ?_
       refine ql_r (r_pickT rfl hs39 rfl) rfl ?_
       refine ql_r (r_move rfl) rfl ?_
       refine ql_s rfl rfl rfl rfl ?_
       refine ql_s rfl rfl rfl rfl ?_
       refine ql_s rfl rfl rfl rfl ?_
       refine ql_s rfl rfl rfl rfl ?_
       refine ql_s rfl rfl rfl rfl ?_
       refine ql_s rfl rfl rfl rfl ?_
       refine ql_r (r_pickT rfl rfl rfl) rfl ?_
       refine ql_r (r_move rfl) rfl ?_
       refine ql_s rfl rfl rfl rfl ?_
       refine ql_s rfl rfl rfl rfl ?_
       refine ql_s rfl rfl rfl rfl ?_
       refine ql_u rfl rfl rfl ?_
       refine ql_u rfl rfl rfl ?_
       refine ql_u rfl rfl rfl ?_
       refine ql_u rfl rfl rfl ?_
       refine ql_u rfl rfl rfl ?_
       refine ql_u rfl rfl rfl ?_
       refine ql_u rfl rfl rfl ?_
       refine ql_u rfl rfl rfl ?_
       refine ql_u rfl rfl rfl ?_
       refine ql_s rfl rfl rfl rfl ?_
       refine ql_r (r_pickT rfl rfl rfl) rfl ?_
       refine ql_nil (to_k0 (fun _ _ h => h) (hK16 _ _ _ _ _ ?_))
       clear hK16
       refine wp_condT rfl ?_
       refine wp_seq' fun K17 hK17 => ?_
       refine wp_reg ?_
       refine ol_r (r_assign rfl) rfl ?_
       refine ol_nil (to_k0 (fun _ _ h => h) (hK17 _ _ _ _ _ ?_))
       clear hK17
       refine hQ.ret (rvs1 (rv_t rfl)) (fun _ _ h => h) fun w hb hs hB hkd => ?_
       first
         | exact ⟨rfl, hb⟩
         | (exfalso; omega)
      ·have phs39 := hs39; try simp only [decide_eq_true_eq, decide_eq_false_iff_not, Bool.not_eq_true', Bool.not_eq_false', Bool.not_true, Bool.not_false] at phs39
       refine ql_g rfl rfl hs39 ?_
       refine ql_r (r_fa (o' := 1) rfl fl65_1 rfl) rfl ?_
       refine ql_g rfl rfl hs39 ?_
       refine ql_r (r_ld (id := 8) rfl rfl rfl sc3) rfl ?_
       refine ql_g rfl rfl hs39 ?_
       refine ql_r (r_lss rfl rfl) rfl ?_
       refine ql_r (r_pickF rfl hs39 rfl) rfl ?_
       refine ql_r (r_move rfl) rfl ?_
       refine ql_split (d := 44) rfl (fun hs44 => ?_) (fun hs44 => ?_)
       ·have phs44 := hs44; try simp only [decide_eq_true_eq, decide_eq_false_iff_not, Bool.not_eq_true', Bool.not_eq_false', Bool.not_true, Bool.not_false] at phs44
        refine ql_s rfl rfl hs44 rfl ?_
        refine ql_s rfl rfl hs44 rfl ?_
        refine ql_s rfl rfl hs44 rfl ?_
        refine ql_s rfl rfl hs44 rfl ?_
        refine ql_s rfl rfl hs44 rfl ?_
        refine ql_s rfl rfl hs44 rfl ?_
        refine ql_r (r_pickT rfl hs44 rfl) rfl ?_
        refine ql_r (r_move rfl) rfl ?_
        refine ql_s rfl rfl rfl rfl ?_
        refine ql_s rfl rfl rfl rfl ?_
        refine ql_s rfl rfl rfl rfl ?_
        refine ql_u rfl rfl rfl ?_
        refine ql_u rfl rfl rfl ?_
        refine ql_u rfl rfl rfl ?_
        refine ql_u rfl rfl rfl ?_
        refine ql_u rfl rfl rfl ?_
        refine ql_u rfl rfl rfl ?_
        refine ql_u rfl rfl rfl ?_
        refine ql_u rfl rfl rfl ?_
        refine ql_u rfl rfl rfl ?_
        refine ql_s rfl rfl rfl rfl ?_
        refine ql_r (r_pickT rfl rfl rfl) rfl ?_
        refine ql_nil (to_k0 (fun _ _ h => h) (hK16 _ _ _ _ _ ?_))
        clear hK16
        refine wp_condT rfl ?_
        refine wp_seq' fun K18 hK18 => ?_
        refine wp_reg ?_
        refine ol_r (r_assign rfl) rfl ?_
        refine ol_nil (to_k0 (fun _ _ h => h) (hK18 _ _ _ _ _ ?_))
        clear hK18
        refine hQ.ret (rvs1 (rv_t rfl)) (fun _ _ h => h) fun w hb hs hB hkd => ?_
        first
          | exact ⟨rfl, hb⟩
          | (exfalso; omega)
       ·have phs44 := hs44; try simp only [decide_eq_true_eq, decide_eq_false_iff_not, Bool.not_eq_true', Bool.not_eq_false', Bool.not_true, Bool.not_false] at phs44
        refine ql_g rfl rfl hs44 ?_
        refine ql_r (r_fa (o' := 1) rfl fl65_1 rfl) rfl ?_
        refine ql_g rfl rfl hs44 ?_
        refine ql_r (r_ld (id := 8) rfl rfl rfl sc3) rfl ?_
        refine ql_g rfl rfl hs44 ?_
        refine ql_r (r_lda (id := 2) (n := 6) rfl rfl rfl ag26) rfl ?_
        refine ql_g rfl rfl hs44 ?_
        refine ql_call rfl rfl cb35 rfl (fun w1 hb1 hs1 hB1 => law3_span A _ (hA.at hb1 hB1)) ?_
        refine ql_g rfl rfl hs44 ?_
        refine ql_r (r_mul rfl rfl (by omega)) rfl ?_
        refine ql_g rfl rfl hs44 ?_
        refine ql_r (r_gtr rfl rfl) rfl ?_
        refine ql_r (r_pickF rfl hs44 rfl) rfl ?_
        refine ql_r (r_move rfl) rfl ?_
        refine ql_split (d := 52) rfl (fun hs52 => ?_) (fun hs52 => ?_)
        ·have phs52 := hs52; try simp only [decide_eq_true_eq, decide_eq_false_iff_not, Bool.not_eq_true', Bool.not_eq_false', Bool.not_true, Bool.not_false] at phs52
         refine ql_s rfl rfl hs52 rfl ?_
         refine ql_s rfl rfl hs52 rfl ?_
         refine ql_s rfl rfl hs52 rfl ?_
         refine ql_u rfl rfl rfl ?_
         refine ql_u rfl rfl rfl ?_
         refine ql_u rfl rfl rfl ?_
         refine ql_u rfl rfl rfl ?_
         refine ql_u rfl rfl rfl ?_
         refine ql_u rfl rfl rfl ?_
         refine ql_u rfl rfl rfl ?_
         refine ql_u rfl rfl rfl ?_
         refine ql_u rfl rfl rfl ?_
         refine ql_s rfl rfl hs52 rfl ?_
         refine ql_r (r_pickT rfl hs52 rfl) rfl ?_
         refine ql_nil (to_k0 (fun _ _ h => h) (hK16 _ _ _ _ _ ?_))
         clear hK16
         refine wp_condT rfl ?_
         refine wp_seq' fun K19 hK19 => ?_
         refine wp_reg ?_
         refine ol_r (r_assign rfl) rfl ?_
         refine ol_nil (to_k0 (fun _ _ h => h) (hK19 _ _ _ _ _ ?_))
         clear hK19
         refine hQ.ret (rvs1 (rv_t rfl)) (fun _ _ h => h) fun w hb hs hB hkd => ?_
         first
           | exact ⟨rfl, hb⟩
           | (exfalso; omega)
        ·have phs52 := hs52; try simp only [decide_eq_true_eq, decide_eq_false_iff_not, Bool.not_eq_true', Bool.not_eq_false', Bool.not_true, Bool.not_false] at phs52
         refine ql_g rfl rfl hs52 ?_
         refine ql_r (r_move rfl) rfl ?_
         refine ql_g rfl rfl hs52 ?_
         refine ql_r (r_gtr rfl rfl) rfl ?_
         refine ql_g rfl rfl hs52 ?_
         refine ql_r (r_move rfl) rfl ?_
         refine ql_split (d := 55) rfl (fun hs55 => ?_) (fun hs55 => ?_)
         ·have phs55 := hs55; try simp only [decide_eq_true_eq, decide_eq_false_iff_not, Bool.not_eq_true', Bool.not_eq_false', Bool.not_true, Bool.not_false] at phs55
          refine ql_g rfl rfl hs55 ?_
          refine ql_r (r_fa (o' := 1) rfl fl65_1 rfl) rfl ?_
          refine ql_g rfl rfl hs55 ?_
          refine ql_r (r_ld (id := 8) rfl rfl rfl sc3) rfl ?_
          refine ql_g rfl rfl hs55 ?_
          refine ql_r (r_move rfl) rfl ?_
          refine ql_g rfl rfl hs55 ?_
          refine ql_r (r_move rfl) rfl ?_
          refine ql_g rfl rfl hs55 ?_
          refine ql_r (r_sub rfl rfl (by omega)) rfl ?_
          refine ql_g rfl rfl hs55 ?_
          refine ql_ixo (id := 12) encSplit _ rfl rfl rfl rfl sl60 (by omega) (by omega) rfl fun x61 hx61 => ?_
          try simp only [Int.toNat_natCast] at hx61
          try simp only [Int.toNat_natCast] at hx61
          refine ql_g rfl rfl hs55 ?_
          have q5 := q4 x61 (by omega) (by rw [← hL, ← show ((k : Int) - 1).toNat = k - 1 by omega]; exact hx61)
          refine ql_r (r_faO (id := 12) rfl rfl rfl hx61 fl65_1) rfl ?_
          refine ql_g rfl rfl hs55 ?_
          refine ql_r (r_ldw rfl (fun w1 hb1 hs1 hB1 => ld_ownF (id := 12) (o := 1) hs1 rfl rfl sc3 hx61 rfl)) rfl ?_
          refine ql_g rfl rfl hs55 ?_
          refine ql_r (r_lss rfl rfl) rfl ?_
          refine ql_g rfl rfl hs52 ?_
          refine ql_r (r_pickT rfl hs55 rfl) rfl ?_
          refine ql_r (r_pickF rfl hs52 rfl) rfl ?_
          refine ql_nil (to_k0 (fun _ _ h => h) (hK16 _ _ _ _ _ ?_))
          clear hK16
          first | refine wp_condD rfl (fun hc66 => ?_) (fun hc66 => ?_) | refine wp_condN rfl (fun hc66 => ?_) (fun hc66 => ?_) | refine wp_condNB rfl (fun hc66 => ?_) (fun hc66 => ?_) | refine wp_cond' rfl (fun hc66 => ?_) (fun hc66 => ?_)
          ·refine wp_seq' fun K20 hK20 => ?_
           refine wp_reg ?_
           refine ol_r (r_assign rfl) rfl ?_
           refine ol_nil (to_k0 (fun _ _ h => h) (hK20 _ _ _ _ _ ?_))
           clear hK20
           refine hQ.ret (rvs1 (rv_t rfl)) (fun _ _ h => h) fun w hb hs hB hkd => ?_
           first
             | exact ⟨rfl, hb⟩
             | (exfalso; omega)
          ·refine wp_skip' (to_k0 (fun _ _ h => h) (hK14 _ _ _ _ _ ?_))
           clear hK14
           refine wp_reg ?_
           refine ol_r (r_add rfl rfl (by omega)) rfl ?_
           refine ol_r (r_move rfl) rfl ?_
           refine ol_nil (to_k0 (fun _ _ h => h) (hK11 (k + 1) _ _ ?_ ?_ (sub_cons rfl sub_nil) (sub_cons rfl (sub_cons rfl (sub_cons rfl (sub_cons rfl (sub_cons rfl sub_nil))))) (by exact subH_nil) (subH_same rfl (subH_same rfl subH_nil))))
           ·try dsimp only
            omega
           ·try dsimp only
            omega
         ·have phs55 := hs55; try simp only [decide_eq_true_eq, decide_eq_false_iff_not, Bool.not_eq_true', Bool.not_eq_false', Bool.not_true, Bool.not_false] at phs55
          refine ql_s rfl rfl hs55 rfl ?_
          refine ql_s rfl rfl hs55 rfl ?_
          refine ql_s rfl rfl hs55 rfl ?_
          refine ql_s rfl rfl hs55 rfl ?_
          refine ql_s rfl rfl hs55 rfl ?_
          refine ql_s rfl rfl hs55 rfl ?_
          refine ql_s rfl rfl hs55 rfl ?_
          refine ql_s rfl rfl hs55 rfl ?_
          refine ql_s rfl rfl hs55 rfl ?_
          refine ql_g rfl rfl hs52 ?_
          refine ql_r (r_pickF rfl hs55 rfl) rfl ?_
          refine ql_r (r_pickF rfl hs52 rfl) rfl ?_
          refine ql_nil (to_k0 (fun _ _ h => h) (hK16 _ _ _ _ _ ?_))
          clear hK16
          refine wp_condF rfl ?_
          refine wp_skip' (to_k0 (fun _ _ h => h) (hK14 _ _ _ _ _ ?_))
          clear hK14
          refine wp_reg ?_
          refine ol_r (r_add rfl rfl (by omega)) rfl ?_
          refine ol_r (r_move rfl) rfl ?_
          refine ol_nil (to_k0 (fun _ _ h => h) (hK11 (k + 1) _ _ ?_ ?_ (sub_cons rfl sub_nil) (sub_cons rfl (sub_cons rfl (sub_cons rfl (sub_cons rfl (sub_cons rfl sub_nil))))) (by exact subH_nil) (subH_same rfl (subH_same rfl subH_nil))))
          ·try dsimp only
           omega
          ·try dsimp only
           omega
     ·refine wp_exit' (to_k0 (fun _ _ h => h) (hK9 _ _ _ _ _ ?_))
      clear hK9
      refine wp_seq' fun K21 hK21 => ?_
      refine wp_reg ?_
      refine ol_call rfl rfl cb14 rfl (fun w1 hb1 hs1 hB1 => Calls.mono (law3_told _) ?_)
      rintro e w2 ⟨rfl, hb2⟩
      refine After.below rfl hb1 hs1 hB1 hb2 ?_
      clear hb2 hB1 hs1 hb1 w2 w1
      refine ol_r (r_assign rfl) rfl ?_
      refine ol_nil (to_k0 (fun _ _ h => h) (hK21 _ _ _ _ _ ?_))
      clear hK21
      refine hQ.ret (rvs1 (rv_t rfl)) (fun _ _ h => h) fun w hb hs hB hkd => ?_
      first
        | exact ⟨rfl, hb⟩
        | (exfalso; omega)
end Go.Proofs.Ytlbcefnbjdpljaa
