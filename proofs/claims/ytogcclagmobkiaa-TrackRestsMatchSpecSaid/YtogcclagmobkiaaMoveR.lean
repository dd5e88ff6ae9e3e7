/-
  Moving: the reference.
-/
import Derived.Test.YtogcclagmobkiaaRunsR
import Derived.Test.YtogcclagmobkiaaMove
namespace Go.Proofs.Ytogcclagmobkiaa
open Go Go.RowKit Hx
set_option linter.unusedVariables false
set_option linter.unusedSimpArgs false
set_option maxRecDepth 8000
theorem rowsR_ord {st : Int} {ss : List SmpR} (hok : SmpOk st ss) {m : Nat → Bool} {l : Int} : ∀ (j k : Nat) (s u : SpanR), j < k → (rowsR ss m l)[j]? = some s → (rowsR ss m l)[k]? = some u → s.from_ ≤ u.from_ := by
  have hp : (rowsS ss m (ss.length - 1)).Pairwise fun s u => s.from_ ≤ u.from_ := by
    rw [List.pairwise_iff_getElem]
    intro i j hi hj hij
    obtain ⟨p, hp, e1⟩ := rowsS_get (List.getElem?_eq_getElem hi)
    obtain ⟨q, hq, e2⟩ := rowsS_get (List.getElem?_eq_getElem hj)
    rw [e1, e2]
    have hR := rowI m (ss.length - 1)
    have h1 := hR.one i p hp
    have h2 := hR.one j q hq
    have h3 := hR.ord i j p q hij hp hq
    exact (riseN hok).le (by omega) (by omega)
  have hf := hp.filter (fun s => !decide (s.to - s.from_ + 1 < l))
  intro j k s u hjk hj hk
  obtain ⟨h1, rfl⟩ := List.getElem?_eq_some_iff.1 hj
  obtain ⟨h2, rfl⟩ := List.getElem?_eq_some_iff.1 hk
  exact List.pairwise_iff_getElem.1 hf j k h1 h2 hjk
theorem stillR_is {a : ActD} {s l : Int} (hg : GoodA a) : (stillR a s l).2 = stillC s l ∧ (stillC s l = 0 → (stillR a s l).1 = rowsR a.ss (stillM a.ss s) l) := by
  have h1 : ¬chkA a ≠ 0 := by rw [hg.chk]; simp
  by_cases h2 : stillC s l ≠ 0
  · rw [stillR_9 h1 h2]; exact ⟨rfl, fun h => absurd h h2⟩
  · rw [stillR_0 h1 h2]; exact ⟨(Decidable.not_not.1 h2).symm, fun _ => rfl⟩
structure EndI (l : List SpanR) (i : Nat) (t : Int) : Prop where
  e : i = l.length ∨ ∃ u, l[i]? = some u ∧ t ≤ u.to
structure CovI (l : List SpanR) (i : Nat) (t : Int) : Prop where
  e : (i = l.length ∨ ∃ s, l[i]? = some s ∧ t < s.from_) ↔ ¬covS l t = true
theorem PlS.later {l : List SpanR} {i : Nat} {t u : Int} (h : PlS l i t) (htu : t ≤ u) : PlS l i u := ⟨h.le, fun j s hj hs => by have := h.low j s hj hs; omega⟩
theorem unc_step {ss : List SmpR} {L1 L2 : List SpanR} {k : Nat} : uncS (atN ss) (L1 ++ L2) (k + 1) = if ¬covS L1 (atN ss k) = true ∧ ¬covS L2 (atN ss k) = true then uncS (atN ss) (L1 ++ L2) k + (atN ss (k + 1) - atN ss k) else uncS (atN ss) (L1 ++ L2) k := by
  rw [uncS_succ, covS_append]
  generalize covS L1 (atN ss k) = a
  generalize covS L2 (atN ss k) = b
  cases a <;> cases b <;> simp
theorem ref3_Moving (A : ActV) (gap slow least : Int) (w : World) (hA : A.Ok w.heap.size w) :
    Calls Try.prog 32 #[.agg #[.string A.name, .int .i64 A.sport, .int .i64 A.start, .slice A.sa A.sn A.sc, .slice A.la A.ln A.lc, .slice A.ta A.tn A.tc], .int .i64 gap, .int .i64 slow, .int .i64 least] w fun e w' => e = .returned (.tuple #[.int .i64 (movR A.d gap slow least).1, .int .i64 (movR A.d gap slow least).2]) ∧ Below w.heap.size w w' := by
  have hsn := hA.s.len
  refine enterQ (N := 122) (C := fun _ => True) (H := []) (B := w.heap.size) (args := [_, _, _, _]) Try.func32 rfl rfl rfl (Nat.le_refl _) (Sat.nil _ _) fun Q hQ => ?_
  refine wp_seq' fun K1 hK1 => ?_
  refine wp_reg ?_
  refine ol_box 4 rfl rfl rfl fun b4 => ?_
  refine ol_r (r_assign rfl) rfl ?_
  refine ol_r (r_assign rfl) rfl ?_
  refine ol_nil (to_k0 (fun _ _ h => h) (hK1 _ _ _ _ _ ?_))
  clear hK1
  refine wp_seq' fun K2 hK2 => ?_
  refine wp_reg ?_
  refine ol_r (r_lda (id := 4) (n := 6) rfl rfl rfl ag26) rfl ?_
  refine ol_r (r_move rfl) rfl ?_
  refine ol_call rfl rfl cb28 rfl (fun w1 hb1 hs1 hB1 => ?_)
  refine Calls.mono (ref3_Idle A gap _ (hA.at hb1 hB1)) ?_
  rintro e w2 ⟨⟨a1, c1, rfl, hs2⟩, hb2⟩
  refine After.more rfl hb1 hs1 hB1 hb2 (hs2.kle [(1001, 1011)] (kle_cons rfl (Ent.le_refl _) kle_nil) (by decide)) ?_
  clear hs2 hb2 hB1 hs1 hb1 w2 w1
  refine ol_r (r_move rfl) rfl ?_
  refine ol_r (r_extract rfl rfl) rfl ?_
  refine ol_r (r_extract rfl rfl) rfl ?_
  refine ol_r (r_assign rfl) rfl ?_
  refine ol_r (r_assign rfl) rfl ?_
  refine ol_nil (to_k0 (fun _ _ h => h) (hK2 _ _ _ _ _ ?_))
  clear hK2
  refine wp_seq' fun K3 hK3 => ?_
  refine wp_seq' fun K4 hK4 => ?_
  refine wp_reg ?_
  refine ol_r (r_move rfl) rfl ?_
  refine ol_r (r_neq rfl rfl) rfl ?_
  refine ol_nil (to_k0 (fun _ _ h => h) (hK4 _ _ _ _ _ ?_))
  clear hK4
  first | refine wp_condD rfl (fun hc26 => ?_) (fun hc26 => ?_) | refine wp_condN rfl (fun hc26 => ?_) (fun hc26 => ?_) | refine wp_condNB rfl (fun hc26 => ?_) (fun hc26 => ?_) | refine wp_cond' rfl (fun hc26 => ?_) (fun hc26 => ?_)
  ·refine wp_seq' fun K5 hK5 => ?_
   refine wp_reg ?_
   refine ol_r (r_move rfl) rfl ?_
   refine ol_r (r_assign rfl) rfl ?_
   refine ol_r (r_assign rfl) rfl ?_
   refine ol_nil (to_k0 (fun _ _ h => h) (hK5 _ _ _ _ _ ?_))
   clear hK5
   refine hQ.ret (rvs2 (rv_t rfl) (rv_t rfl)) (fun _ _ h => h) fun w hb hs hB hkd => ?_
   exact ⟨by rw [movR_e hc26], hb⟩
  ·refine wp_skip' (to_k0 (fun _ _ h => h) (hK3 _ _ _ _ _ ?_))
   clear hK3
   refine wp_seq' fun K6 hK6 => ?_
   refine wp_reg ?_
   obtain ⟨hg, hL1⟩ := idleR_is (Decidable.not_not.1 hc26)
   obtain ⟨hsc, hL2⟩ := stillR_is (s := slow) (l := least) hg
   have hok : SmpOk A.start A.ss := hg.smp
   have hll := hok.len
   have hr := riseN hok
   refine ol_r (r_lda (id := 4) (n := 6) rfl rfl rfl ag26) rfl ?_
   refine ol_r (r_move rfl) rfl ?_
   refine ol_r (r_move rfl) rfl ?_
   refine ol_call rfl rfl cb30 rfl (fun w1 hb1 hs1 hB1 => ?_)
   refine Calls.mono (ref3_Still A slow least _ (hA.at hb1 hB1)) ?_
   rintro e w2 ⟨⟨a2, c2, rfl, hs2⟩, hb2⟩
   refine After.more rfl hb1 hs1 hB1 hb2 (hs2.kle [(1001, 1021)] (kle_cons rfl (Ent.le_refl _) kle_nil) (by decide)) ?_
   clear hs2 hb2 hB1 hs1 hb1 w2 w1
   refine ol_r (r_move rfl) rfl ?_
   refine ol_r (r_extract rfl rfl) rfl ?_
   refine ol_r (r_extract rfl rfl) rfl ?_
   refine ol_r (r_assign rfl) rfl ?_
   refine ol_r (r_assign rfl) rfl ?_
   refine ol_nil (to_k0 (fun _ _ h => h) (hK6 _ _ _ _ _ ?_))
   clear hK6
   refine wp_seq' fun K7 hK7 => ?_
   refine wp_seq' fun K8 hK8 => ?_
   refine wp_reg ?_
   refine ol_r (r_move rfl) rfl ?_
   refine ol_r (r_neq rfl rfl) rfl ?_
   refine ol_nil (to_k0 (fun _ _ h => h) (hK8 _ _ _ _ _ ?_))
   clear hK8
   first | refine wp_condD rfl (fun hc36 => ?_) (fun hc36 => ?_) | refine wp_condN rfl (fun hc36 => ?_) (fun hc36 => ?_) | refine wp_condNB rfl (fun hc36 => ?_) (fun hc36 => ?_) | refine wp_cond' rfl (fun hc36 => ?_) (fun hc36 => ?_)
   ·refine wp_seq' fun K9 hK9 => ?_
    refine wp_reg ?_
    refine ol_r (r_move rfl) rfl ?_
    refine ol_r (r_assign rfl) rfl ?_
    refine ol_r (r_assign rfl) rfl ?_
    refine ol_nil (to_k0 (fun _ _ h => h) (hK9 _ _ _ _ _ ?_))
    clear hK9
    refine hQ.ret (rvs2 (rv_t rfl) (rv_t rfl)) (fun _ _ h => h) fun w hb hs hB hkd => ?_
    exact ⟨by rw [movR_9 hc26 (by rw [← hsc]; exact hc36), hsc], hb⟩
   ·refine wp_skip' (to_k0 (fun _ _ h => h) (hK7 _ _ _ _ _ ?_))
    clear hK7
    refine wp_seq' fun K10 hK10 => ?_
    refine wp_reg ?_
    refine ol_r (r_assign rfl) rfl ?_
    refine ol_nil (to_k0 (fun _ _ h => h) (hK10 _ _ _ _ _ ?_))
    clear hK10
    refine wp_seq' fun K11 hK11 => ?_
    refine wp_reg ?_
    refine ol_r (r_assign rfl) rfl ?_
    refine ol_r (r_assign rfl) rfl ?_
    refine ol_nil (to_k0 (fun _ _ h => h) (hK11 _ _ _ _ _ ?_))
    clear hK11
    refine wp_seq' fun K12 hK12 => ?_
    refine wp_seq' fun K13 hK13 => ?_
    refine wp_reg ?_
    refine ol_r (r_assign rfl) rfl ?_
    refine ol_nil (to_k0 (fun _ _ h => h) (hK13 _ _ _ _ _ ?_))
    clear hK13
    refine wp_block' ?_
    apply wp_loopM (σ := Nat × Nat × Nat × Int) (fun s => s.1 ≤ A.ss.length - 1 ∧ PlS (idleR A.d gap).1 s.2.1 (atN A.ss s.1) ∧ PlS (stillR A.d slow least).1 s.2.2.1 (atN A.ss s.1) ∧ s.2.2.2 = uncS (atN A.ss) ((idleR A.d gap).1 ++ (stillR A.d slow least).1) s.1) (fun s => [(16, .int .i64 ((s.1 : Int) + 1)), (14, .int .i64 s.2.1), (15, .int .i64 s.2.2.1), (13, .int .i64 s.2.2.2)]) [(4, _), (8, _), (9, _), (10, _), (12, _)] (fun s => []) [(4, _), (1011, _), (1021, _)] (fun s => A.ss.length - 1 - s.1) ((0, 0, 0, 0))
    ·try dsimp only
     exact ⟨Nat.zero_le _, ⟨Nat.zero_le _, fun j s h => by omega⟩, ⟨Nat.zero_le _, fun j s h => by omega⟩, rfl⟩
    ·exact (sub_cons rfl (sub_cons rfl (sub_cons rfl (sub_cons rfl sub_nil))))
    ·exact (sub_cons rfl (sub_cons rfl (sub_cons rfl (sub_cons rfl (sub_cons rfl sub_nil)))))
    ·exact subH_nil
    ·exact (subH_same rfl (subH_same rfl (subH_same rfl subH_nil)))
    ·rintro ⟨k, i, q, n⟩ ⟨hk, hi, hq, hn⟩
     dsimp only at hk hi hq hn ⊢
     have e8 : ((k : Int) + 1).toNat = k + 1 := by omega
     have e8b : ((k : Int) + 1 - 1).toNat = k := by omega
     have hub := uncS_bd hr ((idleR A.d gap).1 ++ (stillR A.d slow least).1) k hk
     rw [← hn, atN_zero hok] at hub
     have hkb := atN_bd hok k
     intro K14 hK14
     refine wp_seq' fun K15 hK15 => ?_
     refine wp_seq' fun K16 hK16 => ?_
     refine wp_reg ?_
     have hL2 := hL2 (by rw [← hsc]; exact Decidable.not_not.1 hc36)
     have hn1 := rowsR_len A.ss (idleM A.ss gap) 0
     have hn2 := rowsR_len A.ss (stillM A.ss slow) least
     have ho1 : ∀ (j k : Nat) (s u : SpanR), j < k → (idleR A.d gap).1[j]? = some s → (idleR A.d gap).1[k]? = some u → s.from_ ≤ u.from_ := by rw [hL1]; exact rowsR_ord hok
     have ho2 : ∀ (j k : Nat) (s u : SpanR), j < k → (stillR A.d slow least).1[j]? = some s → (stillR A.d slow least).1[k]? = some u → s.from_ ≤ u.from_ := by rw [hL2]; exact rowsR_ord hok
     have hq1 : (idleR A.d gap).1.length = (rowsR A.ss (idleM A.ss gap) 0).length := by rw [hL1]; rfl
     have hq2 : (stillR A.d slow least).1.length = (rowsR A.ss (stillM A.ss slow) least).length := by rw [hL2]; rfl
     refine ol_r (r_move rfl) rfl ?_
     refine ol_r (r_fa (o' := 3) rfl fl26_3 rfl) rfl ?_
     refine ol_r (r_ld (id := 4) rfl rfl rfl sc22) rfl ?_
     refine ol_r (r_len rfl sl22) rfl ?_
     refine ol_r (r_lss rfl rfl) rfl ?_
     refine ol_nil (to_k0 (fun _ _ h => h) (hK16 _ _ _ _ _ ?_))
     clear hK16
     first | refine wp_condD rfl (fun hc42 => ?_) (fun hc42 => ?_) | refine wp_condN rfl (fun hc42 => ?_) (fun hc42 => ?_) | refine wp_condNB rfl (fun hc42 => ?_) (fun hc42 => ?_) | refine wp_cond' rfl (fun hc42 => ?_) (fun hc42 => ?_)
     ·refine wp_skip' (to_k0 (fun _ _ h => h) (hK15 _ _ _ _ _ ?_))
      clear hK15
      refine wp_seq' fun K17 hK17 => ?_
      refine wp_block' ?_
      refine wp_seq' fun K18 hK18 => ?_
      refine wp_regq (by kernel_rfl) (by kernel_rfl) ?_
      refine ql_r (r_fa (o' := 3) rfl fl26_3 rfl) rfl ?_
      refine ql_r (r_ld (id := 4) rfl rfl rfl sc22) rfl ?_
      refine ql_r (r_move rfl) rfl ?_
      refine ql_r (r_sub rfl rfl (by omega)) rfl ?_
      refine ql_ixr hA.s rfl rfl sl22 (by omega) rfl fun x49 hx49 => ?_
      try simp only [Int.toNat_natCast] at hx49
      refine ql_r (r_faw rfl (ix_some hA.s (by omega)) fl28_0) rfl ?_
      refine ql_r (r_ldw rfl (fun w1 hb1 hs1 hB1 => Rd.loadsF (o := 0) hA.s sc3 hx49 hb1 rfl)) rfl ?_
      refine ql_r (r_fa (o' := 3) rfl fl26_3 rfl) rfl ?_
      refine ql_r (r_ld (id := 4) rfl rfl rfl sc22) rfl ?_
      refine ql_r (r_move rfl) rfl ?_
      refine ql_ixr hA.s rfl rfl sl22 (by omega) rfl fun x55 hx55 => ?_
      try simp only [Int.toNat_natCast] at hx55
      refine ql_r (r_faw rfl (ix_some hA.s (by omega)) fl28_0) rfl ?_
      refine ql_r (r_ldw rfl (fun w1 hb1 hs1 hB1 => Rd.loadsF (o := 0) hA.s sc3 hx55 hb1 rfl)) rfl ?_
      rw [e8b] at hx49
      have b49 := hok.bd _ (List.mem_of_getElem? hx49)
      rw [e8] at hx55
      have b55 := hok.bd _ (List.mem_of_getElem? hx55)
      have hat1 : atN A.ss k = x49.at_ := atN_get hx49
      have hat2 : atN A.ss (k + 1) = x55.at_ := atN_get hx55
      have hup := hr.up k (k + 1) (Nat.lt_succ_self _) (by omega)
      refine ql_r (r_assign rfl) rfl ?_
      refine ql_r (r_assign rfl) rfl ?_
      refine ql_nil (to_k0 (fun _ _ h => h) (hK18 _ _ _ _ _ ?_))
      clear hK18
      apply wp_seq_cutM (σ := Nat) (fun s => PlS (idleR A.d gap).1 s (atN A.ss k) ∧ EndI (idleR A.d gap).1 s (atN A.ss k)) (fun s => [(14, .int .i64 s)]) [(4, _), (8, _), (9, _), (10, _), (12, _), (13, _), (15, _), (16, _), (17, _), (18, _)] (fun s => []) [(4, _), (1011, _), (1021, _)]
      ·exact (sub_cons rfl (sub_cons rfl (sub_cons rfl (sub_cons rfl (sub_cons rfl (sub_cons rfl (sub_cons rfl (sub_cons rfl (sub_cons rfl (sub_cons rfl sub_nil))))))))))
      ·exact (subH_same rfl (subH_same rfl (subH_same rfl subH_nil)))
      ·intro K19 hK19
       refine wp_block' ?_
       apply wp_loopM (σ := Nat) (fun s => PlS (idleR A.d gap).1 s (atN A.ss k)) (fun s => [(14, .int .i64 s)]) [(4, _), (8, _), (9, _), (10, _), (12, _), (13, _), (15, _), (16, _), (17, _), (18, _)] (fun s => []) [(4, _), (1011, _), (1021, _)] (fun s => (idleR A.d gap).1.length - s) (i)
       ·try dsimp only
        exact hi
       ·exact (sub_cons rfl sub_nil)
       ·exact (sub_cons rfl (sub_cons rfl (sub_cons rfl (sub_cons rfl (sub_cons rfl (sub_cons rfl (sub_cons rfl (sub_cons rfl (sub_cons rfl (sub_cons rfl sub_nil))))))))))
       ·exact subH_nil
       ·exact (subH_same rfl (subH_same rfl (subH_same rfl subH_nil)))
       ·rintro i2 hi2
        have hlei := hi2.le
        intro K20 hK20
        refine wp_seq' fun K21 hK21 => ?_
        refine wp_seq' fun K22 hK22 => ?_
        refine wp_reg ?_
        refine ol_r (r_move rfl) rfl ?_
        refine ol_r (r_move rfl) rfl ?_
        refine ol_r (r_len rfl sl46) rfl ?_
        refine ol_r (r_lss rfl rfl) rfl ?_
        refine ol_r (r_move rfl) rfl ?_
        refine ol_split (d := 62) rfl (fun hs62 => ?_) (fun hs62 => ?_)
        ·have phs62 := hs62; try simp only [decide_eq_true_eq, decide_eq_false_iff_not, Bool.not_eq_true', Bool.not_eq_false', Bool.not_true, Bool.not_false] at phs62
         refine ol_g rfl rfl hs62 ?_
         refine ol_r (r_move rfl) rfl ?_
         refine ol_g rfl rfl hs62 ?_
         refine ol_r (r_move rfl) rfl ?_
         refine ol_g rfl rfl hs62 ?_
         refine ol_ixo (id := 1011) encSpan _ rfl rfl rfl rfl sl46 (by omega) rfl fun x65 hx65 => ?_
         try simp only [Int.toNat_natCast] at hx65
         try simp only [Int.toNat_natCast] at hx65
         refine ol_g rfl rfl hs62 ?_
         refine ol_r (r_faO (id := 1011) rfl rfl rfl hx65 fl54_1) rfl ?_
         refine ol_g rfl rfl hs62 ?_
         refine ol_r (r_ldw rfl (fun w1 hb1 hs1 hB1 => ld_ownF (id := 1011) (o := 1) hs1 rfl rfl sc3 hx65 rfl)) rfl ?_
         refine ol_g rfl rfl hs62 ?_
         refine ol_r (r_move rfl) rfl ?_
         refine ol_g rfl rfl hs62 ?_
         refine ol_r (r_lss rfl rfl) rfl ?_
         refine ol_r (r_pickT rfl hs62 rfl) rfl ?_
         refine ol_nil (to_k0 (fun _ _ h => h) (hK22 _ _ _ _ _ ?_))
         clear hK22
         first | refine wp_condD rfl (fun hc70 => ?_) (fun hc70 => ?_) | refine wp_condN rfl (fun hc70 => ?_) (fun hc70 => ?_) | refine wp_condNB rfl (fun hc70 => ?_) (fun hc70 => ?_) | refine wp_cond' rfl (fun hc70 => ?_) (fun hc70 => ?_)
         ·refine wp_skip' (to_k0 (fun _ _ h => h) (hK21 _ _ _ _ _ ?_))
          clear hK21
          refine wp_block' ?_
          refine wp_reg ?_
          refine ol_r (r_move rfl) rfl ?_
          refine ol_r (r_add rfl rfl (by omega)) rfl ?_
          refine ol_r (r_assign rfl) rfl ?_
          refine ol_nil (to_k0 (fun _ _ h => h) (hK20 ((i2 + 1)) _ _ ?_ ?_ (sub_cons rfl sub_nil) (sub_cons rfl (sub_cons rfl (sub_cons rfl (sub_cons rfl (sub_cons rfl (sub_cons rfl (sub_cons rfl (sub_cons rfl (sub_cons rfl (sub_cons rfl sub_nil)))))))))) (by exact subH_nil) (subH_same rfl (subH_same rfl (subH_same rfl subH_nil)))))
          ·try dsimp only
           exact ⟨by omega, fun j s hj hs => by
             by_cases e : j = i2
             · subst e; rw [hx65] at hs; cases hs; omega
             · exact hi2.low j s (by omega) hs⟩
          ·try dsimp only
           omega
         ·refine wp_exit' (to_k0 (fun _ _ h => h) (hK19 (i2) _ _ ?_ (sub_cons rfl sub_nil) (sub_cons rfl (sub_cons rfl (sub_cons rfl (sub_cons rfl (sub_cons rfl (sub_cons rfl (sub_cons rfl (sub_cons rfl (sub_cons rfl (sub_cons rfl sub_nil)))))))))) subH_nil (subH_same rfl (subH_same rfl (subH_same rfl subH_nil)))))
          try dsimp only
          first
          | exact ⟨hi2, ⟨.inr ⟨x65, hx65, by omega⟩⟩⟩
          | exact ⟨hi2, ⟨.inl (by omega)⟩⟩
        ·have phs62 := hs62; try simp only [decide_eq_true_eq, decide_eq_false_iff_not, Bool.not_eq_true', Bool.not_eq_false', Bool.not_true, Bool.not_false] at phs62
         refine ol_s rfl rfl hs62 rfl ?_
         refine ol_s rfl rfl hs62 rfl ?_
         refine ol_s rfl rfl hs62 rfl ?_
         refine ol_s rfl rfl hs62 rfl ?_
         refine ol_s rfl rfl hs62 rfl ?_
         refine ol_s rfl rfl hs62 rfl ?_
         refine ol_s rfl rfl hs62 rfl ?_
         refine ol_r (r_pickF rfl hs62 rfl) rfl ?_
         refine ol_nil (to_k0 (fun _ _ h => h) (hK22 _ _ _ _ _ ?_))
         clear hK22
         refine wp_condF rfl ?_
         refine wp_exit' (to_k0 (fun _ _ h => h) (hK19 (i2) _ _ ?_ (sub_cons rfl sub_nil) (sub_cons rfl (sub_cons rfl (sub_cons rfl (sub_cons rfl (sub_cons rfl (sub_cons rfl (sub_cons rfl (sub_cons rfl (sub_cons rfl (sub_cons rfl sub_nil)))))))))) subH_nil (subH_same rfl (subH_same rfl (subH_same rfl subH_nil)))))
         try dsimp only
         first
         | exact ⟨hi2, ⟨.inr ⟨x65, hx65, by omega⟩⟩⟩
         | exact ⟨hi2, ⟨.inl (by omega)⟩⟩
      ·rintro i3 ⟨hi3, hie⟩
       apply wp_seq_cutM (σ := Nat) (fun s => PlS (stillR A.d slow least).1 s (atN A.ss k) ∧ EndI (stillR A.d slow least).1 s (atN A.ss k)) (fun s => [(15, .int .i64 s)]) [(4, _), (8, _), (9, _), (10, _), (12, _), (13, _), (14, _), (16, _), (17, _), (18, _)] (fun s => []) [(4, _), (1011, _), (1021, _)]
       ·exact (sub_cons rfl (sub_cons rfl (sub_cons rfl (sub_cons rfl (sub_cons rfl (sub_cons rfl (sub_cons rfl (sub_cons rfl (sub_cons rfl (sub_cons rfl sub_nil))))))))))
       ·exact (subH_same rfl (subH_same rfl (subH_same rfl subH_nil)))
       ·intro K23 hK23
        refine wp_block' ?_
        apply wp_loopM (σ := Nat) (fun s => PlS (stillR A.d slow least).1 s (atN A.ss k)) (fun s => [(15, .int .i64 s)]) [(4, _), (8, _), (9, _), (10, _), (12, _), (13, _), (14, _), (16, _), (17, _), (18, _)] (fun s => []) [(4, _), (1011, _), (1021, _)] (fun s => (stillR A.d slow least).1.length - s) (q)
        ·try dsimp only
         exact hq
        ·exact (sub_cons rfl sub_nil)
        ·exact (sub_cons rfl (sub_cons rfl (sub_cons rfl (sub_cons rfl (sub_cons rfl (sub_cons rfl (sub_cons rfl (sub_cons rfl (sub_cons rfl (sub_cons rfl sub_nil))))))))))
        ·exact subH_nil
        ·exact (subH_same rfl (subH_same rfl (subH_same rfl subH_nil)))
        ·rintro q2 hq2
         have hleq := hq2.le
         intro K24 hK24
         refine wp_seq' fun K25 hK25 => ?_
         refine wp_seq' fun K26 hK26 => ?_
         refine wp_reg ?_
         refine ol_r (r_move rfl) rfl ?_
         refine ol_r (r_move rfl) rfl ?_
         refine ol_r (r_len rfl sl46) rfl ?_
         refine ol_r (r_lss rfl rfl) rfl ?_
         refine ol_r (r_move rfl) rfl ?_
         refine ol_split (d := 77) rfl (fun hs77 => ?_) (fun hs77 => ?_)
         ·have phs77 := hs77; try simp only [decide_eq_true_eq, decide_eq_false_iff_not, Bool.not_eq_true', Bool.not_eq_false', Bool.not_true, Bool.not_false] at phs77
          refine ol_g rfl rfl hs77 ?_
          refine ol_r (r_move rfl) rfl ?_
          refine ol_g rfl rfl hs77 ?_
          refine ol_r (r_move rfl) rfl ?_
          refine ol_g rfl rfl hs77 ?_
          refine ol_ixo (id := 1021) encSpan _ rfl rfl rfl rfl sl46 (by omega) rfl fun x80 hx80 => ?_
          try simp only [Int.toNat_natCast] at hx80
          try simp only [Int.toNat_natCast] at hx80
          refine ol_g rfl rfl hs77 ?_
          refine ol_r (r_faO (id := 1021) rfl rfl rfl hx80 fl54_1) rfl ?_
          refine ol_g rfl rfl hs77 ?_
          refine ol_r (r_ldw rfl (fun w1 hb1 hs1 hB1 => ld_ownF (id := 1021) (o := 1) hs1 rfl rfl sc3 hx80 rfl)) rfl ?_
          refine ol_g rfl rfl hs77 ?_
          refine ol_r (r_move rfl) rfl ?_
          refine ol_g rfl rfl hs77 ?_
          refine ol_r (r_lss rfl rfl) rfl ?_
          refine ol_r (r_pickT rfl hs77 rfl) rfl ?_
          refine ol_nil (to_k0 (fun _ _ h => h) (hK26 _ _ _ _ _ ?_))
          clear hK26
          first | refine wp_condD rfl (fun hc85 => ?_) (fun hc85 => ?_) | refine wp_condN rfl (fun hc85 => ?_) (fun hc85 => ?_) | refine wp_condNB rfl (fun hc85 => ?_) (fun hc85 => ?_) | refine wp_cond' rfl (fun hc85 => ?_) (fun hc85 => ?_)
          ·refine wp_skip' (to_k0 (fun _ _ h => h) (hK25 _ _ _ _ _ ?_))
           clear hK25
           refine wp_block' ?_
           refine wp_reg ?_
           refine ol_r (r_move rfl) rfl ?_
           refine ol_r (r_add rfl rfl (by omega)) rfl ?_
           refine ol_r (r_assign rfl) rfl ?_
           refine ol_nil (to_k0 (fun _ _ h => h) (hK24 ((q2 + 1)) _ _ ?_ ?_ (sub_cons rfl sub_nil) (sub_cons rfl (sub_cons rfl (sub_cons rfl (sub_cons rfl (sub_cons rfl (sub_cons rfl (sub_cons rfl (sub_cons rfl (sub_cons rfl (sub_cons rfl sub_nil)))))))))) (by exact subH_nil) (subH_same rfl (subH_same rfl (subH_same rfl subH_nil)))))
           ·try dsimp only
            exact ⟨by omega, fun j s hj hs => by
              by_cases e : j = q2
              · subst e; rw [hx80] at hs; cases hs; omega
              · exact hq2.low j s (by omega) hs⟩
           ·try dsimp only
            omega
          ·refine wp_exit' (to_k0 (fun _ _ h => h) (hK23 (q2) _ _ ?_ (sub_cons rfl sub_nil) (sub_cons rfl (sub_cons rfl (sub_cons rfl (sub_cons rfl (sub_cons rfl (sub_cons rfl (sub_cons rfl (sub_cons rfl (sub_cons rfl (sub_cons rfl sub_nil)))))))))) subH_nil (subH_same rfl (subH_same rfl (subH_same rfl subH_nil)))))
           try dsimp only
           first
           | exact ⟨hq2, ⟨.inr ⟨x80, hx80, by omega⟩⟩⟩
           | exact ⟨hq2, ⟨.inl (by omega)⟩⟩
         ·have phs77 := hs77; try simp only [decide_eq_true_eq, decide_eq_false_iff_not, Bool.not_eq_true', Bool.not_eq_false', Bool.not_true, Bool.not_false] at phs77
          refine ol_s rfl rfl hs77 rfl ?_
          refine ol_s rfl rfl hs77 rfl ?_
          refine ol_s rfl rfl hs77 rfl ?_
          refine ol_s rfl rfl hs77 rfl ?_
          refine ol_s rfl rfl hs77 rfl ?_
          refine ol_s rfl rfl hs77 rfl ?_
          refine ol_s rfl rfl hs77 rfl ?_
          refine ol_r (r_pickF rfl hs77 rfl) rfl ?_
          refine ol_nil (to_k0 (fun _ _ h => h) (hK26 _ _ _ _ _ ?_))
          clear hK26
          refine wp_condF rfl ?_
          refine wp_exit' (to_k0 (fun _ _ h => h) (hK23 (q2) _ _ ?_ (sub_cons rfl sub_nil) (sub_cons rfl (sub_cons rfl (sub_cons rfl (sub_cons rfl (sub_cons rfl (sub_cons rfl (sub_cons rfl (sub_cons rfl (sub_cons rfl (sub_cons rfl sub_nil)))))))))) subH_nil (subH_same rfl (subH_same rfl (subH_same rfl subH_nil)))))
          try dsimp only
          first
          | exact ⟨hq2, ⟨.inr ⟨x80, hx80, by omega⟩⟩⟩
          | exact ⟨hq2, ⟨.inl (by omega)⟩⟩
       ·rintro q3 ⟨hq3, hqe⟩
        refine wp_seq' fun K27 hK27 => ?_
        refine wp_reg ?_
        have hc1 : CovI (idleR A.d gap).1 i3 (atN A.ss k) := ⟨hi3.cov ho1 hie.e⟩
        have hc2 : CovI (stillR A.d slow least).1 q3 (atN A.ss k) := ⟨hq3.cov ho2 hqe.e⟩
        have hle3 := hi3.le
        have hleq := hq3.le
        refine ol_r (r_move rfl) rfl ?_
        refine ol_r (r_move rfl) rfl ?_
        refine ol_r (r_len rfl sl46) rfl ?_
        refine ol_r (r_eql rfl rfl) rfl ?_
        refine ol_r (r_move rfl) rfl ?_
        refine ol_split (d := 92) rfl (fun hs92 => ?_) (fun hs92 => ?_)
        ·have phs92 := hs92; try simp only [decide_eq_true_eq, decide_eq_false_iff_not, Bool.not_eq_true', Bool.not_eq_false', Bool.not_true, Bool.not_false] at phs92
         refine ol_s rfl rfl hs92 rfl ?_
         refine ol_s rfl rfl hs92 rfl ?_
         refine ol_s rfl rfl hs92 rfl ?_
         refine ol_s rfl rfl hs92 rfl ?_
         refine ol_s rfl rfl hs92 rfl ?_
         refine ol_s rfl rfl hs92 rfl ?_
         refine ol_s rfl rfl hs92 rfl ?_
         refine ol_r (r_pickT rfl hs92 rfl) rfl ?_
         refine ol_r (r_move rfl) rfl ?_
         refine ol_g rfl rfl rfl ?_
         refine ol_r (r_move rfl) rfl ?_
         refine ol_g rfl rfl rfl ?_
         refine ol_r (r_move rfl) rfl ?_
         refine ol_g rfl rfl rfl ?_
         refine ol_r (r_len rfl sl46) rfl ?_
         refine ol_g rfl rfl rfl ?_
         refine ol_r (r_eql rfl rfl) rfl ?_
         refine ol_g rfl rfl rfl ?_
         refine ol_r (r_move rfl) rfl ?_
         refine ol_split (d := 106) rfl (fun hs106 => ?_) (fun hs106 => ?_)
         ·have phs106 := hs106; try simp only [decide_eq_true_eq, decide_eq_false_iff_not, Bool.not_eq_true', Bool.not_eq_false', Bool.not_true, Bool.not_false] at phs106
          refine ol_s rfl rfl hs106 rfl ?_
          refine ol_s rfl rfl hs106 rfl ?_
          refine ol_s rfl rfl hs106 rfl ?_
          refine ol_s rfl rfl hs106 rfl ?_
          refine ol_s rfl rfl hs106 rfl ?_
          refine ol_s rfl rfl hs106 rfl ?_
          refine ol_s rfl rfl hs106 rfl ?_
          refine ol_g rfl rfl rfl ?_
          refine ol_r (r_pickT rfl hs106 rfl) rfl ?_
          refine ol_r (r_pickT rfl rfl rfl) rfl ?_
          refine ol_nil (to_k0 (fun _ _ h => h) (hK27 _ _ _ _ _ ?_))
          clear hK27
          refine wp_condT rfl ?_
          refine wp_reg ?_
          have hyes : ¬covS (idleR A.d gap).1 (atN A.ss k) = true ∧ ¬covS (stillR A.d slow least).1 (atN A.ss k) = true := ⟨hc1.e.1 (by first | exact .inl (by omega) | exact .inr ⟨x95, hx95, by omega⟩), hc2.e.1 (by first | exact .inl (by omega) | exact .inr ⟨x109, hx109, by omega⟩)⟩
          refine ol_r (r_move rfl) rfl ?_
          refine ol_r (r_move rfl) rfl ?_
          refine ol_r (r_move rfl) rfl ?_
          refine ol_r (r_sub rfl rfl (by omega)) rfl ?_
          refine ol_r (r_add rfl rfl (by omega)) rfl ?_
          refine ol_r (r_assign rfl) rfl ?_
          refine ol_nil (to_k0 (fun _ _ h => h) (hK17 _ _ _ _ _ ?_))
          clear hK17
          refine wp_reg ?_
          first
            | (have hyy := hyes)
            | (have hz := hx109
               have hno : ¬(¬covS (idleR A.d gap).1 (atN A.ss k) = true ∧ ¬covS (stillR A.d slow least).1 (atN A.ss k) = true) := fun h => by
                 rcases hc2.e.2 h.2 with h1 | ⟨s, hs, h2⟩
                 · omega
                 · rw [hx109] at hs; cases hs; omega)
            | (have hz := hx95
               have hno : ¬(¬covS (idleR A.d gap).1 (atN A.ss k) = true ∧ ¬covS (stillR A.d slow least).1 (atN A.ss k) = true) := fun h => by
                 rcases hc1.e.2 h.1 with h1 | ⟨s, hs, h2⟩
                 · omega
                 · rw [hx95] at hs; cases hs; omega)
          refine ol_r (r_move rfl) rfl ?_
          refine ol_r (r_add rfl rfl (by omega)) rfl ?_
          refine ol_r (r_assign rfl) rfl ?_
          refine ol_nil (to_k0 (fun _ _ h => h) (hK14 ((k + 1, i3, q3, _)) _ _ ?_ ?_ (sub_cons rfl (sub_cons rfl (sub_cons rfl (sub_cons rfl sub_nil)))) (sub_cons rfl (sub_cons rfl (sub_cons rfl (sub_cons rfl (sub_cons rfl sub_nil))))) (by exact subH_nil) (subH_same rfl (subH_same rfl (subH_same rfl subH_nil)))))
          ·try dsimp only
           first
           | (change _ at hyes; exact ⟨by omega, hi3.later (by omega), hq3.later (by omega), by rw [unc_step, if_pos hyes]; omega⟩)
           | exact ⟨by omega, hi3.later (by omega), hq3.later (by omega), by rw [unc_step, if_neg hno]; exact hn⟩
          ·try dsimp only
           omega
         ·have phs106 := hs106; try simp only [decide_eq_true_eq, decide_eq_false_iff_not, Bool.not_eq_true', Bool.not_eq_false', Bool.not_true, Bool.not_false] at phs106
          refine ol_g rfl rfl hs106 ?_
          refine ol_r (r_move rfl) rfl ?_
          refine ol_g rfl rfl hs106 ?_
          refine ol_r (r_move rfl) rfl ?_
          refine ol_g rfl rfl hs106 ?_
          refine ol_ixo (id := 1021) encSpan _ rfl rfl rfl rfl sl46 (by omega) rfl fun x109 hx109 => ?_
          try simp only [Int.toNat_natCast] at hx109
          try simp only [Int.toNat_natCast] at hx109
          refine ol_g rfl rfl hs106 ?_
          refine ol_r (r_faO (id := 1021) rfl rfl rfl hx109 fl54_0) rfl ?_
          refine ol_g rfl rfl hs106 ?_
          refine ol_r (r_ldw rfl (fun w1 hb1 hs1 hB1 => ld_ownF (id := 1021) (o := 0) hs1 rfl rfl sc3 hx109 rfl)) rfl ?_
          refine ol_g rfl rfl hs106 ?_
          refine ol_r (r_move rfl) rfl ?_
          refine ol_g rfl rfl hs106 ?_
          refine ol_r (r_gtr rfl rfl) rfl ?_
          refine ol_g rfl rfl rfl ?_
          refine ol_r (r_pickF rfl hs106 rfl) rfl ?_
          refine ol_r (r_pickT rfl rfl rfl) rfl ?_
          refine ol_nil (to_k0 (fun _ _ h => h) (hK27 _ _ _ _ _ ?_))
          clear hK27
          first | refine wp_condD rfl (fun hc115 => ?_) (fun hc115 => ?_) | refine wp_condN rfl (fun hc115 => ?_) (fun hc115 => ?_) | refine wp_condNB rfl (fun hc115 => ?_) (fun hc115 => ?_) | refine wp_cond' rfl (fun hc115 => ?_) (fun hc115 => ?_)
          ·refine wp_reg ?_
           have hyes : ¬covS (idleR A.d gap).1 (atN A.ss k) = true ∧ ¬covS (stillR A.d slow least).1 (atN A.ss k) = true := ⟨hc1.e.1 (by first | exact .inl (by omega) | exact .inr ⟨x95, hx95, by omega⟩), hc2.e.1 (by first | exact .inl (by omega) | exact .inr ⟨x109, hx109, by omega⟩)⟩
           refine ol_r (r_move rfl) rfl ?_
           refine ol_r (r_move rfl) rfl ?_
           refine ol_r (r_move rfl) rfl ?_
           refine ol_r (r_sub rfl rfl (by omega)) rfl ?_
           refine ol_r (r_add rfl rfl (by omega)) rfl ?_
           refine ol_r (r_assign rfl) rfl ?_
           refine ol_nil (to_k0 (fun _ _ h => h) (hK17 _ _ _ _ _ ?_))
           clear hK17
           refine wp_reg ?_
           first
             | (have hyy := hyes)
             | (have hz := hx109
                have hno : ¬(¬covS (idleR A.d gap).1 (atN A.ss k) = true ∧ ¬covS (stillR A.d slow least).1 (atN A.ss k) = true) := fun h => by
                  rcases hc2.e.2 h.2 with h1 | ⟨s, hs, h2⟩
                  · omega
                  · rw [hx109] at hs; cases hs; omega)
             | (have hz := hx95
                have hno : ¬(¬covS (idleR A.d gap).1 (atN A.ss k) = true ∧ ¬covS (stillR A.d slow least).1 (atN A.ss k) = true) := fun h => by
                  rcases hc1.e.2 h.1 with h1 | ⟨s, hs, h2⟩
                  · omega
                  · rw [hx95] at hs; cases hs; omega)
           refine ol_r (r_move rfl) rfl ?_
           refine ol_r (r_add rfl rfl (by omega)) rfl ?_
           refine ol_r (r_assign rfl) rfl ?_
           refine ol_nil (to_k0 (fun _ _ h => h) (hK14 ((k + 1, i3, q3, _)) _ _ ?_ ?_ (sub_cons rfl (sub_cons rfl (sub_cons rfl (sub_cons rfl sub_nil)))) (sub_cons rfl (sub_cons rfl (sub_cons rfl (sub_cons rfl (sub_cons rfl sub_nil))))) (by exact subH_nil) (subH_same rfl (subH_same rfl (subH_same rfl subH_nil)))))
           ·try dsimp only
            first
            | (change _ at hyes; exact ⟨by omega, hi3.later (by omega), hq3.later (by omega), by rw [unc_step, if_pos hyes]; omega⟩)
            | exact ⟨by omega, hi3.later (by omega), hq3.later (by omega), by rw [unc_step, if_neg hno]; exact hn⟩
           ·try dsimp only
            omega
          ·refine wp_skip' (to_k0 (fun _ _ h => h) (hK17 _ _ _ _ _ ?_))
           clear hK17
           refine wp_reg ?_
           first
             | (have hyy := hyes)
             | (have hz := hx109
                have hno : ¬(¬covS (idleR A.d gap).1 (atN A.ss k) = true ∧ ¬covS (stillR A.d slow least).1 (atN A.ss k) = true) := fun h => by
                  rcases hc2.e.2 h.2 with h1 | ⟨s, hs, h2⟩
                  · omega
                  · rw [hx109] at hs; cases hs; omega)
             | (have hz := hx95
                have hno : ¬(¬covS (idleR A.d gap).1 (atN A.ss k) = true ∧ ¬covS (stillR A.d slow least).1 (atN A.ss k) = true) := fun h => by
                  rcases hc1.e.2 h.1 with h1 | ⟨s, hs, h2⟩
                  · omega
                  · rw [hx95] at hs; cases hs; omega)
           refine ol_r (r_move rfl) rfl ?_
           refine ol_r (r_add rfl rfl (by omega)) rfl ?_
           refine ol_r (r_assign rfl) rfl ?_
           refine ol_nil (to_k0 (fun _ _ h => h) (hK14 ((k + 1, i3, q3, _)) _ _ ?_ ?_ (sub_cons rfl (sub_cons rfl (sub_cons rfl (sub_cons rfl sub_nil)))) (sub_cons rfl (sub_cons rfl (sub_cons rfl (sub_cons rfl (sub_cons rfl sub_nil))))) (by exact subH_nil) (subH_same rfl (subH_same rfl (subH_same rfl subH_nil)))))
           ·try dsimp only
            first
            | (change _ at hyes; exact ⟨by omega, hi3.later (by omega), hq3.later (by omega), by rw [unc_step, if_pos hyes]; omega⟩)
            | exact ⟨by omega, hi3.later (by omega), hq3.later (by omega), by rw [unc_step, if_neg hno]; exact hn⟩
           ·try dsimp only
            omega
        ·have phs92 := hs92; try simp only [decide_eq_true_eq, decide_eq_false_iff_not, Bool.not_eq_true', Bool.not_eq_false', Bool.not_true, Bool.not_false] at phs92
         refine ol_g rfl rfl hs92 ?_
         refine ol_r (r_move rfl) rfl ?_
         refine ol_g rfl rfl hs92 ?_
         refine ol_r (r_move rfl) rfl ?_
         refine ol_g rfl rfl hs92 ?_
         refine ol_ixo (id := 1011) encSpan _ rfl rfl rfl rfl sl46 (by omega) rfl fun x95 hx95 => ?_
         try simp only [Int.toNat_natCast] at hx95
         try simp only [Int.toNat_natCast] at hx95
         refine ol_g rfl rfl hs92 ?_
         refine ol_r (r_faO (id := 1011) rfl rfl rfl hx95 fl54_0) rfl ?_
         refine ol_g rfl rfl hs92 ?_
         refine ol_r (r_ldw rfl (fun w1 hb1 hs1 hB1 => ld_ownF (id := 1011) (o := 0) hs1 rfl rfl sc3 hx95 rfl)) rfl ?_
         refine ol_g rfl rfl hs92 ?_
         refine ol_r (r_move rfl) rfl ?_
         refine ol_g rfl rfl hs92 ?_
         refine ol_r (r_gtr rfl rfl) rfl ?_
         refine ol_r (r_pickF rfl hs92 rfl) rfl ?_
         refine ol_r (r_move rfl) rfl ?_
         refine ol_split (d := 101) rfl (fun hs101 => ?_) (fun hs101 => ?_)
         ·have phs101 := hs101; try simp only [decide_eq_true_eq, decide_eq_false_iff_not, Bool.not_eq_true', Bool.not_eq_false', Bool.not_true, Bool.not_false] at phs101
          refine ol_g rfl rfl hs101 ?_
          refine ol_r (r_move rfl) rfl ?_
          refine ol_g rfl rfl hs101 ?_
          refine ol_r (r_move rfl) rfl ?_
          refine ol_g rfl rfl hs101 ?_
          refine ol_r (r_len rfl sl46) rfl ?_
          refine ol_g rfl rfl hs101 ?_
          refine ol_r (r_eql rfl rfl) rfl ?_
          refine ol_g rfl rfl hs101 ?_
          refine ol_r (r_move rfl) rfl ?_
          refine ol_split (d := 106) rfl (fun hs106 => ?_) (fun hs106 => ?_)
          ·have phs106 := hs106; try simp only [decide_eq_true_eq, decide_eq_false_iff_not, Bool.not_eq_true', Bool.not_eq_false', Bool.not_true, Bool.not_false] at phs106
           refine ol_s rfl rfl hs106 rfl ?_
           refine ol_s rfl rfl hs106 rfl ?_
           refine ol_s rfl rfl hs106 rfl ?_
           refine ol_s rfl rfl hs106 rfl ?_
           refine ol_s rfl rfl hs106 rfl ?_
           refine ol_s rfl rfl hs106 rfl ?_
           refine ol_s rfl rfl hs106 rfl ?_
           refine ol_g rfl rfl hs101 ?_
           refine ol_r (r_pickT rfl hs106 rfl) rfl ?_
           refine ol_r (r_pickT rfl hs101 rfl) rfl ?_
           refine ol_nil (to_k0 (fun _ _ h => h) (hK27 _ _ _ _ _ ?_))
           clear hK27
           refine wp_condT rfl ?_
           refine wp_reg ?_
           have hyes : ¬covS (idleR A.d gap).1 (atN A.ss k) = true ∧ ¬covS (stillR A.d slow least).1 (atN A.ss k) = true := ⟨hc1.e.1 (by first | exact .inl (by omega) | exact .inr ⟨x95, hx95, by omega⟩), hc2.e.1 (by first | exact .inl (by omega) | exact .inr ⟨x109, hx109, by omega⟩)⟩
           refine ol_r (r_move rfl) rfl ?_
           refine ol_r (r_move rfl) rfl ?_
           refine ol_r (r_move rfl) rfl ?_
           refine ol_r (r_sub rfl rfl (by omega)) rfl ?_
           refine ol_r (r_add rfl rfl (by omega)) rfl ?_
           refine ol_r (r_assign rfl) rfl ?_
           refine ol_nil (to_k0 (fun _ _ h => h) (hK17 _ _ _ _ _ ?_))
           clear hK17
           refine wp_reg ?_
           first
             | (have hyy := hyes)
             | (have hz := hx109
                have hno : ¬(¬covS (idleR A.d gap).1 (atN A.ss k) = true ∧ ¬covS (stillR A.d slow least).1 (atN A.ss k) = true) := fun h => by
                  rcases hc2.e.2 h.2 with h1 | ⟨s, hs, h2⟩
                  · omega
                  · rw [hx109] at hs; cases hs; omega)
             | (have hz := hx95
                have hno : ¬(¬covS (idleR A.d gap).1 (atN A.ss k) = true ∧ ¬covS (stillR A.d slow least).1 (atN A.ss k) = true) := fun h => by
                  rcases hc1.e.2 h.1 with h1 | ⟨s, hs, h2⟩
                  · omega
                  · rw [hx95] at hs; cases hs; omega)
           refine ol_r (r_move rfl) rfl ?_
           refine ol_r (r_add rfl rfl (by omega)) rfl ?_
           refine ol_r (r_assign rfl) rfl ?_
           refine ol_nil (to_k0 (fun _ _ h => h) (hK14 ((k + 1, i3, q3, _)) _ _ ?_ ?_ (sub_cons rfl (sub_cons rfl (sub_cons rfl (sub_cons rfl sub_nil)))) (sub_cons rfl (sub_cons rfl (sub_cons rfl (sub_cons rfl (sub_cons rfl sub_nil))))) (by exact subH_nil) (subH_same rfl (subH_same rfl (subH_same rfl subH_nil)))))
           ·try dsimp only
            first
            | (change _ at hyes; exact ⟨by omega, hi3.later (by omega), hq3.later (by omega), by rw [unc_step, if_pos hyes]; omega⟩)
            | exact ⟨by omega, hi3.later (by omega), hq3.later (by omega), by rw [unc_step, if_neg hno]; exact hn⟩
           ·try dsimp only
            omega
          ·have phs106 := hs106; try simp only [decide_eq_true_eq, decide_eq_false_iff_not, Bool.not_eq_true', Bool.not_eq_false', Bool.not_true, Bool.not_false] at phs106
           refine ol_g rfl rfl hs106 ?_
           refine ol_r (r_move rfl) rfl ?_
           refine ol_g rfl rfl hs106 ?_
           refine ol_r (r_move rfl) rfl ?_
           refine ol_g rfl rfl hs106 ?_
           refine ol_ixo (id := 1021) encSpan _ rfl rfl rfl rfl sl46 (by omega) rfl fun x109 hx109 => ?_
           try simp only [Int.toNat_natCast] at hx109
           try simp only [Int.toNat_natCast] at hx109
           refine ol_g rfl rfl hs106 ?_
           refine ol_r (r_faO (id := 1021) rfl rfl rfl hx109 fl54_0) rfl ?_
           refine ol_g rfl rfl hs106 ?_
           refine ol_r (r_ldw rfl (fun w1 hb1 hs1 hB1 => ld_ownF (id := 1021) (o := 0) hs1 rfl rfl sc3 hx109 rfl)) rfl ?_
           refine ol_g rfl rfl hs106 ?_
           refine ol_r (r_move rfl) rfl ?_
           refine ol_g rfl rfl hs106 ?_
           refine ol_r (r_gtr rfl rfl) rfl ?_
           refine ol_g rfl rfl hs101 ?_
           refine ol_r (r_pickF rfl hs106 rfl) rfl ?_
           refine ol_r (r_pickT rfl hs101 rfl) rfl ?_
           refine ol_nil (to_k0 (fun _ _ h => h) (hK27 _ _ _ _ _ ?_))
           clear hK27
           first | refine wp_condD rfl (fun hc115 => ?_) (fun hc115 => ?_) | refine wp_condN rfl (fun hc115 => ?_) (fun hc115 => ?_) | refine wp_condNB rfl (fun hc115 => ?_) (fun hc115 => ?_) | refine wp_cond' rfl (fun hc115 => ?_) (fun hc115 => ?_)
           ·refine wp_reg ?_
            have hyes : ¬covS (idleR A.d gap).1 (atN A.ss k) = true ∧ ¬covS (stillR A.d slow least).1 (atN A.ss k) = true := ⟨hc1.e.1 (by first | exact .inl (by omega) | exact .inr ⟨x95, hx95, by omega⟩), hc2.e.1 (by first | exact .inl (by omega) | exact .inr ⟨x109, hx109, by omega⟩)⟩
            refine ol_r (r_move rfl) rfl ?_
            refine ol_r (r_move rfl) rfl ?_
            refine ol_r (r_move rfl) rfl ?_
            refine ol_r (r_sub rfl rfl (by omega)) rfl ?_
            refine ol_r (r_add rfl rfl (by omega)) rfl ?_
            refine ol_r (r_assign rfl) rfl ?_
            refine ol_nil (to_k0 (fun _ _ h => h) (hK17 _ _ _ _ _ ?_))
            clear hK17
            refine wp_reg ?_
            first
              | (have hyy := hyes)
              | (have hz := hx109
                 have hno : ¬(¬covS (idleR A.d gap).1 (atN A.ss k) = true ∧ ¬covS (stillR A.d slow least).1 (atN A.ss k) = true) := fun h => by
                   rcases hc2.e.2 h.2 with h1 | ⟨s, hs, h2⟩
                   · omega
                   · rw [hx109] at hs; cases hs; omega)
              | (have hz := hx95
                 have hno : ¬(¬covS (idleR A.d gap).1 (atN A.ss k) = true ∧ ¬covS (stillR A.d slow least).1 (atN A.ss k) = true) := fun h => by
                   rcases hc1.e.2 h.1 with h1 | ⟨s, hs, h2⟩
                   · omega
                   · rw [hx95] at hs; cases hs; omega)
            refine ol_r (r_move rfl) rfl ?_
            refine ol_r (r_add rfl rfl (by omega)) rfl ?_
            refine ol_r (r_assign rfl) rfl ?_
            refine ol_nil (to_k0 (fun _ _ h => h) (hK14 ((k + 1, i3, q3, _)) _ _ ?_ ?_ (sub_cons rfl (sub_cons rfl (sub_cons rfl (sub_cons rfl sub_nil)))) (sub_cons rfl (sub_cons rfl (sub_cons rfl (sub_cons rfl (sub_cons rfl sub_nil))))) (by exact subH_nil) (subH_same rfl (subH_same rfl (subH_same rfl subH_nil)))))
            ·try dsimp only
             first
             | (change _ at hyes; exact ⟨by omega, hi3.later (by omega), hq3.later (by omega), by rw [unc_step, if_pos hyes]; omega⟩)
             | exact ⟨by omega, hi3.later (by omega), hq3.later (by omega), by rw [unc_step, if_neg hno]; exact hn⟩
            ·try dsimp only
             omega
           ·refine wp_skip' (to_k0 (fun _ _ h => h) (hK17 _ _ _ _ _ ?_))
            clear hK17
            refine wp_reg ?_
            first
              | (have hyy := hyes)
              | (have hz := hx109
                 have hno : ¬(¬covS (idleR A.d gap).1 (atN A.ss k) = true ∧ ¬covS (stillR A.d slow least).1 (atN A.ss k) = true) := fun h => by
                   rcases hc2.e.2 h.2 with h1 | ⟨s, hs, h2⟩
                   · omega
                   · rw [hx109] at hs; cases hs; omega)
              | (have hz := hx95
                 have hno : ¬(¬covS (idleR A.d gap).1 (atN A.ss k) = true ∧ ¬covS (stillR A.d slow least).1 (atN A.ss k) = true) := fun h => by
                   rcases hc1.e.2 h.1 with h1 | ⟨s, hs, h2⟩
                   · omega
                   · rw [hx95] at hs; cases hs; omega)
            refine ol_r (r_move rfl) rfl ?_
            refine ol_r (r_add rfl rfl (by omega)) rfl ?_
            refine ol_r (r_assign rfl) rfl ?_
            refine ol_nil (to_k0 (fun _ _ h => h) (hK14 ((k + 1, i3, q3, _)) _ _ ?_ ?_ (sub_cons rfl (sub_cons rfl (sub_cons rfl (sub_cons rfl sub_nil)))) (sub_cons rfl (sub_cons rfl (sub_cons rfl (sub_cons rfl (sub_cons rfl sub_nil))))) (by exact subH_nil) (subH_same rfl (subH_same rfl (subH_same rfl subH_nil)))))
            ·try dsimp only
             first
             | (change _ at hyes; exact ⟨by omega, hi3.later (by omega), hq3.later (by omega), by rw [unc_step, if_pos hyes]; omega⟩)
             | exact ⟨by omega, hi3.later (by omega), hq3.later (by omega), by rw [unc_step, if_neg hno]; exact hn⟩
            ·try dsimp only
             omega
         ·have phs101 := hs101; try simp only [decide_eq_true_eq, decide_eq_false_iff_not, Bool.not_eq_true', Bool.not_eq_false', Bool.not_true, Bool.not_false] at phs101
          refine ol_s rfl rfl hs101 rfl ?_
          refine ol_s rfl rfl hs101 rfl ?_
          refine ol_s rfl rfl hs101 rfl ?_
          refine ol_s rfl rfl hs101 rfl ?_
          refine ol_s rfl rfl hs101 rfl ?_
          refine ol_u rfl rfl rfl ?_
          refine ol_u rfl rfl rfl ?_
          refine ol_u rfl rfl rfl ?_
          refine ol_u rfl rfl rfl ?_
          refine ol_u rfl rfl rfl ?_
          refine ol_u rfl rfl rfl ?_
          refine ol_u rfl rfl rfl ?_
          refine ol_s rfl rfl hs101 rfl ?_
          refine ol_r (r_pickF rfl hs101 rfl) rfl ?_
          refine ol_nil (to_k0 (fun _ _ h => h) (hK27 _ _ _ _ _ ?_))
          clear hK27
          refine wp_condF rfl ?_
          refine wp_skip' (to_k0 (fun _ _ h => h) (hK17 _ _ _ _ _ ?_))
          clear hK17
          refine wp_reg ?_
          first
            | (have hyy := hyes)
            | (have hz := hx109
               have hno : ¬(¬covS (idleR A.d gap).1 (atN A.ss k) = true ∧ ¬covS (stillR A.d slow least).1 (atN A.ss k) = true) := fun h => by
                 rcases hc2.e.2 h.2 with h1 | ⟨s, hs, h2⟩
                 · omega
                 · rw [hx109] at hs; cases hs; omega)
            | (have hz := hx95
               have hno : ¬(¬covS (idleR A.d gap).1 (atN A.ss k) = true ∧ ¬covS (stillR A.d slow least).1 (atN A.ss k) = true) := fun h => by
                 rcases hc1.e.2 h.1 with h1 | ⟨s, hs, h2⟩
                 · omega
                 · rw [hx95] at hs; cases hs; omega)
          refine ol_r (r_move rfl) rfl ?_
          refine ol_r (r_add rfl rfl (by omega)) rfl ?_
          refine ol_r (r_assign rfl) rfl ?_
          refine ol_nil (to_k0 (fun _ _ h => h) (hK14 ((k + 1, i3, q3, _)) _ _ ?_ ?_ (sub_cons rfl (sub_cons rfl (sub_cons rfl (sub_cons rfl sub_nil)))) (sub_cons rfl (sub_cons rfl (sub_cons rfl (sub_cons rfl (sub_cons rfl sub_nil))))) (by exact subH_nil) (subH_same rfl (subH_same rfl (subH_same rfl subH_nil)))))
          ·try dsimp only
           first
           | (change _ at hyes; exact ⟨by omega, hi3.later (by omega), hq3.later (by omega), by rw [unc_step, if_pos hyes]; omega⟩)
           | exact ⟨by omega, hi3.later (by omega), hq3.later (by omega), by rw [unc_step, if_neg hno]; exact hn⟩
          ·try dsimp only
           omega
     ·refine wp_exit' (to_k0 (fun _ _ h => h) (hK12 _ _ _ _ _ ?_))
      clear hK12
      refine wp_seq' fun K28 hK28 => ?_
      refine wp_reg ?_
      refine ol_r (r_move rfl) rfl ?_
      refine ol_r (r_assign rfl) rfl ?_
      refine ol_r (r_assign rfl) rfl ?_
      refine ol_nil (to_k0 (fun _ _ h => h) (hK28 _ _ _ _ _ ?_))
      clear hK28
      refine hQ.ret (rvs2 (rv_t rfl) (rv_t rfl)) (fun _ _ h => h) fun w hb hs hB hkd => ?_
      obtain rfl : k = A.ss.length - 1 := by omega
      refine ⟨?_, hb⟩
      rw [movR_0 hc26 (by rw [← hsc]; exact hc36), hn, hL2]; rfl
end Go.Proofs.Ytogcclagmobkiaa
