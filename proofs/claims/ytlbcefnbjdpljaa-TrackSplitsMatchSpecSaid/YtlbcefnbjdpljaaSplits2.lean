/-
  TrackSplitsMatchSpec: the reference's Splits, and the law.
-/
import Derived.Test.YtlbcefnbjdpljaaSplits
namespace Go.Proofs.Ytlbcefnbjdpljaa
open Go Go.RowKit Hx
set_option linter.unusedVariables false
set_option linter.unusedSimpArgs false
set_option maxRecDepth 8000
theorem ref3_Splits (A : ActV) (way : Int) (w : World) (hA : A.Ok w.heap.size w) :
    Calls Try.prog 32 #[.agg #[.string A.name, .int .i64 A.sport, .int .i64 A.start, .slice A.sa A.sn A.sc, .slice A.la A.ln A.lc, .slice A.ta A.tn A.tc], .int .i64 way] w fun e w' => ∃ b m k, e = .returned (.tuple #[.slice b m k, .int .i64 (splitsR A.d way).2]) ∧ Fresh encSplit 65 w w' b m k (splitsR A.d way).1 := by
  have hsn := hA.s.len
  have hsf := hA.s.fit
  have hwl := wayL_len A.ss
  refine enterQ (N := 106) (C := fun _ => True) (H := []) (B := w.heap.size) (args := [_, _]) Try.func32 rfl rfl rfl (Nat.le_refl _) (Sat.nil _ _) fun Q hQ => ?_
  refine wp_seq' fun K1 hK1 => ?_
  refine wp_reg ?_
  refine ol_box 2 rfl rfl rfl fun b2 => ?_
  refine ol_r (r_assign rfl) rfl ?_
  refine ol_r (r_assign rfl) rfl ?_
  refine ol_nil (to_k0 (fun _ _ h => h) (hK1 _ _ _ _ _ ?_))
  clear hK1
  refine wp_seq' fun K2 hK2 => ?_
  refine wp_reg ?_
  refine ol_r (r_lda (id := 2) (n := 6) rfl rfl rfl ag26) rfl ?_
  refine ol_call rfl rfl cb18 rfl (fun w1 hb1 hs1 hB1 => Calls.mono (ref3_Ways A _ (hA.at hb1 hB1)) ?_)
  rintro e w2 ⟨a17, n17, c17, rfl, hf17⟩
  refine After.fresh (id := 17) rfl hb1 hs1 hB1 hf17 ?_
  have hl17 := hf17.len; clear hf17 hB1 hs1 hb1 w2 w1
  refine ol_r (r_move rfl) rfl ?_
  refine ol_r (r_extract rfl rfl) rfl ?_
  refine ol_r (r_extract rfl rfl) rfl ?_
  refine ol_r (r_assign rfl) rfl ?_
  refine ol_r (r_assign rfl) rfl ?_
  refine ol_nil (to_k0 (fun _ _ h => h) (hK2 _ _ _ _ _ ?_))
  clear hK2
  refine wp_seq' fun K3 hK3 => ?_
  refine wp_seq' fun K4 hK4 => ?_
  refine wp_reg ?_
  refine ol_r (r_move rfl) rfl ?_
  refine ol_r (r_neq rfl rfl) rfl ?_
  refine ol_nil (to_k0 (fun _ _ h => h) (hK4 _ _ _ _ _ ?_))
  clear hK4
  first | refine wp_condD rfl (fun hc21 => ?_) (fun hc21 => ?_) | refine wp_condN rfl (fun hc21 => ?_) (fun hc21 => ?_) | refine wp_condNB rfl (fun hc21 => ?_) (fun hc21 => ?_) | refine wp_cond' rfl (fun hc21 => ?_) (fun hc21 => ?_)
  ·refine wp_seq' fun K5 hK5 => ?_
   refine wp_reg ?_
   refine ol_r (r_move rfl) rfl ?_
   refine ol_r (r_assign rfl) rfl ?_
   refine ol_r (r_assign rfl) rfl ?_
   refine ol_nil (to_k0 (fun _ _ h => h) (hK5 _ _ _ _ _ ?_))
   clear hK5
   refine hQ.ret (rvs2 (rv_t rfl) (rv_t rfl)) (fun _ _ h => h) fun w hb hs hB hkd => ?_
   have h0 : chkA A.d ≠ 0 := fun h => hc21 (by rw [waysR_0 (fun h2 => h2 h)])
   have h := splitsR_e (f := way) h0
   have h2 := waysR_e h0
   exact ⟨none, 0, 0, by rw [h, h2], by rw [h]; exact Fresh.nil hb⟩
  ·refine wp_skip' (to_k0 (fun _ _ h => h) (hK3 _ _ _ _ _ ?_))
   clear hK3
   refine wp_seq' fun K6 hK6 => ?_
   refine wp_seq' fun K7 hK7 => ?_
   refine wp_reg ?_
   have h0 : chkA A.d = 0 := by
     by_cases h : chkA A.d = 0
     · exact h
     · rw [waysR_e h] at hc21; exact absurd h hc21
   have hok : SmpOk A.start A.ss := (goodA h0).smp
   have hl20 := hok.len
   have hW : (waysR A.d).1 = wayL A.ss := by rw [waysR_0 (fun h => h h0)]; rfl
   rw [hW] at hl17
   simp only [hW]
   refine ol_r (r_move rfl) rfl ?_
   refine ol_call rfl rfl cb41 rfl (fun w1 hb1 hs1 hB1 => Calls.mono (ref3_outside _ _ _ _) ?_)
   rintro e w2 ⟨rfl, hb2⟩
   refine After.below rfl hb1 hs1 hB1 hb2 ?_
   clear hb2 hB1 hs1 hb1 w2 w1
   refine ol_nil (to_k0 (fun _ _ h => h) (hK7 _ _ _ _ _ ?_))
   clear hK7
   first | refine wp_condD rfl (fun hc24 => ?_) (fun hc24 => ?_) | refine wp_condN rfl (fun hc24 => ?_) (fun hc24 => ?_) | refine wp_condNB rfl (fun hc24 => ?_) (fun hc24 => ?_) | refine wp_cond' rfl (fun hc24 => ?_) (fun hc24 => ?_)
   ·refine wp_seq' fun K8 hK8 => ?_
    refine wp_reg ?_
    refine ol_r (r_assign rfl) rfl ?_
    refine ol_r (r_assign rfl) rfl ?_
    refine ol_nil (to_k0 (fun _ _ h => h) (hK8 _ _ _ _ _ ?_))
    clear hK8
    refine hQ.ret (rvs2 (rv_t rfl) (rv_t rfl)) (fun _ _ h => h) fun w hb hs hB hkd => ?_
    have h := splitsR_9 (f := way) h0 (fun h => by have := inB_iff.2 h; rw [this] at hc24; cases hc24)
    exact ⟨none, 0, 0, by rw [h], by rw [h]; exact Fresh.nil hb⟩
   ·refine wp_skip' (to_k0 (fun _ _ h => h) (hK6 _ _ _ _ _ ?_))
    clear hK6
    refine wp_seq' fun K9 hK9 => ?_
    refine wp_seq' fun K10 hK10 => ?_
    refine wp_reg ?_
    have hin : 1 ≤ way ∧ way ≤ 1000000000 := inB_iff.1 (by simpa using hc24)
    refine ol_r (r_move rfl) rfl ?_
    refine ol_r (r_len rfl sl34) rfl ?_
    refine ol_r (r_eql rfl rfl) rfl ?_
    refine ol_nil (to_k0 (fun _ _ h => h) (hK10 _ _ _ _ _ ?_))
    clear hK10
    first | refine wp_condD rfl (fun hc27 => ?_) (fun hc27 => ?_) | refine wp_condN rfl (fun hc27 => ?_) (fun hc27 => ?_) | refine wp_condNB rfl (fun hc27 => ?_) (fun hc27 => ?_) | refine wp_cond' rfl (fun hc27 => ?_) (fun hc27 => ?_)
    ·refine wp_seq' fun K11 hK11 => ?_
     refine wp_reg ?_
     refine ol_r (r_assign rfl) rfl ?_
     refine ol_r (r_assign rfl) rfl ?_
     refine ol_nil (to_k0 (fun _ _ h => h) (hK11 _ _ _ _ _ ?_))
     clear hK11
     refine hQ.ret (rvs2 (rv_t rfl) (rv_t rfl)) (fun _ _ h => h) fun w hb hs hB hkd => ?_
     have e0 : A.d.ss.length - 1 = 0 := by show A.ss.length - 1 = 0; omega
     have h := splitsR_0 (a := A.d) h0 hin (by rw [e0, wayN_zero]; simp)
     rw [e0] at h
     exact ⟨none, 0, 0, by rw [h], by rw [h]; exact Fresh.nil hb⟩
    ·refine wp_skip' (to_k0 (fun _ _ h => h) (hK9 _ _ _ _ _ ?_))
     clear hK9
     refine wp_seq' fun K12 hK12 => ?_
     refine wp_seq' fun K13 hK13 => ?_
     refine wp_reg ?_
     refine ol_r (r_move rfl) rfl ?_
     refine ol_r (r_move rfl) rfl ?_
     refine ol_r (r_len rfl sl34) rfl ?_
     refine ol_r (r_sub rfl rfl (by omega)) rfl ?_
     refine ol_ixo (id := 17) encI _ rfl rfl rfl rfl sl34 (by omega) rfl fun x32 hx32 => ?_
     try simp only [Int.toNat_natCast] at hx32
     try simp only [Int.toNat_natCast] at hx32
     refine ol_r (r_ldw rfl (fun w1 hb1 hs1 hB1 => show Loads _ _ _ _ (.int .i64 x32) from ld_own (id := 17) hs1 rfl rfl ty3 hx32)) rfl ?_
     refine ol_r (r_move rfl) rfl ?_
     have h32 := runW_get hx32
     rw [show ((n17 : Int) - 1).toNat = A.ss.length - 1 by omega] at h32
     have hb32 := wayN_bd hok (A.ss.length - 1)
     first | refine ol_r (r_quo rfl rfl (by omega)) rfl ?_ | refine ol_r (r_tquo rfl rfl (by omega)) rfl ?_
     refine ol_r (r_gtr rfl rfl) rfl ?_
     refine ol_nil (to_k0 (fun _ _ h => h) (hK13 _ _ _ _ _ ?_))
     clear hK13
     first | refine wp_condD rfl (fun hc36 => ?_) (fun hc36 => ?_) | refine wp_condN rfl (fun hc36 => ?_) (fun hc36 => ?_) | refine wp_condNB rfl (fun hc36 => ?_) (fun hc36 => ?_) | refine wp_cond' rfl (fun hc36 => ?_) (fun hc36 => ?_)
     ·refine wp_seq' fun K14 hK14 => ?_
      refine wp_reg ?_
      refine ol_r (r_assign rfl) rfl ?_
      refine ol_r (r_assign rfl) rfl ?_
      refine ol_nil (to_k0 (fun _ _ h => h) (hK14 _ _ _ _ _ ?_))
      clear hK14
      refine hQ.ret (rvs2 (rv_t rfl) (rv_t rfl)) (fun _ _ h => h) fun w hb hs hB hkd => ?_
      have h := splitsR_3 (a := A.d) h0 hin (by show 10000 < wayN A.ss (A.ss.length - 1) / way; rw [← h32]; exact hc36)
      exact ⟨none, 0, 0, by rw [h], by rw [h]; exact Fresh.nil hb⟩
     ·refine wp_skip' (to_k0 (fun _ _ h => h) (hK12 _ _ _ _ _ ?_))
      clear hK12
      refine wp_seq' fun K15 hK15 => ?_
      refine wp_reg ?_
      refine ol_nilrow 8 65 2 ?_
      refine ol_r (r_assign rfl) rfl ?_
      refine ol_nil (to_k0 (fun _ _ h => h) (hK15 _ _ _ _ _ ?_))
      clear hK15
      refine wp_seq' fun K16 hK16 => ?_
      refine wp_seq' fun K17 hK17 => ?_
      refine wp_reg ?_
      refine ol_r (r_assign rfl) rfl ?_
      refine ol_nil (to_k0 (fun _ _ h => h) (hK17 _ _ _ _ _ ?_))
      clear hK17
      refine wp_block' ?_
      apply wp_loopM (σ := Nat × Nat × Option Addr × Nat) (fun s => s.1 + 1 ≤ A.ss.length ∧ s.2.1 = spN A.ss way s.1) (fun s => [(9, .int .i64 ((s.1 + 1 : Nat) : Int)), (8, .slice s.2.2.1 s.2.1 s.2.2.2)]) [(1, _), (2, _), (4, _), (5, _), (6, _)] (fun s => [(8, .row s.2.2.1 s.2.1 s.2.2.2 (encSplit.enc (splK A.ss way s.1)) 65 2)]) [(2, _), (17, _)] (fun s => A.ss.length - s.1) ((0, 0, none, 0))
      ·try dsimp only
       exact ⟨by omega, (spN_zero _ _).symm⟩
      ·exact (sub_cons rfl (sub_cons rfl sub_nil))
      ·exact (sub_cons rfl (sub_cons rfl (sub_cons rfl (sub_cons rfl (sub_cons rfl sub_nil)))))
      ·exact (subH_row rfl (by first | (dsimp only; rfl; done) | (rfl; done) | (dsimp only; done)) subH_nil)
      ·exact (subH_same rfl (subH_same rfl subH_nil))
      ·rintro ⟨k, cnt, oa, oc⟩ ⟨hk, hcnt⟩
       dsimp only at hk hcnt ⊢
       subst hcnt
       have hsb := spN_bd hok hin.1 k
       have hsb1 := spN_bd hok hin.1 (k + 1)
       have hwb := wayN_bd hok (k + 1)
       have hwb0 := wayN_bd hok k
       have e1 : (((k + 1 : Nat) : Int) - 1).toNat = k := by omega
       have hmu := Int.add_mul (spN A.ss way k : Int) 1 way
       intro K18 hK18
       refine wp_seq' fun K19 hK19 => ?_
       refine wp_seq' fun K20 hK20 => ?_
       refine wp_reg ?_
       refine ol_r (r_move rfl) rfl ?_
       refine ol_r (r_move rfl) rfl ?_
       refine ol_r (r_len rfl sl34) rfl ?_
       refine ol_r (r_lss rfl rfl) rfl ?_
       refine ol_nil (to_k0 (fun _ _ h => h) (hK20 _ _ _ _ _ ?_))
       clear hK20
       first | refine wp_condD rfl (fun hc40 => ?_) (fun hc40 => ?_) | refine wp_condN rfl (fun hc40 => ?_) (fun hc40 => ?_) | refine wp_condNB rfl (fun hc40 => ?_) (fun hc40 => ?_) | refine wp_cond' rfl (fun hc40 => ?_) (fun hc40 => ?_)
       ·refine wp_skip' (to_k0 (fun _ _ h => h) (hK19 _ _ _ _ _ ?_))
        clear hK19
        refine wp_seq' fun K21 hK21 => ?_
        refine wp_block' ?_
        refine wp_seq' fun K22 hK22 => ?_
        refine wp_rega [(999, [(2, _), (8, _), (17, _)])] (by kernel_rfl) ⟨.inr (subH_same rfl (subH_same rfl (subH_same rfl subH_nil))), trivial⟩ ?_
        refine aq_r 0 999 rfl (by kernel_rfl) (by kernel_rfl) (by kernel_rfl) (.head _) (by kernel_rfl) (by kernel_rfl) rfl (r_fa (o' := 3) rfl fl26_3 rfl) ?_
        refine aq_r 1 999 rfl (by kernel_rfl) (by kernel_rfl) (by kernel_rfl) (.head _) (by kernel_rfl) (by kernel_rfl) rfl (r_ld (id := 2) rfl rfl rfl sc22) ?_
        refine aq_r 2 999 rfl (by kernel_rfl) (by kernel_rfl) (by kernel_rfl) (.head _) (by kernel_rfl) (by kernel_rfl) rfl (r_move rfl) ?_
        refine aq_r 3 999 rfl (by kernel_rfl) (by kernel_rfl) (by kernel_rfl) (.head _) (by kernel_rfl) (by kernel_rfl) rfl (r_sub rfl rfl (by omega)) ?_
        refine aq_ixr 4 999 rfl (by kernel_rfl) (by kernel_rfl) (by kernel_rfl) (.head _) (by kernel_rfl) (by kernel_rfl) rfl hA.s rfl rfl sl22 (by omega) fun x47 hx47 => ?_
        try simp only [Int.toNat_natCast] at hx47
        have hx47' : A.ss[k]? = some x47 := by rw [← e1]; exact hx47
        refine aq_r 5 999 rfl (by kernel_rfl) (by kernel_rfl) (by kernel_rfl) (.head _) (by kernel_rfl) (by kernel_rfl) rfl (r_ldw rfl (fun w1 hb1 hs1 hB1 => Rd.loads hA.s ty36 hx47 hb1)) ?_
        refine aq_r 6 999 rfl (by kernel_rfl) (by kernel_rfl) (by kernel_rfl) (.head _) (by kernel_rfl) (by kernel_rfl) rfl (r_fa (o' := 3) rfl fl26_3 rfl) ?_
        refine aq_r 7 999 rfl (by kernel_rfl) (by kernel_rfl) (by kernel_rfl) (.head _) (by kernel_rfl) (by kernel_rfl) rfl (r_ld (id := 2) rfl rfl rfl sc22) ?_
        refine aq_r 8 999 rfl (by kernel_rfl) (by kernel_rfl) (by kernel_rfl) (.head _) (by kernel_rfl) (by kernel_rfl) rfl (r_move rfl) ?_
        refine aq_ixr 9 999 rfl (by kernel_rfl) (by kernel_rfl) (by kernel_rfl) (.head _) (by kernel_rfl) (by kernel_rfl) rfl hA.s rfl rfl sl22 (by omega) fun x52 hx52 => ?_
        try simp only [Int.toNat_natCast] at hx52
        refine aq_r 10 999 rfl (by kernel_rfl) (by kernel_rfl) (by kernel_rfl) (.head _) (by kernel_rfl) (by kernel_rfl) rfl (r_ldw rfl (fun w1 hb1 hs1 hB1 => Rd.loads hA.s ty36 hx52 hb1)) ?_
        refine aq_two (i := 11) (j := 12) (by kernel_rfl) rfl rfl (fun K23 hK23 => ?_) (fun K23 hK23 => ?_)
        ·refine ol_alloc 10 z36 rfl fun b10 => ?_
         refine ol_nil (to_k0 (fun _ _ h => h) (hK23 _ _ ⟨.inr (by repeat' first | exact subH_nil | refine subH_same rfl ?_ | (refine subH_blk rfl (by repeat' first | exact sub_nil | refine sub_cons rfl ?_) ?_)), trivial⟩ ?_))
         clear hK23
         refine aq_one (i := 12) (by kernel_rfl) rfl fun K24 hK24 => ?_
         refine ol_alloc 11 z36 rfl fun b11 => ?_
         refine ol_nil (to_k0 (fun _ _ h => h) (hK24 _ _ ⟨.inr (by repeat' first | exact subH_nil | refine subH_same rfl ?_ | (refine subH_blk rfl (by repeat' first | exact sub_nil | refine sub_cons rfl ?_) ?_)), trivial⟩ ?_))
         clear hK24
         refine aq_one (i := 13) (by kernel_rfl) rfl fun K25 hK25 => ?_
         refine ol_store (id := 10) rfl rfl rfl rfl sz36 rfl rfl (by first | decide | exact Nat.zero_lt_succ _ | simp) ?_
         refine ol_nil (to_k0 (fun _ _ h => h) (hK25 _ _ ⟨.inr (by repeat' first | exact subH_nil | refine subH_same rfl ?_ | (refine subH_blk rfl (by repeat' first | exact sub_nil | refine sub_cons rfl ?_) ?_)), trivial⟩ ?_))
         clear hK25
         refine aq_one (i := 14) (by kernel_rfl) rfl fun K26 hK26 => ?_
         refine ol_store (id := 11) rfl rfl rfl rfl sz36 rfl rfl (by first | decide | exact Nat.zero_lt_succ _ | simp) ?_
         refine ol_nil (to_k0 (fun _ _ h => h) (hK26 _ _ ⟨.inr (by repeat' first | exact subH_nil | refine subH_same rfl ?_ | (refine subH_blk rfl (by repeat' first | exact sub_nil | refine sub_cons rfl ?_) ?_)), trivial⟩ ?_))
         clear hK26
         refine aq_done (by kernel_rfl) ?_
         refine (to_k0 (fun _ _ h => h) (hK22 _ _ _ _ _ ?_))
         clear hK22
         refine wp_seq' fun K27 hK27 => ?_
         refine wp_reg ?_
         refine ol_r (r_move rfl) rfl ?_
         refine ol_r (r_len rfl sl60) rfl ?_
         refine ol_r (r_add rfl rfl (by omega)) rfl ?_
         refine ol_r (r_move rfl) rfl ?_
         refine ol_r (r_mul rfl rfl (by omega)) rfl ?_
         refine ol_r (r_assign rfl) rfl ?_
         refine ol_nil (to_k0 (fun _ _ h => h) (hK27 _ _ _ _ _ ?_))
         clear hK27
         refine wp_block' ?_
         apply wp_loopM (σ := Nat × Option Addr × Nat × Int) (fun s => spN A.ss way k + s.1 ≤ spN A.ss way (k + 1) ∧ s.2.2.2 = (((spN A.ss way k + s.1 : Nat) : Int) + 1) * way) (fun s => [(12, .int .i64 s.2.2.2), (8, .slice s.2.1 (spN A.ss way k + s.1) s.2.2.1)]) [(1, _), (2, _), (4, _), (5, _), (6, _), (9, _), (10, _), (11, _)] (fun s => [(8, .row s.2.1 (spN A.ss way k + s.1) s.2.2.1 (encSplit.enc (midK A.ss way k s.1)) 65 2)]) [(2, _), (10, _), (11, _), (17, _)] (fun s => spN A.ss way (k + 1) - (spN A.ss way k + s.1)) ((0, oa, oc, _))
         ·try dsimp only
          exact ⟨by have := spN_mono hok hin.1 (show k ≤ k + 1 by omega); omega, rfl⟩
         ·exact (sub_cons rfl (sub_cons rfl sub_nil))
         ·exact (sub_cons rfl (sub_cons rfl (sub_cons rfl (sub_cons rfl (sub_cons rfl (sub_cons rfl (sub_cons rfl (sub_cons rfl sub_nil))))))))
         ·exact (subH_row rfl (by first | (dsimp only; rw [midK_zero]; done) | (rw [midK_zero]; done) | (dsimp only; done)) subH_nil)
         ·exact (subH_same rfl (subH_same rfl (subH_same rfl (subH_same rfl subH_nil))))
         ·rintro ⟨m, oa, oc, d⟩ ⟨hm, hd⟩
          dsimp only at hm hd ⊢
          intro K28 hK28
          refine wp_seq' fun K29 hK29 => ?_
          refine wp_seq' fun K30 hK30 => ?_
          refine wp_reg ?_
          refine ol_r (r_move rfl) rfl ?_
          refine ol_r (r_move rfl) rfl ?_
          refine ol_r (r_move rfl) rfl ?_
          refine ol_ixo (id := 17) encI _ rfl rfl rfl rfl sl34 (by omega) rfl fun x62 hx62 => ?_
          try simp only [Int.toNat_natCast] at hx62
          try simp only [Int.toNat_natCast] at hx62
          have h62 := runW_get hx62
          refine ol_r (r_ldw rfl (fun w1 hb1 hs1 hB1 => show Loads _ _ _ _ (.int .i64 x62) from ld_own (id := 17) hs1 rfl rfl ty3 hx62)) rfl ?_
          refine ol_r (r_leq rfl rfl) rfl ?_
          refine ol_nil (to_k0 (fun _ _ h => h) (hK30 _ _ _ _ _ ?_))
          clear hK30
          first | refine wp_condD rfl (fun hc64 => ?_) (fun hc64 => ?_) | refine wp_condN rfl (fun hc64 => ?_) (fun hc64 => ?_) | refine wp_condNB rfl (fun hc64 => ?_) (fun hc64 => ?_) | refine wp_cond' rfl (fun hc64 => ?_) (fun hc64 => ?_)
          ·refine wp_skip' (to_k0 (fun _ _ h => h) (hK29 _ _ _ _ _ ?_))
           clear hK29
           refine wp_seq' fun K31 hK31 => ?_
           refine wp_block' ?_
           refine wp_seq' fun K32 hK32 => ?_
           refine wp_regq (by kernel_rfl) (by kernel_rfl) ?_
           refine ql_r (r_move rfl) rfl ?_
           refine ql_r (r_move rfl) rfl ?_
           refine ql_r (r_move rfl) rfl ?_
           refine ql_r (r_sub rfl rfl (by omega)) rfl ?_
           refine ql_ixo (id := 17) encI _ rfl rfl rfl rfl sl34 (by omega) (by omega) rfl fun x73 hx73 => ?_
           try simp only [Int.toNat_natCast] at hx73
           try simp only [Int.toNat_natCast] at hx73
           have hargs := split_args hok hin.1 hx47' hx52 hd (by omega)
           have h73 : x73 = wayN A.ss k := by have := runW_get hx73; rwa [e1] at this
           refine ql_r (r_ldw rfl (fun w1 hb1 hs1 hB1 => show Loads _ _ _ _ (.int .i64 x73) from ld_own (id := 17) hs1 rfl rfl ty3 hx73)) rfl ?_
           refine ql_r (r_sub rfl rfl (by omega)) rfl ?_
           refine ql_r (r_fa (o' := 0) rfl fl36_0 rfl) rfl ?_
           refine ql_r (r_ld (id := 11) rfl rfl rfl sc3) rfl ?_
           refine ql_r (r_fa (o' := 0) rfl fl36_0 rfl) rfl ?_
           refine ql_r (r_ld (id := 10) rfl rfl rfl sc3) rfl ?_
           refine ql_r (r_sub rfl rfl (by omega)) rfl ?_
           refine ql_r (r_mul rfl rfl (by omega)) rfl ?_
           refine ql_r (r_move rfl) rfl ?_
           refine ql_r (r_move rfl) rfl ?_
           refine ql_ixo (id := 17) encI _ rfl rfl rfl rfl sl34 (by omega) (by omega) rfl fun x84 hx84 => ?_
           try simp only [Int.toNat_natCast] at hx84
           try simp only [Int.toNat_natCast] at hx84
           have h84 := runW_get hx84
           refine ql_r (r_ldw rfl (fun w1 hb1 hs1 hB1 => show Loads _ _ _ _ (.int .i64 x84) from ld_own (id := 17) hs1 rfl rfl ty3 hx84)) rfl ?_
           refine ql_r (r_move rfl) rfl ?_
           refine ql_r (r_move rfl) rfl ?_
           refine ql_r (r_sub rfl rfl (by omega)) rfl ?_
           refine ql_ixo (id := 17) encI _ rfl rfl rfl rfl sl34 (by omega) (by omega) rfl fun x89 hx89 => ?_
           try simp only [Int.toNat_natCast] at hx89
           try simp only [Int.toNat_natCast] at hx89
           have h89 : x89 = wayN A.ss k := by have := runW_get hx89; rwa [e1] at this
           refine ql_r (r_ldw rfl (fun w1 hb1 hs1 hB1 => show Loads _ _ _ _ (.int .i64 x89) from ld_own (id := 17) hs1 rfl rfl ty3 hx89)) rfl ?_
           refine ql_r (r_sub rfl rfl (by omega)) rfl ?_
           refine ql_call rfl rfl cb67 rfl (fun w1 hb1 hs1 hB1 => ref1_ScaleUp _ _ _ _ (by omega) (by omega) (by omega) (by rw [h73]; omega)) ?_
           refine ql_r (r_move rfl) rfl ?_
           refine ql_r (r_extract rfl rfl) rfl ?_
           refine ql_r (r_extract rfl rfl) rfl ?_
           refine ql_r (r_assign rfl) rfl ?_
           refine ql_r (r_assign rfl) rfl ?_
           refine ql_nil (to_k0 (fun _ _ h => h) (hK32 _ _ _ _ _ ?_))
           clear hK32
           refine wp_reg ?_
           simp only [h73, h84, h89]
           refine ol_r (r_move rfl) rfl ?_
           refine ol_r (r_move rfl) rfl ?_
           refine ol_r (r_fa (o' := 0) rfl fl36_0 rfl) rfl ?_
           refine ol_r (r_ld (id := 10) rfl rfl rfl sc3) rfl ?_
           refine ol_r (r_mul rfl rfl (by omega)) rfl ?_
           refine ol_r (r_move rfl) rfl ?_
           refine ol_r (r_add rfl rfl (by omega)) rfl ?_
           refine ol_r (r_build rfl (fun _ => bd65_0_1 _ _ _)) rfl ?_
           refine ol_bs1 103 rfl rfl rw60 rfl rfl rfl fun a103 => ?_
           refine ol_append1 (id := 8) (id2 := 103) rfl rfl rfl rfl rfl rw60 (by omega) rfl fun a104 c104 => ?_
           refine ol_r (r_assign rfl) rfl ?_
           refine ol_nil (to_k0 (fun _ _ h => h) (hK31 _ _ _ _ _ ?_))
           clear hK31
           refine wp_reg ?_
           refine ol_r (r_move rfl) rfl ?_
           refine ol_r (r_move rfl) rfl ?_
           refine ol_r (r_add rfl rfl (by omega)) rfl ?_
           refine ol_r (r_assign rfl) rfl ?_
           refine ol_nil (to_k0 (fun _ _ h => h) (hK28 ((m + 1, _, _, _)) _ _ ?_ ?_ (sub_cons rfl (sub_cons rfl sub_nil)) (sub_cons rfl (sub_cons rfl (sub_cons rfl (sub_cons rfl (sub_cons rfl (sub_cons rfl (sub_cons rfl (sub_cons rfl sub_nil)))))))) (by exact (subH_row rfl (by first | (dsimp only; exact spl_row hx47' hx52 hd rfl; done) | (exact spl_row hx47' hx52 hd rfl; done) | (dsimp only; done)) subH_nil)) (subH_same rfl (subH_same rfl (subH_same rfl (subH_same rfl subH_nil))))))
           ·try dsimp only
            exact ⟨by omega, next_d hd⟩
           ·try dsimp only
            omega
          ·refine wp_exit' (to_k0 (fun _ _ h => h) (hK21 _ _ _ _ _ ?_))
           clear hK21
           refine wp_reg ?_
           have hend : spN A.ss way k + m = spN A.ss way (k + 1) := by
             have h9 := spN_cond hok hin.1 (k + 1) (spN A.ss way k + m)
             by_cases h : spN A.ss way k + m < spN A.ss way (k + 1)
             · have := h9.2 h; omega
             · omega
           refine ol_r (r_move rfl) rfl ?_
           refine ol_r (r_add rfl rfl (by omega)) rfl ?_
           refine ol_r (r_assign rfl) rfl ?_
           refine ol_nil (to_k0 (fun _ _ h => h) (hK18 ((k + 1, _, _, _)) _ _ ?_ ?_ (sub_cons rfl (sub_cons rfl sub_nil)) (sub_cons rfl (sub_cons rfl (sub_cons rfl (sub_cons rfl (sub_cons rfl sub_nil))))) (by exact (subH_row rfl (by first | (dsimp only; first | rfl | (rw [← midK_done, show spN A.ss way (k + 1) - spN A.ss way k = m by omega]); done) | (first | rfl | (rw [← midK_done, show spN A.ss way (k + 1) - spN A.ss way k = m by omega]); done) | (dsimp only; done)) subH_nil)) (subH_same rfl (subH_same rfl subH_nil))))
           ·try dsimp only
            exact ⟨by omega, hend⟩
           ·try dsimp only
            omega
        ·refine ol_alloc 11 z36 rfl fun b11 => ?_
         refine ol_nil (to_k0 (fun _ _ h => h) (hK23 _ _ ⟨.inr (by repeat' first | exact subH_nil | refine subH_same rfl ?_ | (refine subH_blk rfl (by repeat' first | exact sub_nil | refine sub_cons rfl ?_) ?_)), trivial⟩ ?_))
         clear hK23
         refine aq_one (i := 11) (by kernel_rfl) rfl fun K24 hK24 => ?_
         refine ol_alloc 10 z36 rfl fun b10 => ?_
         refine ol_nil (to_k0 (fun _ _ h => h) (hK24 _ _ ⟨.inr (by repeat' first | exact subH_nil | refine subH_same rfl ?_ | (refine subH_blk rfl (by repeat' first | exact sub_nil | refine sub_cons rfl ?_) ?_)), trivial⟩ ?_))
         clear hK24
         refine aq_one (i := 13) (by kernel_rfl) rfl fun K25 hK25 => ?_
         refine ol_store (id := 10) rfl rfl rfl rfl sz36 rfl rfl (by first | decide | exact Nat.zero_lt_succ _ | simp) ?_
         refine ol_nil (to_k0 (fun _ _ h => h) (hK25 _ _ ⟨.inr (by repeat' first | exact subH_nil | refine subH_same rfl ?_ | (refine subH_blk rfl (by repeat' first | exact sub_nil | refine sub_cons rfl ?_) ?_)), trivial⟩ ?_))
         clear hK25
         refine aq_one (i := 14) (by kernel_rfl) rfl fun K26 hK26 => ?_
         refine ol_store (id := 11) rfl rfl rfl rfl sz36 rfl rfl (by first | decide | exact Nat.zero_lt_succ _ | simp) ?_
         refine ol_nil (to_k0 (fun _ _ h => h) (hK26 _ _ ⟨.inr (by repeat' first | exact subH_nil | refine subH_same rfl ?_ | (refine subH_blk rfl (by repeat' first | exact sub_nil | refine sub_cons rfl ?_) ?_)), trivial⟩ ?_))
         clear hK26
         refine aq_done (by kernel_rfl) ?_
         refine (to_k0 (fun _ _ h => h) (hK22 _ _ _ _ _ ?_))
         clear hK22
         refine wp_seq' fun K27 hK27 => ?_
         refine wp_reg ?_
         refine ol_r (r_move rfl) rfl ?_
         refine ol_r (r_len rfl sl60) rfl ?_
         refine ol_r (r_add rfl rfl (by omega)) rfl ?_
         refine ol_r (r_move rfl) rfl ?_
         refine ol_r (r_mul rfl rfl (by omega)) rfl ?_
         refine ol_r (r_assign rfl) rfl ?_
         refine ol_nil (to_k0 (fun _ _ h => h) (hK27 _ _ _ _ _ ?_))
         clear hK27
         refine wp_block' ?_
         apply wp_loopM (σ := Nat × Option Addr × Nat × Int) (fun s => spN A.ss way k + s.1 ≤ spN A.ss way (k + 1) ∧ s.2.2.2 = (((spN A.ss way k + s.1 : Nat) : Int) + 1) * way) (fun s => [(12, .int .i64 s.2.2.2), (8, .slice s.2.1 (spN A.ss way k + s.1) s.2.2.1)]) [(1, _), (2, _), (4, _), (5, _), (6, _), (9, _), (10, _), (11, _)] (fun s => [(8, .row s.2.1 (spN A.ss way k + s.1) s.2.2.1 (encSplit.enc (midK A.ss way k s.1)) 65 2)]) [(2, _), (10, _), (11, _), (17, _)] (fun s => spN A.ss way (k + 1) - (spN A.ss way k + s.1)) ((0, oa, oc, _))
         ·try dsimp only
          exact ⟨by have := spN_mono hok hin.1 (show k ≤ k + 1 by omega); omega, rfl⟩
         ·exact (sub_cons rfl (sub_cons rfl sub_nil))
         ·exact (sub_cons rfl (sub_cons rfl (sub_cons rfl (sub_cons rfl (sub_cons rfl (sub_cons rfl (sub_cons rfl (sub_cons rfl sub_nil))))))))
         ·exact (subH_row rfl (by first | (dsimp only; rw [midK_zero]; done) | (rw [midK_zero]; done) | (dsimp only; done)) subH_nil)
         ·exact (subH_same rfl (subH_same rfl (subH_same rfl (subH_same rfl subH_nil))))
         ·rintro ⟨m, oa, oc, d⟩ ⟨hm, hd⟩
          dsimp only at hm hd ⊢
          intro K28 hK28
          refine wp_seq' fun K29 hK29 => ?_
          refine wp_seq' fun K30 hK30 => ?_
          refine wp_reg ?_
          refine ol_r (r_move rfl) rfl ?_
          refine ol_r (r_move rfl) rfl ?_
          refine ol_r (r_move rfl) rfl ?_
          refine ol_ixo (id := 17) encI _ rfl rfl rfl rfl sl34 (by omega) rfl fun x62 hx62 => ?_
          try simp only [Int.toNat_natCast] at hx62
          try simp only [Int.toNat_natCast] at hx62
          have h62 := runW_get hx62
          refine ol_r (r_ldw rfl (fun w1 hb1 hs1 hB1 => show Loads _ _ _ _ (.int .i64 x62) from ld_own (id := 17) hs1 rfl rfl ty3 hx62)) rfl ?_
          refine ol_r (r_leq rfl rfl) rfl ?_
          refine ol_nil (to_k0 (fun _ _ h => h) (hK30 _ _ _ _ _ ?_))
          clear hK30
          first | refine wp_condD rfl (fun hc64 => ?_) (fun hc64 => ?_) | refine wp_condN rfl (fun hc64 => ?_) (fun hc64 => ?_) | refine wp_condNB rfl (fun hc64 => ?_) (fun hc64 => ?_) | refine wp_cond' rfl (fun hc64 => ?_) (fun hc64 => ?_)
          ·refine wp_skip' (to_k0 (fun _ _ h => h) (hK29 _ _ _ _ _ ?_))
           clear hK29
           refine wp_seq' fun K31 hK31 => ?_
           refine wp_block' ?_
           refine wp_seq' fun K32 hK32 => ?_
           refine wp_regq (by kernel_rfl) (by kernel_rfl) ?_
           refine ql_r (r_move rfl) rfl ?_
           refine ql_r (r_move rfl) rfl ?_
           refine ql_r (r_move rfl) rfl ?_
           refine ql_r (r_sub rfl rfl (by omega)) rfl ?_
           refine ql_ixo (id := 17) encI _ rfl rfl rfl rfl sl34 (by omega) (by omega) rfl fun x73 hx73 => ?_
           try simp only [Int.toNat_natCast] at hx73
           try simp only [Int.toNat_natCast] at hx73
           have hargs := split_args hok hin.1 hx47' hx52 hd (by omega)
           have h73 : x73 = wayN A.ss k := by have := runW_get hx73; rwa [e1] at this
           refine ql_r (r_ldw rfl (fun w1 hb1 hs1 hB1 => show Loads _ _ _ _ (.int .i64 x73) from ld_own (id := 17) hs1 rfl rfl ty3 hx73)) rfl ?_
           refine ql_r (r_sub rfl rfl (by omega)) rfl ?_
           refine ql_r (r_fa (o' := 0) rfl fl36_0 rfl) rfl ?_
           refine ql_r (r_ld (id := 11) rfl rfl rfl sc3) rfl ?_
           refine ql_r (r_fa (o' := 0) rfl fl36_0 rfl) rfl ?_
           refine ql_r (r_ld (id := 10) rfl rfl rfl sc3) rfl ?_
           refine ql_r (r_sub rfl rfl (by omega)) rfl ?_
           refine ql_r (r_mul rfl rfl (by omega)) rfl ?_
           refine ql_r (r_move rfl) rfl ?_
           refine ql_r (r_move rfl) rfl ?_
           refine ql_ixo (id := 17) encI _ rfl rfl rfl rfl sl34 (by omega) (by omega) rfl fun x84 hx84 => ?_
           try simp only [Int.toNat_natCast] at hx84
           try simp only [Int.toNat_natCast] at hx84
           have h84 := runW_get hx84
           refine ql_r (r_ldw rfl (fun w1 hb1 hs1 hB1 => show Loads _ _ _ _ (.int .i64 x84) from ld_own (id := 17) hs1 rfl rfl ty3 hx84)) rfl ?_
           refine ql_r (r_move rfl) rfl ?_
           refine ql_r (r_move rfl) rfl ?_
           refine ql_r (r_sub rfl rfl (by omega)) rfl ?_
           refine ql_ixo (id := 17) encI _ rfl rfl rfl rfl sl34 (by omega) (by omega) rfl fun x89 hx89 => ?_
           try simp only [Int.toNat_natCast] at hx89
           try simp only [Int.toNat_natCast] at hx89
           have h89 : x89 = wayN A.ss k := by have := runW_get hx89; rwa [e1] at this
           refine ql_r (r_ldw rfl (fun w1 hb1 hs1 hB1 => show Loads _ _ _ _ (.int .i64 x89) from ld_own (id := 17) hs1 rfl rfl ty3 hx89)) rfl ?_
           refine ql_r (r_sub rfl rfl (by omega)) rfl ?_
           refine ql_call rfl rfl cb67 rfl (fun w1 hb1 hs1 hB1 => ref1_ScaleUp _ _ _ _ (by omega) (by omega) (by omega) (by rw [h73]; omega)) ?_
           refine ql_r (r_move rfl) rfl ?_
           refine ql_r (r_extract rfl rfl) rfl ?_
           refine ql_r (r_extract rfl rfl) rfl ?_
           refine ql_r (r_assign rfl) rfl ?_
           refine ql_r (r_assign rfl) rfl ?_
           refine ql_nil (to_k0 (fun _ _ h => h) (hK32 _ _ _ _ _ ?_))
           clear hK32
           refine wp_reg ?_
           simp only [h73, h84, h89]
           refine ol_r (r_move rfl) rfl ?_
           refine ol_r (r_move rfl) rfl ?_
           refine ol_r (r_fa (o' := 0) rfl fl36_0 rfl) rfl ?_
           refine ol_r (r_ld (id := 10) rfl rfl rfl sc3) rfl ?_
           refine ol_r (r_mul rfl rfl (by omega)) rfl ?_
           refine ol_r (r_move rfl) rfl ?_
           refine ol_r (r_add rfl rfl (by omega)) rfl ?_
           refine ol_r (r_build rfl (fun _ => bd65_0_1 _ _ _)) rfl ?_
           refine ol_bs1 103 rfl rfl rw60 rfl rfl rfl fun a103 => ?_
           refine ol_append1 (id := 8) (id2 := 103) rfl rfl rfl rfl rfl rw60 (by omega) rfl fun a104 c104 => ?_
           refine ol_r (r_assign rfl) rfl ?_
           refine ol_nil (to_k0 (fun _ _ h => h) (hK31 _ _ _ _ _ ?_))
           clear hK31
           refine wp_reg ?_
           refine ol_r (r_move rfl) rfl ?_
           refine ol_r (r_move rfl) rfl ?_
           refine ol_r (r_add rfl rfl (by omega)) rfl ?_
           refine ol_r (r_assign rfl) rfl ?_
           refine ol_nil (to_k0 (fun _ _ h => h) (hK28 ((m + 1, _, _, _)) _ _ ?_ ?_ (sub_cons rfl (sub_cons rfl sub_nil)) (sub_cons rfl (sub_cons rfl (sub_cons rfl (sub_cons rfl (sub_cons rfl (sub_cons rfl (sub_cons rfl (sub_cons rfl sub_nil)))))))) (by exact (subH_row rfl (by first | (dsimp only; exact spl_row hx47' hx52 hd rfl; done) | (exact spl_row hx47' hx52 hd rfl; done) | (dsimp only; done)) subH_nil)) (subH_same rfl (subH_same rfl (subH_same rfl (subH_same rfl subH_nil))))))
           ·try dsimp only
            exact ⟨by omega, next_d hd⟩
           ·try dsimp only
            omega
          ·refine wp_exit' (to_k0 (fun _ _ h => h) (hK21 _ _ _ _ _ ?_))
           clear hK21
           refine wp_reg ?_
           have hend : spN A.ss way k + m = spN A.ss way (k + 1) := by
             have h9 := spN_cond hok hin.1 (k + 1) (spN A.ss way k + m)
             by_cases h : spN A.ss way k + m < spN A.ss way (k + 1)
             · have := h9.2 h; omega
             · omega
           refine ol_r (r_move rfl) rfl ?_
           refine ol_r (r_add rfl rfl (by omega)) rfl ?_
           refine ol_r (r_assign rfl) rfl ?_
           refine ol_nil (to_k0 (fun _ _ h => h) (hK18 ((k + 1, _, _, _)) _ _ ?_ ?_ (sub_cons rfl (sub_cons rfl sub_nil)) (sub_cons rfl (sub_cons rfl (sub_cons rfl (sub_cons rfl (sub_cons rfl sub_nil))))) (by exact (subH_row rfl (by first | (dsimp only; first | rfl | (rw [← midK_done, show spN A.ss way (k + 1) - spN A.ss way k = m by omega]); done) | (first | rfl | (rw [← midK_done, show spN A.ss way (k + 1) - spN A.ss way k = m by omega]); done) | (dsimp only; done)) subH_nil)) (subH_same rfl (subH_same rfl subH_nil))))
           ·try dsimp only
            exact ⟨by omega, hend⟩
           ·try dsimp only
            omega
       ·refine wp_exit' (to_k0 (fun _ _ h => h) (hK16 _ _ _ _ _ ?_))
        clear hK16
        refine wp_seq' fun K33 hK33 => ?_
        refine wp_reg ?_
        refine ol_r (r_move rfl) rfl ?_
        refine ol_r (r_assign rfl) rfl ?_
        refine ol_r (r_assign rfl) rfl ?_
        refine ol_nil (to_k0 (fun _ _ h => h) (hK33 _ _ _ _ _ ?_))
        clear hK33
        refine hQ.ret (rvs2 (rv_t rfl) (rv_t rfl)) (fun _ _ h => h) fun w hb hs hB hkd => ?_
        have h := splitsR_0 (a := A.d) h0 hin (by show ¬10000 < wayN A.ss (A.ss.length - 1) / way; rw [← h32]; exact hc36)
        have hkn : k = A.ss.length - 1 := by omega
        subst hkn
        rw [h]
        exact ⟨_, _, _, rfl, hb, hs.ok 8 _ rfl⟩
theorem law_splits (A : ActV) (way : Int) (w : World) (hA : A.Ok w.heap.size w) :
    Calls Try.prog 10 #[.agg #[.string A.name, .int .i64 A.sport, .int .i64 A.start, .slice A.sa A.sn A.sc, .slice A.la A.ln A.lc, .slice A.ta A.tn A.tc], .int .i64 way] w fun e w' => e = .returned (.bool true) ∧ Below w.heap.size w w' := by
  refine enterQ (N := 32) (C := fun _ => True) (H := []) (B := w.heap.size) (args := [_, _]) Try.func10 rfl rfl rfl (Nat.le_refl _) (Sat.nil _ _) fun Q hQ => ?_
  refine wp_seq' fun K1 hK1 => ?_
  refine wp_reg ?_
  refine ol_box 2 rfl rfl rfl fun b2 => ?_
  refine ol_r (r_assign rfl) rfl ?_
  refine ol_nil (to_k0 (fun _ _ h => h) (hK1 _ _ _ _ _ ?_))
  clear hK1
  refine wp_seq' fun K2 hK2 => ?_
  refine wp_reg ?_
  refine ol_r (r_lda (id := 2) (n := 6) rfl rfl rfl ag26) rfl ?_
  refine ol_r (r_move rfl) rfl ?_
  refine ol_call rfl rfl cb31 rfl (fun w1 hb1 hs1 hB1 => Calls.mono (track_Splits A way _ (hA.at hb1 hB1)) ?_)
  rintro e w2 ⟨a12, n12, c12, rfl, hf12⟩
  refine After.fresh (id := 12) rfl hb1 hs1 hB1 hf12 ?_
  have hl12 := hf12.len; clear hf12 hB1 hs1 hb1 w2 w1
  refine ol_r (r_move rfl) rfl ?_
  refine ol_r (r_extract rfl rfl) rfl ?_
  refine ol_r (r_extract rfl rfl) rfl ?_
  refine ol_r (r_assign rfl) rfl ?_
  refine ol_r (r_assign rfl) rfl ?_
  refine ol_nil (to_k0 (fun _ _ h => h) (hK2 _ _ _ _ _ ?_))
  clear hK2
  refine wp_seq' fun K3 hK3 => ?_
  refine wp_reg ?_
  refine ol_r (r_lda (id := 2) (n := 6) rfl rfl rfl ag26) rfl ?_
  refine ol_r (r_move rfl) rfl ?_
  refine ol_call rfl rfl cb32 rfl (fun w1 hb1 hs1 hB1 => Calls.mono (ref3_Splits A way _ (hA.at hb1 hB1)) ?_)
  rintro e w2 ⟨a18, n18, c18, rfl, hf18⟩
  refine After.fresh (id := 18) rfl hb1 hs1 hB1 hf18 ?_
  have hl18 := hf18.len; clear hf18 hB1 hs1 hb1 w2 w1
  refine ol_r (r_move rfl) rfl ?_
  refine ol_r (r_extract rfl rfl) rfl ?_
  refine ol_r (r_extract rfl rfl) rfl ?_
  refine ol_r (r_assign rfl) rfl ?_
  refine ol_r (r_assign rfl) rfl ?_
  refine ol_nil (to_k0 (fun _ _ h => h) (hK3 _ _ _ _ _ ?_))
  clear hK3
  refine wp_seq' fun K4 hK4 => ?_
  refine wp_reg ?_
  refine ol_r (r_move rfl) rfl ?_
  refine ol_r (r_move rfl) rfl ?_
  refine ol_call rfl rfl cb33 rfl (fun w1 hb1 hs1 hB1 => ?_)
  have hnn : n18 = n12 := by rw [← hl18, ← hl12]
  subst hnn
  refine Calls.mono (equal_split_same _ _ _ _ _ (splitsR A.d way).1 _ (Sat.rd hs1 (id := 12) rfl rfl) (Sat.rd hs1 (id := 18) rfl rfl)) ?_
  rintro e w2 ⟨rfl, hb2⟩
  refine After.below rfl hb1 hs1 hB1 hb2 ?_
  clear hb2 hB1 hs1 hb1 w2 w1
  refine ol_r (r_move rfl) rfl ?_
  refine ol_split (d := 24) rfl (fun hs24 => ?_) (fun hs24 => ?_)
  ·have phs24 := hs24; try simp only [decide_eq_true_eq, decide_eq_false_iff_not, Bool.not_eq_true', Bool.not_eq_false', Bool.not_true, Bool.not_false] at phs24
   refine ol_g rfl rfl hs24 ?_
   refine ol_r (r_move rfl) rfl ?_
   refine ol_g rfl rfl hs24 ?_
   refine ol_r (r_move rfl) rfl ?_
   refine ol_g rfl rfl hs24 ?_
   refine ol_r (r_eql rfl rfl) rfl ?_
   refine ol_r (r_pickT rfl hs24 rfl) rfl ?_
   refine ol_r (r_move rfl) rfl ?_
   refine ol_split (d := 29) rfl (fun hs29 => ?_) (fun hs29 => ?_)
   ·have phs29 := hs29; try simp only [decide_eq_true_eq, decide_eq_false_iff_not, Bool.not_eq_true', Bool.not_eq_false', Bool.not_true, Bool.not_false] at phs29
    refine ol_g rfl rfl hs29 ?_
    refine ol_call rfl rfl cb14 rfl (fun w1 hb1 hs1 hB1 => Calls.mono (law3_told _) ?_)
    rintro e w2 ⟨rfl, hb2⟩
    refine After.below rfl hb1 hs1 hB1 hb2 ?_
    clear hb2 hB1 hs1 hb1 w2 w1
    refine ol_r (r_pickT rfl hs29 rfl) rfl ?_
    refine ol_r (r_assign rfl) rfl ?_
    refine ol_nil (to_k0 (fun _ _ h => h) (hK4 _ _ _ _ _ ?_))
    clear hK4
    refine hQ.ret (rvs1 (rv_t rfl)) (fun _ _ h => h) fun w hb hs hB hkd => ?_
    first
      | exact ⟨rfl, hb⟩
      | (exfalso; cases phs24; done)
      | (exfalso; simp at phs29; done)
   ·have phs29 := hs29; try simp only [decide_eq_true_eq, decide_eq_false_iff_not, Bool.not_eq_true', Bool.not_eq_false', Bool.not_true, Bool.not_false] at phs29
    refine ol_s rfl rfl hs29 rfl ?_
    refine ol_r (r_pickF rfl hs29 rfl) rfl ?_
    refine ol_r (r_assign rfl) rfl ?_
    refine ol_nil (to_k0 (fun _ _ h => h) (hK4 _ _ _ _ _ ?_))
    clear hK4
    refine hQ.ret (rvs1 (rv_t rfl)) (fun _ _ h => h) fun w hb hs hB hkd => ?_
    first
      | exact ⟨rfl, hb⟩
      | (exfalso; cases phs24; done)
      | (exfalso; simp at phs29; done)
  ·have phs24 := hs24; try simp only [decide_eq_true_eq, decide_eq_false_iff_not, Bool.not_eq_true', Bool.not_eq_false', Bool.not_true, Bool.not_false] at phs24
   refine ol_s rfl rfl hs24 rfl ?_
   refine ol_s rfl rfl hs24 rfl ?_
   refine ol_s rfl rfl hs24 rfl ?_
   refine ol_r (r_pickF rfl hs24 rfl) rfl ?_
   refine ol_r (r_move rfl) rfl ?_
   refine ol_s rfl rfl rfl rfl ?_
   refine ol_r (r_pickF rfl rfl rfl) rfl ?_
   refine ol_r (r_assign rfl) rfl ?_
   refine ol_nil (to_k0 (fun _ _ h => h) (hK4 _ _ _ _ _ ?_))
   clear hK4
   refine hQ.ret (rvs1 (rv_t rfl)) (fun _ _ h => h) fun w hb hs hB hkd => ?_
   first
     | exact ⟨rfl, hb⟩
     | (exfalso; cases phs24; done)
     | (exfalso; simp at phs29; done)
end Go.Proofs.Ytlbcefnbjdpljaa
