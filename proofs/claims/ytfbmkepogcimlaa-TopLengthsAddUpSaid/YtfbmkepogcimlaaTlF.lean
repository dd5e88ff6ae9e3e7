/-
  Join: the names of both, and the program.
-/
import Derived.Test.YtfbmkepogcimlaaTlA
import Derived.Test.YtfbmkepogcimlaaTlB
import Derived.Test.YtfbmkepogcimlaaTlC
import Derived.Test.YtfbmkepogcimlaaTlD
import Derived.Test.YtfbmkepogcimlaaTlE


namespace Go.Proofs.Ytfbmkepogcimlaa
open Go Go.RowKit Hx
set_option linter.unusedVariables false
set_option linter.unusedSimpArgs false
set_option maxRecDepth 8000
theorem track_Join (A D : ActV) (w : World) (hA : A.Ok w.heap.size w) (hD : D.Ok w.heap.size w) :
    Calls Try.prog 24 #[.agg #[.string A.name, .int .i64 A.sport, .int .i64 A.start, .slice A.sa A.sn A.sc, .slice A.la A.ln A.lc, .slice A.ta A.tn A.tc], .agg #[.string D.name, .int .i64 D.sport, .int .i64 D.start, .slice D.sa D.sn D.sc, .slice D.la D.ln D.lc, .slice D.ta D.tn D.tc]] w fun e w' => OutA w.heap.size w' (joinR A.d D.d) e ∧ Below w.heap.size w w' := by
  have hsn := hA.s.len
  have hln := hA.l.len
  have htn := hA.t.len
  have hsm := hD.s.len
  have hlm := hD.l.len
  have htm := hD.t.len
  refine enterQ (N := 146) (C := fun _ => True) (H := []) (B := w.heap.size) (args := [_, _]) Try.func24 rfl rfl rfl (Nat.le_refl _) (Sat.nil _ _) fun Q hQ => ?_
  refine wp_seq' fun K1 hK1 => ?_
  refine wp_reg ?_
  refine ol_box 2 rfl rfl rfl fun b2 => ?_
  refine ol_box 3 rfl rfl rfl fun b3 => ?_
  refine ol_alloc 4 z57 rfl fun b4 => ?_
  refine ol_r (r_assign rfl) rfl ?_
  refine ol_nil (to_k0 (fun _ _ h => h) (hK1 _ _ _ _ _ ?_))
  clear hK1
  refine wp_seq' fun K2 hK2 => ?_
  refine wp_seq' fun K3 hK3 => ?_
  refine wp_rega [(999, [(2, _), (3, _), (4, _)])] (by kernel_rfl) ⟨.inr (subH_same rfl (subH_same rfl (subH_same rfl subH_nil))), trivial⟩ ?_
  refine aq_r 0 999 rfl (by kernel_rfl) (by kernel_rfl) (by kernel_rfl) (.head _) (by kernel_rfl) (by kernel_rfl) rfl (r_lda (id := 2) (n := 6) rfl rfl rfl ag57) ?_
  refine aq_r 2 999 rfl (by kernel_rfl) (by kernel_rfl) (by kernel_rfl) (.head _) (by kernel_rfl) (by kernel_rfl) rfl (r_lda (id := 3) (n := 6) rfl rfl rfl ag57) ?_
  refine aq_one (i := 1) (by kernel_rfl) rfl fun K4 hK4 => ?_
  refine ol_call rfl rfl cb20 rfl (fun w1 hb1 hs1 hB1 => Calls.mono (record_Check A _ (hA.at hb1 hB1)) ?_)
  rintro e w2 ⟨rfl, hb2⟩
  refine After.below rfl hb1 hs1 hB1 hb2 ?_
  clear hb2 hB1 hs1 hb1 w2 w1
  refine ol_nil (to_k0 (fun _ _ h => h) (hK4 _ _ ⟨.inr (by repeat' first | exact subH_nil | refine subH_same rfl ?_ | (refine subH_blk rfl (by repeat' first | exact sub_nil | refine sub_cons rfl ?_) ?_)), trivial⟩ ?_))
  clear hK4
  refine aq_one (i := 3) (by kernel_rfl) rfl fun K5 hK5 => ?_
  refine ol_call rfl rfl cb20 rfl (fun w1 hb1 hs1 hB1 => Calls.mono (record_Check D _ (hD.at hb1 hB1)) ?_)
  rintro e w2 ⟨rfl, hb2⟩
  refine After.below rfl hb1 hs1 hB1 hb2 ?_
  clear hb2 hB1 hs1 hb1 w2 w1
  refine ol_nil (to_k0 (fun _ _ h => h) (hK5 _ _ ⟨.inr (by repeat' first | exact subH_nil | refine subH_same rfl ?_ | (refine subH_blk rfl (by repeat' first | exact sub_nil | refine sub_cons rfl ?_) ?_)), trivial⟩ ?_))
  clear hK5
  refine aq_one (i := 4) (by kernel_rfl) rfl fun K6 hK6 => ?_
  refine ol_bsN 19 rfl rw148 rfl rfl (fun _ => by kernel_rfl) rfl fun a19 => ?_
  refine ol_nil (to_k0 (fun _ _ h => h) (hK6 _ _ ⟨.inr (by repeat' first | exact subH_nil | refine subH_same rfl ?_ | (refine subH_blk rfl (by repeat' first | exact sub_nil | refine sub_cons rfl ?_) ?_)), trivial⟩ ?_))
  clear hK6
  refine aq_one (i := 5) (by kernel_rfl) rfl fun K7 hK7 => ?_
  refine ol_call rfl rfl cb53 rfl (fun w1 hb1 hs1 hB1 => Calls.mono (cmp_Or _ _ _ [chkA A.d, chkA D.d] _ (Sat.rd hs1 (E := encI) (id := 19) rfl rfl)) ?_)
  rintro e w2 ⟨rfl, hb2⟩
  refine After.below rfl hb1 hs1 hB1 hb2 ?_
  clear hb2 hB1 hs1 hb1 w2 w1
  refine ol_nil (to_k0 (fun _ _ h => h) (hK7 _ _ ⟨.inr (by repeat' first | exact subH_nil | refine subH_same rfl ?_ | (refine subH_blk rfl (by repeat' first | exact sub_nil | refine sub_cons rfl ?_) ?_)), trivial⟩ ?_))
  clear hK7
  refine aq_r 6 999 rfl (by kernel_rfl) (by kernel_rfl) (by kernel_rfl) (.head _) (by kernel_rfl) (by kernel_rfl) rfl (r_assign rfl) ?_
  refine aq_done (by kernel_rfl) ?_
  refine (to_k0 (fun _ _ h => h) (hK3 _ _ _ _ _ ?_))
  clear hK3
  refine wp_seq' fun K8 hK8 => ?_
  refine wp_reg ?_
  refine ol_r (r_move rfl) rfl ?_
  refine ol_r (r_neq rfl rfl) rfl ?_
  refine ol_nil (to_k0 (fun _ _ h => h) (hK8 _ _ _ _ _ ?_))
  clear hK8
  first | refine wp_condD rfl (fun hc22 => ?_) (fun hc22 => ?_) | refine wp_condN rfl (fun hc22 => ?_) (fun hc22 => ?_) | refine wp_condNB rfl (fun hc22 => ?_) (fun hc22 => ?_) | refine wp_cond' rfl (fun hc22 => ?_) (fun hc22 => ?_)
  ·refine wp_seq' fun K9 hK9 => ?_
   refine wp_reg ?_
   refine ol_r (r_build rfl (fun _ => bd57 _)) rfl ?_
   refine ol_r (r_move rfl) rfl ?_
   refine ol_store (id := 4) rfl rfl rfl rfl sz57 rfl rfl (by first | decide | exact Nat.zero_lt_succ _ | simp) ?_
   refine ol_r (r_assign rfl) rfl ?_
   refine ol_nil (to_k0 (fun _ _ h => h) (hK9 _ _ _ _ _ ?_))
   clear hK9
   refine hQ.ret (rvs2 (rv_c (id := 4) (n := 6) rfl rfl ag57 rfl) (rv_t rfl)) (fun _ _ h => h) fun w hb hs hB hkd => ?_
   exact ⟨outA_no (joinR_e hc22), hb⟩
  ·refine wp_skip' (to_k0 (fun _ _ h => h) (hK2 _ _ _ _ _ ?_))
   clear hK2
   refine wp_seq' fun K10 hK10 => ?_
   refine wp_block' ?_
   refine wp_seq' fun K11 hK11 => ?_
   refine wp_reg ?_
   have h0 : chkA A.d = 0 := (orR2 hc22).1
   have h1 : chkA D.d = 0 := (orR2 hc22).2
   have hg := goodA h0
   have hgd := goodA h1
   have hok : SmpOk A.start A.ss := hg.smp
   have hokd : SmpOk D.start D.ss := hgd.smp
   have hsp := hok.span
   have hst := inB_iff.1 hg.head.2.2.1
   have hstd := inB_iff.1 hgd.head.2.2.1
   obtain ⟨g4, g5, g6⟩ := hg.head.2.2.2
   obtain ⟨d4, d5, d6⟩ := hgd.head.2.2.2
   have hlb := lap_bd hgd
   have hspd := hokd.span
   dsimp only [ActV.d] at hst hstd g4 g5 g6 d4 d5 d6 hlb
   have hta := tags_up hg
   have htd := tags_up hgd
   dsimp only [ActV.d] at hta htd
   refine ol_r (r_fa (o' := 1) rfl fl57_1 rfl) rfl ?_
   refine ol_r (r_ld (id := 2) rfl rfl rfl sc3) rfl ?_
   refine ol_r (r_fa (o' := 1) rfl fl57_1 rfl) rfl ?_
   refine ol_r (r_ld (id := 3) rfl rfl rfl sc3) rfl ?_
   refine ol_r (r_neq rfl rfl) rfl ?_
   refine ol_r (r_assign rfl) rfl ?_
   refine ol_nil (to_k0 (fun _ _ h => h) (hK11 _ _ _ _ _ ?_))
   clear hK11
   first | refine wp_condD rfl (fun hc25 => ?_) (fun hc25 => ?_) | refine wp_condN rfl (fun hc25 => ?_) (fun hc25 => ?_) | refine wp_condNB rfl (fun hc25 => ?_) (fun hc25 => ?_) | refine wp_cond' rfl (fun hc25 => ?_) (fun hc25 => ?_)
   ·refine wp_seq' fun K12 hK12 => ?_
    refine wp_reg ?_
    refine ol_r (r_build rfl (fun _ => bd57 _)) rfl ?_
    refine ol_store (id := 4) rfl rfl rfl rfl sz57 rfl rfl (by first | decide | exact Nat.zero_lt_succ _ | simp) ?_
    refine ol_r (r_assign rfl) rfl ?_
    refine ol_nil (to_k0 (fun _ _ h => h) (hK12 _ _ _ _ _ ?_))
    clear hK12
    refine hQ.ret (rvs2 (rv_c (id := 4) (n := 6) rfl rfl ag57 rfl) (rv_t rfl)) (fun _ _ h => h) fun w hb hs hB hkd => ?_
    exact ⟨outA_no (joinR_7 (fun h => h h0) (fun h => h h1) hc25), hb⟩
   ·refine wp_seq' fun K13 hK13 => ?_
    refine wp_regq (by kernel_rfl) (by kernel_rfl) ?_
    refine ql_r (r_fa (o' := 2) rfl fl57_2 rfl) rfl ?_
    refine ql_r (r_ld (id := 3) rfl rfl rfl sc3) rfl ?_
    refine ql_r (r_fa (o' := 2) rfl fl57_2 rfl) rfl ?_
    refine ql_r (r_ld (id := 2) rfl rfl rfl sc3) rfl ?_
    refine ql_r (r_lda (id := 2) (n := 6) rfl rfl rfl ag57) rfl ?_
    refine ql_call rfl rfl cb41 rfl (fun w1 hb1 hs1 hB1 => record_Span A _ (hA.at hb1 hB1)) ?_
    refine ql_r (r_add rfl rfl (by omega)) rfl ?_
    refine ql_r (r_lss rfl rfl) rfl ?_
    refine ql_r (r_assign rfl) rfl ?_
    refine ql_nil (to_k0 (fun _ _ h => h) (hK13 _ _ _ _ _ ?_))
    clear hK13
    first | refine wp_condD rfl (fun hc32 => ?_) (fun hc32 => ?_) | refine wp_condN rfl (fun hc32 => ?_) (fun hc32 => ?_) | refine wp_condNB rfl (fun hc32 => ?_) (fun hc32 => ?_) | refine wp_cond' rfl (fun hc32 => ?_) (fun hc32 => ?_)
    ·refine wp_seq' fun K14 hK14 => ?_
     refine wp_reg ?_
     refine ol_r (r_build rfl (fun _ => bd57 _)) rfl ?_
     refine ol_store (id := 4) rfl rfl rfl rfl sz57 rfl rfl (by first | decide | exact Nat.zero_lt_succ _ | simp) ?_
     refine ol_r (r_assign rfl) rfl ?_
     refine ol_nil (to_k0 (fun _ _ h => h) (hK14 _ _ _ _ _ ?_))
     clear hK14
     refine hQ.ret (rvs2 (rv_c (id := 4) (n := 6) rfl rfl ag57 rfl) (rv_t rfl)) (fun _ _ h => h) fun w hb hs hB hkd => ?_
     exact ⟨outA_no (joinR_11 (fun h => h h0) (fun h => h h1) hc25 (by show D.start - A.start < spanL A.ss; omega)), hb⟩
    ·refine wp_skip' (to_k0 (fun _ _ h => h) (hK10 _ _ _ _ _ ?_))
     clear hK10
     refine wp_seq' fun K15 hK15 => ?_
     refine wp_reg ?_
     refine ol_r (r_lda (id := 2) (n := 6) rfl rfl rfl ag57) rfl ?_
     refine ol_call rfl rfl cb54 rfl (fun w1 hb1 hs1 hB1 => ?_)
     refine Calls.mono (record_Clone A _ (hA.at hb1 hB1) (by omega) (by omega) (by omega)) ?_
     rintro e w2 ⟨sa, sn, sc, la, ln, lc, ta, tn, tc, rfl, hb2, hs2⟩
     have q1 := (Sat.rd hs2 (E := encSmp) (id := 1001) rfl rfl).len
     have q2 := (Sat.rd hs2 (E := encLap) (id := 1002) rfl rfl).len
     have q3 := (Sat.rd hs2 (E := encStr) (id := 1003) rfl rfl).len
     refine After.more rfl hb1 hs1 hB1 hb2 hs2 ?_
     clear hs2 hb2 hB1 hs1 hb1 w2 w1
     refine ol_alloc 7 z57 rfl fun b7 => ?_
     refine ol_store (id := 7) rfl rfl rfl rfl sz57 rfl rfl (by first | decide | exact Nat.zero_lt_succ _ | simp) ?_
     refine ol_nil (to_k0 (fun _ _ h => h) (hK15 _ _ _ _ _ ?_))
     clear hK15
     refine wp_seq' fun K16 hK16 => ?_
     refine wp_reg ?_
     refine ol_r (r_fa (o' := 2) rfl fl57_2 rfl) rfl ?_
     refine ol_r (r_ld (id := 3) rfl rfl rfl sc3) rfl ?_
     refine ol_r (r_fa (o' := 2) rfl fl57_2 rfl) rfl ?_
     refine ol_r (r_ld (id := 2) rfl rfl rfl sc3) rfl ?_
     refine ol_r (r_sub rfl rfl (by omega)) rfl ?_
     refine ol_r (r_assign rfl) rfl ?_
     refine ol_nil (to_k0 (fun _ _ h => h) (hK16 _ _ _ _ _ ?_))
     clear hK16
     refine wp_seq' fun K17 hK17 => ?_
     refine wp_seq' fun K18 hK18 => ?_
     refine wp_reg ?_
     have hby : spanL A.ss ≤ D.start - A.start := by omega
     refine ol_r (r_fa (o' := 3) rfl fl57_3 rfl) rfl ?_
     refine ol_r (r_ld (id := 3) rfl rfl rfl sc53) rfl ?_
     refine ol_r (r_len rfl sl53) rfl ?_
     refine ol_r (r_move rfl) rfl ?_
     refine ol_nil (to_k0 (fun _ _ h => h) (hK18 _ _ _ _ _ ?_))
     clear hK18
     refine wp_block' ?_
     apply wp_loopM (σ := Nat × Option Addr × Nat × Nat) (fun s => s.1 ≤ D.ss.length ∧ (joinK A.ss D.ss (D.start - A.start) s.1).length = s.2.2.1) (fun s => [(52, .int .i64 s.1)]) [(3, _), (4, _), (5, _), (7, _), (8, _), (50, _), (51, _)] (fun s => [(7, .blk b7 [(0, .string A.name), (1, .int .i64 A.sport), (2, .int .i64 A.start), (3, .slice s.2.1 s.2.2.1 s.2.2.2), (4, .slice la ln lc), (5, .slice ta tn tc)] 57), (1001, .row s.2.1 s.2.2.1 s.2.2.2 (encSmp.enc (joinK A.ss D.ss (D.start - A.start) s.1)) 70 7)]) [(2, _), (3, _), (4, _), (19, _), (1002, _), (1003, _)] (fun s => D.ss.length - s.1) ((0, sa, sn, sc))
     ·try dsimp only
      exact ⟨Nat.zero_le _, q1⟩
     ·exact (sub_cons rfl sub_nil)
     ·exact (sub_cons rfl (sub_cons rfl (sub_cons rfl (sub_cons rfl (sub_cons rfl (sub_cons rfl (sub_cons rfl sub_nil)))))))
     ·exact (subH_blk rfl (sub_cons rfl (sub_cons rfl (sub_cons rfl (sub_cons rfl (sub_cons rfl (sub_cons rfl sub_nil)))))) (subH_row rfl (by first | (dsimp only; rfl; done) | (rfl; done) | (dsimp only; done)) subH_nil))
     ·exact (subH_same rfl (subH_same rfl (subH_same rfl (subH_same rfl (subH_same rfl (subH_same rfl subH_nil))))))
     ·rintro ⟨k, oa, on, oc⟩ ⟨hk, hon⟩
      dsimp only at hk hon ⊢
      have hjl := joinK_len A.ss D.ss (D.start - A.start) k
      intro K19 hK19
      refine wp_seq' fun K20 hK20 => ?_
      refine wp_reg ?_
      refine ol_r (r_lss rfl rfl) rfl ?_
      refine ol_nil (to_k0 (fun _ _ h => h) (hK20 _ _ _ _ _ ?_))
      clear hK20
      refine wp_seq' fun K21 hK21 => ?_
      first | refine wp_condD rfl (fun hc53 => ?_) (fun hc53 => ?_) | refine wp_condN rfl (fun hc53 => ?_) (fun hc53 => ?_) | refine wp_condNB rfl (fun hc53 => ?_) (fun hc53 => ?_) | refine wp_cond' rfl (fun hc53 => ?_) (fun hc53 => ?_)
      ·refine wp_skip' (to_k0 (fun _ _ h => h) (hK21 _ _ _ _ _ ?_))
       clear hK21
       refine wp_seq' fun K22 hK22 => ?_
       refine wp_block' ?_
       refine wp_seq' fun K23 hK23 => ?_
       refine wp_reg ?_
       refine ol_ixr hD.s rfl rfl sl53 (by omega) rfl fun x54 hx54 => ?_
       try simp only [Int.toNat_natCast] at hx54
       refine ol_r (r_ldw rfl (fun w1 hb1 hs1 hB1 => Rd.loads hD.s ty70 hx54 hb1)) rfl ?_
       refine ol_alloc 10 z70 rfl fun b10 => ?_
       refine ol_store (id := 10) rfl rfl rfl rfl sz70 rfl rfl (by first | decide | exact Nat.zero_lt_succ _ | simp) ?_
       refine ol_nil (to_k0 (fun _ _ h => h) (hK23 _ _ _ _ _ ?_))
       clear hK23
       refine wp_seq' fun K24 hK24 => ?_
       refine wp_reg ?_
       refine ol_r (r_fa (o' := 0) rfl fl70_0 rfl) rfl ?_
       refine ol_r (r_ld (id := 10) rfl rfl rfl sc3) rfl ?_
       refine ol_r (r_move rfl) rfl ?_
       have hbx := hokd.bd _ (List.mem_of_getElem? hx54)
       refine ol_r (r_add rfl rfl (by omega)) rfl ?_
       refine ol_r (r_fa (o' := 0) rfl fl70_0 rfl) rfl ?_
       refine ol_store (id := 10) rfl rfl rfl rfl sz3 rfl rfl (by first | decide | exact Nat.zero_lt_succ _ | simp) ?_
       refine ol_nil (to_k0 (fun _ _ h => h) (hK24 _ _ _ _ _ ?_))
       clear hK24
       refine wp_seq' fun K25 hK25 => ?_
       refine wp_reg ?_
       have hJ := join_cond hok hokd hby hx54
       refine ol_r (r_fa (o' := 3) rfl fl57_3 rfl) rfl ?_
       refine ol_r (r_ld (id := 7) rfl rfl rfl sc53) rfl ?_
       refine ol_r (r_len rfl sl53) rfl ?_
       refine ol_r (r_assign rfl) rfl ?_
       refine ol_nil (to_k0 (fun _ _ h => h) (hK25 _ _ _ _ _ ?_))
       clear hK25
       refine wp_seq' fun K26 hK26 => ?_
       refine wp_regq (by kernel_rfl) (by kernel_rfl) ?_
       refine ql_r (r_move rfl) rfl ?_
       refine ql_r (r_eql rfl rfl) rfl ?_
       refine ql_r (r_move rfl) rfl ?_
       refine ql_split (d := 66) rfl (fun hs66 => ?_) (fun hs66 => ?_)
       ·have phs66 := hs66; try simp only [decide_eq_true_eq, decide_eq_false_iff_not, Bool.not_eq_true', Bool.not_eq_false', Bool.not_true, Bool.not_false] at phs66
        refine ql_s rfl rfl hs66 rfl ?_
        refine ql_s rfl rfl hs66 rfl ?_
        refine ql_s rfl rfl hs66 rfl ?_
        refine ql_s rfl rfl hs66 rfl ?_
        refine ql_s rfl rfl hs66 rfl ?_
        refine ql_s rfl rfl hs66 rfl ?_
        refine ql_s rfl rfl hs66 rfl ?_
        refine ql_s rfl rfl hs66 rfl ?_
        refine ql_s rfl rfl hs66 rfl ?_
        refine ql_s rfl rfl hs66 rfl ?_
        refine ql_r (r_pickT rfl hs66 rfl) rfl ?_
        refine ql_nil (to_k0 (fun _ _ h => h) (hK26 _ _ _ _ _ ?_))
        clear hK26
        refine wp_condT rfl ?_
        refine wp_reg ?_
        have hyes : 0 < k ∨ A.ss.length = 0 ∨ spanL A.ss < x54.at_ + (D.start - A.start) := by
          refine hJ.1 ?_
          by_cases hn0 : on = 0
          · exact .inl (by omega)
          · first
              | (exfalso; omega)
              | (refine .inr fun x hx => ?_
                 rw [show ((on : Int) - 1).toNat = on - 1 by omega] at hx71
                 rw [hon, hx71] at hx
                 cases hx
                 exact hc77)
        refine ol_r (r_fa (o' := 3) rfl fl57_3 rfl) rfl ?_
        refine ol_r (r_ld (id := 7) rfl rfl rfl sc53) rfl ?_
        refine ol_r (r_lda (id := 10) (n := 7) rfl rfl rfl ag70) rfl ?_
        refine ol_bs1 81 rfl rfl rw53 rfl rfl rfl fun a81 => ?_
        refine ol_append1 (id := 1001) (id2 := 81) rfl rfl rfl rfl rfl rw53 (by omega) rfl fun a82 c82 => ?_
        refine ol_r (r_fa (o' := 3) rfl fl57_3 rfl) rfl ?_
        refine ol_store (id := 7) rfl rfl rfl rfl sz53 rfl rfl (by first | decide | exact Nat.zero_lt_succ _ | simp) ?_
        refine ol_nil (to_k0 (fun _ _ h => h) (hK22 _ _ _ _ _ ?_))
        clear hK22
        refine wp_reg ?_
        first
          | (change _ at hyes; skip)
          | (have hno : ¬(0 < k ∨ A.ss.length = 0 ∨ spanL A.ss < x54.at_ + (D.start - A.start)) := fun h => by
               rcases hJ.2 h with h2 | h2
               · omega
               · exact hc77 (h2 x71 (by rw [hon, show on - 1 = ((on : Int) - 1).toNat by omega]; exact hx71))
             skip)
        refine ol_r (r_add rfl rfl (by omega)) rfl ?_
        refine ol_r (r_move rfl) rfl ?_
        refine ol_nil (to_k0 (fun _ _ h => h) (hK19 ((k + 1, _, _, _)) _ _ ?_ ?_ (sub_cons rfl sub_nil) (sub_cons rfl (sub_cons rfl (sub_cons rfl (sub_cons rfl (sub_cons rfl (sub_cons rfl (sub_cons rfl sub_nil))))))) (by exact (subH_blk rfl (sub_cons rfl (sub_cons rfl (sub_cons rfl (sub_cons rfl (sub_cons rfl (sub_cons rfl sub_nil)))))) (subH_row rfl (by first | (dsimp only; first | (change _ at hyes; rw [joinK_yes hx54 hyes, Enc.enc_append]; rfl) | (change _ at hno; rw [joinK_no hx54 hno]); done) | (first | (change _ at hyes; rw [joinK_yes hx54 hyes, Enc.enc_append]; rfl) | (change _ at hno; rw [joinK_no hx54 hno]); done) | (dsimp only; done)) subH_nil))) (subH_same rfl (subH_same rfl (subH_same rfl (subH_same rfl (subH_same rfl (subH_same rfl subH_nil))))))))
        ·try dsimp only
         first
           | (change _ at hyes
              exact ⟨by omega, by rw [joinK_yes hx54 hyes, List.length_append, hon]; rfl⟩)
           | (change _ at hno
              exact ⟨by omega, by rw [joinK_no hx54 hno]; exact hon⟩)
        ·try dsimp only
         omega
       ·have phs66 := hs66; try simp only [decide_eq_true_eq, decide_eq_false_iff_not, Bool.not_eq_true', Bool.not_eq_false', Bool.not_true, Bool.not_false] at phs66
        refine ql_g rfl rfl hs66 ?_
        refine ql_r (r_fa (o' := 3) rfl fl57_3 rfl) rfl ?_
        refine ql_g rfl rfl hs66 ?_
        refine ql_r (r_ld (id := 7) rfl rfl rfl sc53) rfl ?_
        refine ql_g rfl rfl hs66 ?_
        refine ql_r (r_move rfl) rfl ?_
        refine ql_g rfl rfl hs66 ?_
        refine ql_r (r_sub rfl rfl (by omega)) rfl ?_
        refine ql_g rfl rfl hs66 ?_
        refine ql_ixo (id := 1001) encSmp _ rfl rfl rfl rfl sl53 (by omega) (by omega) rfl fun x71 hx71 => ?_
        try simp only [Int.toNat_natCast] at hx71
        try simp only [Int.toNat_natCast] at hx71
        refine ql_g rfl rfl hs66 ?_
        refine ql_r (r_faO (id := 1001) rfl rfl rfl hx71 fl70_0) rfl ?_
        refine ql_g rfl rfl hs66 ?_
        refine ql_r (r_ldw rfl (fun w1 hb1 hs1 hB1 => ld_ownF (id := 1001) (o := 0) hs1 rfl rfl sc3 hx71 rfl)) rfl ?_
        refine ql_g rfl rfl hs66 ?_
        refine ql_r (r_fa (o' := 0) rfl fl70_0 rfl) rfl ?_
        refine ql_g rfl rfl hs66 ?_
        refine ql_r (r_ld (id := 10) rfl rfl rfl sc3) rfl ?_
        refine ql_g rfl rfl hs66 ?_
        refine ql_r (r_neq rfl rfl) rfl ?_
        refine ql_r (r_pickF rfl hs66 rfl) rfl ?_
        refine ql_nil (to_k0 (fun _ _ h => h) (hK26 _ _ _ _ _ ?_))
        clear hK26
        first | refine wp_condD rfl (fun hc77 => ?_) (fun hc77 => ?_) | refine wp_condN rfl (fun hc77 => ?_) (fun hc77 => ?_) | refine wp_condNB rfl (fun hc77 => ?_) (fun hc77 => ?_) | refine wp_cond' rfl (fun hc77 => ?_) (fun hc77 => ?_)
        ·refine wp_reg ?_
         have hyes : 0 < k ∨ A.ss.length = 0 ∨ spanL A.ss < x54.at_ + (D.start - A.start) := by
           refine hJ.1 ?_
           by_cases hn0 : on = 0
           · exact .inl (by omega)
           · first
               | (exfalso; omega)
               | (refine .inr fun x hx => ?_
                  rw [show ((on : Int) - 1).toNat = on - 1 by omega] at hx71
                  rw [hon, hx71] at hx
                  cases hx
                  exact hc77)
         refine ol_r (r_fa (o' := 3) rfl fl57_3 rfl) rfl ?_
         refine ol_r (r_ld (id := 7) rfl rfl rfl sc53) rfl ?_
         refine ol_r (r_lda (id := 10) (n := 7) rfl rfl rfl ag70) rfl ?_
         refine ol_bs1 81 rfl rfl rw53 rfl rfl rfl fun a81 => ?_
         refine ol_append1 (id := 1001) (id2 := 81) rfl rfl rfl rfl rfl rw53 (by omega) rfl fun a82 c82 => ?_
         refine ol_r (r_fa (o' := 3) rfl fl57_3 rfl) rfl ?_
         refine ol_store (id := 7) rfl rfl rfl rfl sz53 rfl rfl (by first | decide | exact Nat.zero_lt_succ _ | simp) ?_
         refine ol_nil (to_k0 (fun _ _ h => h) (hK22 _ _ _ _ _ ?_))
         clear hK22
         refine wp_reg ?_
         first
           | (change _ at hyes; skip)
           | (have hno : ¬(0 < k ∨ A.ss.length = 0 ∨ spanL A.ss < x54.at_ + (D.start - A.start)) := fun h => by
                rcases hJ.2 h with h2 | h2
                · omega
                · exact hc77 (h2 x71 (by rw [hon, show on - 1 = ((on : Int) - 1).toNat by omega]; exact hx71))
              skip)
         refine ol_r (r_add rfl rfl (by omega)) rfl ?_
         refine ol_r (r_move rfl) rfl ?_
         refine ol_nil (to_k0 (fun _ _ h => h) (hK19 ((k + 1, _, _, _)) _ _ ?_ ?_ (sub_cons rfl sub_nil) (sub_cons rfl (sub_cons rfl (sub_cons rfl (sub_cons rfl (sub_cons rfl (sub_cons rfl (sub_cons rfl sub_nil))))))) (by exact (subH_blk rfl (sub_cons rfl (sub_cons rfl (sub_cons rfl (sub_cons rfl (sub_cons rfl (sub_cons rfl sub_nil)))))) (subH_row rfl (by first | (dsimp only; first | (change _ at hyes; rw [joinK_yes hx54 hyes, Enc.enc_append]; rfl) | (change _ at hno; rw [joinK_no hx54 hno]); done) | (first | (change _ at hyes; rw [joinK_yes hx54 hyes, Enc.enc_append]; rfl) | (change _ at hno; rw [joinK_no hx54 hno]); done) | (dsimp only; done)) subH_nil))) (subH_same rfl (subH_same rfl (subH_same rfl (subH_same rfl (subH_same rfl (subH_same rfl subH_nil))))))))
         ·try dsimp only
          first
            | (change _ at hyes
               exact ⟨by omega, by rw [joinK_yes hx54 hyes, List.length_append, hon]; rfl⟩)
            | (change _ at hno
               exact ⟨by omega, by rw [joinK_no hx54 hno]; exact hon⟩)
         ·try dsimp only
          omega
        ·refine wp_skip' (to_k0 (fun _ _ h => h) (hK22 _ _ _ _ _ ?_))
         clear hK22
         refine wp_reg ?_
         first
           | (change _ at hyes; skip)
           | (have hno : ¬(0 < k ∨ A.ss.length = 0 ∨ spanL A.ss < x54.at_ + (D.start - A.start)) := fun h => by
                rcases hJ.2 h with h2 | h2
                · omega
                · exact hc77 (h2 x71 (by rw [hon, show on - 1 = ((on : Int) - 1).toNat by omega]; exact hx71))
              skip)
         refine ol_r (r_add rfl rfl (by omega)) rfl ?_
         refine ol_r (r_move rfl) rfl ?_
         refine ol_nil (to_k0 (fun _ _ h => h) (hK19 ((k + 1, _, _, _)) _ _ ?_ ?_ (sub_cons rfl sub_nil) (sub_cons rfl (sub_cons rfl (sub_cons rfl (sub_cons rfl (sub_cons rfl (sub_cons rfl (sub_cons rfl sub_nil))))))) (by exact (subH_blk rfl (sub_cons rfl (sub_cons rfl (sub_cons rfl (sub_cons rfl (sub_cons rfl (sub_cons rfl sub_nil)))))) (subH_row rfl (by first | (dsimp only; first | (change _ at hyes; rw [joinK_yes hx54 hyes, Enc.enc_append]; rfl) | (change _ at hno; rw [joinK_no hx54 hno]); done) | (first | (change _ at hyes; rw [joinK_yes hx54 hyes, Enc.enc_append]; rfl) | (change _ at hno; rw [joinK_no hx54 hno]); done) | (dsimp only; done)) subH_nil))) (subH_same rfl (subH_same rfl (subH_same rfl (subH_same rfl (subH_same rfl (subH_same rfl subH_nil))))))))
         ·try dsimp only
          first
            | (change _ at hyes
               exact ⟨by omega, by rw [joinK_yes hx54 hyes, List.length_append, hon]; rfl⟩)
            | (change _ at hno
               exact ⟨by omega, by rw [joinK_no hx54 hno]; exact hon⟩)
         ·try dsimp only
          omega
      ·refine wp_exit' (to_k0 (fun _ _ h => h) (hK17 _ _ _ _ _ ?_))
       clear hK17
       refine wp_seq' fun K27 hK27 => ?_
       refine wp_seq' fun K28 hK28 => ?_
       refine wp_reg ?_
       refine ol_r (r_fa (o' := 4) rfl fl57_4 rfl) rfl ?_
       refine ol_r (r_ld (id := 3) rfl rfl rfl sc54) rfl ?_
       refine ol_r (r_len rfl sl54) rfl ?_
       refine ol_r (r_move rfl) rfl ?_
       refine ol_nil (to_k0 (fun _ _ h => h) (hK28 _ _ _ _ _ ?_))
       clear hK28
       refine wp_block' ?_
       apply wp_loopM (σ := Nat × Option Addr × Nat) (fun s => s.1 ≤ D.ls.length) (fun s => [(88, .int .i64 s.1)]) [(3, _), (4, _), (5, _), (7, _), (8, _), (86, _), (87, _)] (fun s => [(7, .blk b7 [(0, .string A.name), (1, .int .i64 A.sport), (2, .int .i64 A.start), (3, .slice oa on oc), (4, .slice s.2.1 (ln + s.1) s.2.2), (5, .slice ta tn tc)] 57), (1002, .row s.2.1 (ln + s.1) s.2.2 (encLap.enc (A.ls ++ fwdL (D.start - A.start) (D.ls.take s.1))) 110 3)]) [(2, _), (3, _), (4, _), (19, _), (1001, _), (1003, _)] (fun s => D.ls.length - s.1) ((0, la, lc))
       ·try dsimp only
        exact Nat.zero_le _
       ·exact (sub_cons rfl sub_nil)
       ·exact (sub_cons rfl (sub_cons rfl (sub_cons rfl (sub_cons rfl (sub_cons rfl (sub_cons rfl (sub_cons rfl sub_nil)))))))
       ·exact (subH_blk rfl (sub_cons rfl (sub_cons rfl (sub_cons rfl (sub_cons rfl (sub_cons rfl (sub_cons rfl sub_nil)))))) (subH_row rfl (by first | (dsimp only; first | rfl | (simp [fwdL]); done) | (first | rfl | (simp [fwdL]); done) | (dsimp only; done)) subH_nil))
       ·exact (subH_same rfl (subH_same rfl (subH_same rfl (subH_same rfl (subH_same rfl (subH_same rfl subH_nil))))))
       ·rintro ⟨j, ja, jc⟩ hj
        dsimp only at hj ⊢
        intro K29 hK29
        refine wp_seq' fun K30 hK30 => ?_
        refine wp_reg ?_
        refine ol_r (r_lss rfl rfl) rfl ?_
        refine ol_nil (to_k0 (fun _ _ h => h) (hK30 _ _ _ _ _ ?_))
        clear hK30
        refine wp_seq' fun K31 hK31 => ?_
        first | refine wp_condD rfl (fun hc89 => ?_) (fun hc89 => ?_) | refine wp_condN rfl (fun hc89 => ?_) (fun hc89 => ?_) | refine wp_condNB rfl (fun hc89 => ?_) (fun hc89 => ?_) | refine wp_cond' rfl (fun hc89 => ?_) (fun hc89 => ?_)
        ·refine wp_skip' (to_k0 (fun _ _ h => h) (hK31 _ _ _ _ _ ?_))
         clear hK31
         refine wp_seq' fun K32 hK32 => ?_
         refine wp_block' ?_
         refine wp_seq' fun K33 hK33 => ?_
         refine wp_reg ?_
         refine ol_ixr hD.l rfl rfl sl54 (by omega) rfl fun x90 hx90 => ?_
         try simp only [Int.toNat_natCast] at hx90
         refine ol_r (r_ldw rfl (fun w1 hb1 hs1 hB1 => Rd.loads hD.l ty110 hx90 hb1)) rfl ?_
         refine ol_alloc 13 z110 rfl fun b13 => ?_
         refine ol_store (id := 13) rfl rfl rfl rfl sz110 rfl rfl (by first | decide | exact Nat.zero_lt_succ _ | simp) ?_
         refine ol_nil (to_k0 (fun _ _ h => h) (hK33 _ _ _ _ _ ?_))
         clear hK33
         refine wp_seq' fun K34 hK34 => ?_
         refine wp_reg ?_
         refine ol_r (r_fa (o' := 0) rfl fl110_0 rfl) rfl ?_
         refine ol_r (r_ld (id := 13) rfl rfl rfl sc3) rfl ?_
         refine ol_r (r_move rfl) rfl ?_
         have hbl := hlb _ (List.mem_of_getElem? hx90)
         refine ol_r (r_add rfl rfl (by omega)) rfl ?_
         refine ol_r (r_fa (o' := 1) rfl fl110_1 rfl) rfl ?_
         refine ol_r (r_ld (id := 13) rfl rfl rfl sc3) rfl ?_
         refine ol_r (r_move rfl) rfl ?_
         refine ol_r (r_add rfl rfl (by omega)) rfl ?_
         refine ol_r (r_fa (o' := 0) rfl fl110_0 rfl) rfl ?_
         refine ol_store (id := 13) rfl rfl rfl rfl sz3 rfl rfl (by first | decide | exact Nat.zero_lt_succ _ | simp) ?_
         refine ol_r (r_fa (o' := 1) rfl fl110_1 rfl) rfl ?_
         refine ol_store (id := 13) rfl rfl rfl rfl sz3 rfl rfl (by first | decide | exact Nat.zero_lt_succ _ | simp) ?_
         refine ol_nil (to_k0 (fun _ _ h => h) (hK34 _ _ _ _ _ ?_))
         clear hK34
         refine wp_reg ?_
         refine ol_r (r_fa (o' := 4) rfl fl57_4 rfl) rfl ?_
         refine ol_r (r_ld (id := 7) rfl rfl rfl sc54) rfl ?_
         refine ol_r (r_lda (id := 13) (n := 3) rfl rfl rfl ag110) rfl ?_
         refine ol_bs1 105 rfl rfl rw54 rfl rfl rfl fun a105 => ?_
         refine ol_append1 (id := 1002) (id2 := 105) rfl rfl rfl rfl rfl rw54 (by omega) rfl fun a106 c106 => ?_
         refine ol_r (r_fa (o' := 4) rfl fl57_4 rfl) rfl ?_
         refine ol_store (id := 7) rfl rfl rfl rfl sz54 rfl rfl (by first | decide | exact Nat.zero_lt_succ _ | simp) ?_
         refine ol_nil (to_k0 (fun _ _ h => h) (hK32 _ _ _ _ _ ?_))
         clear hK32
         refine wp_reg ?_
         refine ol_r (r_add rfl rfl (by omega)) rfl ?_
         refine ol_r (r_move rfl) rfl ?_
         refine ol_nil (to_k0 (fun _ _ h => h) (hK29 ((j + 1, _, _)) _ _ ?_ ?_ (sub_cons rfl sub_nil) (sub_cons rfl (sub_cons rfl (sub_cons rfl (sub_cons rfl (sub_cons rfl (sub_cons rfl (sub_cons rfl sub_nil))))))) (by exact (subH_blk rfl (sub_cons rfl (sub_cons rfl (sub_cons rfl (sub_cons rfl (sub_cons rfl (sub_cons rfl sub_nil)))))) (subH_row rfl (by first | (dsimp only; rw [fwdL_succ hx90, ← List.append_assoc, Enc.enc_append]; rfl; done) | (rw [fwdL_succ hx90, ← List.append_assoc, Enc.enc_append]; rfl; done) | (dsimp only; done)) subH_nil))) (subH_same rfl (subH_same rfl (subH_same rfl (subH_same rfl (subH_same rfl (subH_same rfl subH_nil))))))))
         ·try dsimp only
          omega
         ·try dsimp only
          omega
        ·refine wp_exit' (to_k0 (fun _ _ h => h) (hK27 _ _ _ _ _ ?_))
         clear hK27
         refine wp_seq' fun K35 hK35 => ?_
         refine wp_reg ?_
         refine ol_r (r_fa (o' := 5) rfl fl57_5 rfl) rfl ?_
         refine ol_r (r_ld (id := 7) rfl rfl rfl sc55) rfl ?_
         refine ol_r (r_fa (o' := 5) rfl fl57_5 rfl) rfl ?_
         refine ol_r (r_ld (id := 3) rfl rfl rfl sc55) rfl ?_
         refine ol_appendR (id := 1003) encStr hD.t rfl rfl rfl rfl rw55 (by omega) rfl fun a113 c113 => ?_
         refine ol_r (r_fa (o' := 5) rfl fl57_5 rfl) rfl ?_
         refine ol_store (id := 7) rfl rfl rfl rfl sz55 rfl rfl (by first | decide | exact Nat.zero_lt_succ _ | simp) ?_
         refine ol_nil (to_k0 (fun _ _ h => h) (hK35 _ _ _ _ _ ?_))
         clear hK35
         refine wp_seq' fun K36 hK36 => ?_
         refine wp_reg ?_
         refine ol_r (r_fa (o' := 5) rfl fl57_5 rfl) rfl ?_
         refine ol_r (r_ld (id := 7) rfl rfl rfl sc55) rfl ?_
         refine ol_call rfl rfl cb55 rfl (fun w1 hb1 hs1 hB1 => ?_)
         refine Calls.mono (sort_names _ 1003 _ _ _ (A.ts ++ D.ts) _ _ _ hB1 hs1 rfl (by omega)) ?_
         rintro e w2 ⟨rfl, hbw, hs2, hB2, hkd2⟩
         refine After.sat rfl hb1 hbw hs2 hB2 (hkd2.imp (fun _ h => h.elim)) ?_
         clear hkd2 hB2 hs2 hbw hB1 hs1 hb1 w2 w1
         refine ol_nil (to_k0 (fun _ _ h => h) (hK36 _ _ _ _ _ ?_))
         clear hK36
         refine wp_seq' fun K37 hK37 => ?_
         refine wp_reg ?_
         refine ol_r (r_fa (o' := 5) rfl fl57_5 rfl) rfl ?_
         refine ol_r (r_ld (id := 7) rfl rfl rfl sc55) rfl ?_
         refine ol_call rfl rfl cb56 rfl (fun w1 hb1 hs1 hB1 => ?_)
         refine Calls.mono (compact_names _ 1003 _ _ _ (sortS (A.ts ++ D.ts)) _ _ _ hB1 hs1 rfl (by omega)) ?_
         have hcq : compS (sortS (A.ts ++ D.ts)) = tagR A.ts D.ts := by rw [compS_sort]; exact ordBA_eq hta htd
         rw [hcq]
         rintro e w2 ⟨rfl, hbw, hs2, hB2, hkd2⟩
         refine After.sat rfl hb1 hbw hs2 hB2 (hkd2.imp (fun _ h => h.elim)) ?_
         clear hkd2 hB2 hs2 hbw hB1 hs1 hb1 w2 w1
         refine ol_r (r_fa (o' := 5) rfl fl57_5 rfl) rfl ?_
         refine ol_store (id := 7) rfl rfl rfl rfl sz55 rfl rfl (by first | decide | exact Nat.zero_lt_succ _ | simp) ?_
         refine ol_nil (to_k0 (fun _ _ h => h) (hK37 _ _ _ _ _ ?_))
         clear hK37
         refine wp_seq' fun K38 hK38 => ?_
         refine wp_seq' fun K39 hK39 => ?_
         refine wp_reg ?_
         have hkk : k = D.ss.length := by omega
         have hjj : D.ls.take j = D.ls := List.take_of_length_le (by omega)
         have hls : (A.ls ++ fwdL (D.start - A.start) (D.ls.take j)).length = ln + j := by rw [List.length_append, fwdL, List.length_map, List.length_take]; omega
         have hdd : joinD A.d D.d = ⟨A.name, A.sport, A.start, joinK A.ss D.ss (D.start - A.start) k, A.ls ++ fwdL (D.start - A.start) (D.ls.take j), tagR A.ts D.ts⟩ := by rw [hjj, hkk]; rfl
         have hjr := joinR_d (a := A.d) (b := D.d) (fun h => h h0) (fun h => h h1) hc25 (by show ¬D.start - A.start < spanL A.ss; omega)
         rw [hdd] at hjr
         dsimp only at hjr
         rw [hon, hls] at hjr
         refine ol_r (r_fa (o' := 3) rfl fl57_3 rfl) rfl ?_
         refine ol_r (r_ld (id := 7) rfl rfl rfl sc53) rfl ?_
         refine ol_r (r_len rfl sl53) rfl ?_
         refine ol_r (r_gtr rfl rfl) rfl ?_
         refine ol_r (r_move rfl) rfl ?_
         refine ol_split (d := 126) rfl (fun hs126 => ?_) (fun hs126 => ?_)
         ·have phs126 := hs126; try simp only [decide_eq_true_eq, decide_eq_false_iff_not, Bool.not_eq_true', Bool.not_eq_false', Bool.not_true, Bool.not_false] at phs126
          refine ol_s rfl rfl hs126 rfl ?_
          refine ol_s rfl rfl hs126 rfl ?_
          refine ol_s rfl rfl hs126 rfl ?_
          refine ol_s rfl rfl hs126 rfl ?_
          refine ol_r (r_pickT rfl hs126 rfl) rfl ?_
          refine ol_r (r_move rfl) rfl ?_
          refine ol_s rfl rfl rfl rfl ?_
          refine ol_s rfl rfl rfl rfl ?_
          refine ol_s rfl rfl rfl rfl ?_
          refine ol_s rfl rfl rfl rfl ?_
          refine ol_r (r_pickT rfl rfl rfl) rfl ?_
          refine ol_nil (to_k0 (fun _ _ h => h) (hK39 _ _ _ _ _ ?_))
          clear hK39
          refine wp_condT rfl ?_
          refine wp_seq' fun K40 hK40 => ?_
          refine wp_reg ?_
          refine ol_r (r_build rfl (fun _ => bd57 _)) rfl ?_
          refine ol_store (id := 4) rfl rfl rfl rfl sz57 rfl rfl (by first | decide | exact Nat.zero_lt_succ _ | simp) ?_
          refine ol_r (r_assign rfl) rfl ?_
          refine ol_nil (to_k0 (fun _ _ h => h) (hK40 _ _ _ _ _ ?_))
          clear hK40
          refine hQ.ret (rvs2 (rv_c (id := 4) (n := 6) rfl rfl ag57 rfl) (rv_t rfl)) (fun _ _ h => h) fun w hb hs hB hkd => ?_
          exact ⟨outA_no (by rw [hjr, if_pos (by omega)]), hb⟩
         ·have phs126 := hs126; try simp only [decide_eq_true_eq, decide_eq_false_iff_not, Bool.not_eq_true', Bool.not_eq_false', Bool.not_true, Bool.not_false] at phs126
          refine ol_g rfl rfl hs126 ?_
          refine ol_r (r_fa (o' := 4) rfl fl57_4 rfl) rfl ?_
          refine ol_g rfl rfl hs126 ?_
          refine ol_r (r_ld (id := 7) rfl rfl rfl sc54) rfl ?_
          refine ol_g rfl rfl hs126 ?_
          refine ol_r (r_len rfl sl54) rfl ?_
          refine ol_g rfl rfl hs126 ?_
          refine ol_r (r_gtr rfl rfl) rfl ?_
          refine ol_r (r_pickF rfl hs126 rfl) rfl ?_
          refine ol_r (r_move rfl) rfl ?_
          refine ol_split (d := 132) rfl (fun hs132 => ?_) (fun hs132 => ?_)
          ·have phs132 := hs132; try simp only [decide_eq_true_eq, decide_eq_false_iff_not, Bool.not_eq_true', Bool.not_eq_false', Bool.not_true, Bool.not_false] at phs132
           refine ol_s rfl rfl hs132 rfl ?_
           refine ol_s rfl rfl hs132 rfl ?_
           refine ol_s rfl rfl hs132 rfl ?_
           refine ol_s rfl rfl hs132 rfl ?_
           refine ol_r (r_pickT rfl hs132 rfl) rfl ?_
           refine ol_nil (to_k0 (fun _ _ h => h) (hK39 _ _ _ _ _ ?_))
           clear hK39
           refine wp_condT rfl ?_
           refine wp_seq' fun K41 hK41 => ?_
           refine wp_reg ?_
           refine ol_r (r_build rfl (fun _ => bd57 _)) rfl ?_
           refine ol_store (id := 4) rfl rfl rfl rfl sz57 rfl rfl (by first | decide | exact Nat.zero_lt_succ _ | simp) ?_
           refine ol_r (r_assign rfl) rfl ?_
           refine ol_nil (to_k0 (fun _ _ h => h) (hK41 _ _ _ _ _ ?_))
           clear hK41
           refine hQ.ret (rvs2 (rv_c (id := 4) (n := 6) rfl rfl ag57 rfl) (rv_t rfl)) (fun _ _ h => h) fun w hb hs hB hkd => ?_
           exact ⟨outA_no (by rw [hjr, if_pos (by omega)]), hb⟩
          ·have phs132 := hs132; try simp only [decide_eq_true_eq, decide_eq_false_iff_not, Bool.not_eq_true', Bool.not_eq_false', Bool.not_true, Bool.not_false] at phs132
           refine ol_g rfl rfl hs132 ?_
           refine ol_r (r_fa (o' := 5) rfl fl57_5 rfl) rfl ?_
           refine ol_g rfl rfl hs132 ?_
           refine ol_r (r_ld (id := 7) rfl rfl rfl sc55) rfl ?_
           refine ol_g rfl rfl hs132 ?_
           refine ol_r (r_len rfl sl55) rfl ?_
           refine ol_g rfl rfl hs132 ?_
           refine ol_r (r_gtr rfl rfl) rfl ?_
           refine ol_r (r_pickF rfl hs132 rfl) rfl ?_
           refine ol_nil (to_k0 (fun _ _ h => h) (hK39 _ _ _ _ _ ?_))
           clear hK39
           first | refine wp_condD rfl (fun hc137 => ?_) (fun hc137 => ?_) | refine wp_condN rfl (fun hc137 => ?_) (fun hc137 => ?_) | refine wp_condNB rfl (fun hc137 => ?_) (fun hc137 => ?_) | refine wp_cond' rfl (fun hc137 => ?_) (fun hc137 => ?_)
           ·refine wp_seq' fun K42 hK42 => ?_
            refine wp_reg ?_
            refine ol_r (r_build rfl (fun _ => bd57 _)) rfl ?_
            refine ol_store (id := 4) rfl rfl rfl rfl sz57 rfl rfl (by first | decide | exact Nat.zero_lt_succ _ | simp) ?_
            refine ol_r (r_assign rfl) rfl ?_
            refine ol_nil (to_k0 (fun _ _ h => h) (hK42 _ _ _ _ _ ?_))
            clear hK42
            refine hQ.ret (rvs2 (rv_c (id := 4) (n := 6) rfl rfl ag57 rfl) (rv_t rfl)) (fun _ _ h => h) fun w hb hs hB hkd => ?_
            exact ⟨outA_no (by rw [hjr, if_pos (by omega)]), hb⟩
           ·refine wp_skip' (to_k0 (fun _ _ h => h) (hK38 _ _ _ _ _ ?_))
            clear hK38
            refine wp_seq' fun K43 hK43 => ?_
            refine wp_seq' fun K44 hK44 => ?_
            refine wp_reg ?_
            refine ol_r (r_lda (id := 7) (n := 6) rfl rfl rfl ag57) rfl ?_
            refine ol_call rfl rfl cb20 rfl (fun w1 hb1 hs1 hB1 => Calls.mono (record_Check ⟨A.name, A.sport, A.start, oa, on, oc, ja, ln + j, jc, a113, (tagR A.ts D.ts).length, c113, joinK A.ss D.ss (D.start - A.start) k, A.ls ++ fwdL (D.start - A.start) (D.ls.take j), tagR A.ts D.ts⟩ _ ⟨Sat.rd hs1 (id := 1001) rfl rfl, Sat.rd hs1 (id := 1002) rfl rfl, Sat.rd hs1 (id := 1003) rfl rfl, hA.nm, by rw [hjj]; exact join_names hA.lm hD.lm, join_tags hA.tm hD.tm, join_lo hg hgd k⟩) ?_)
            rintro e w2 ⟨rfl, hb2⟩
            refine After.below rfl hb1 hs1 hB1 hb2 ?_
            clear hb2 hB1 hs1 hb1 w2 w1
            refine ol_r (r_assign rfl) rfl ?_
            refine ol_nil (to_k0 (fun _ _ h => h) (hK44 _ _ _ _ _ ?_))
            clear hK44
            refine wp_seq' fun K45 hK45 => ?_
            refine wp_reg ?_
            refine ol_r (r_move rfl) rfl ?_
            refine ol_r (r_neq rfl rfl) rfl ?_
            refine ol_nil (to_k0 (fun _ _ h => h) (hK45 _ _ _ _ _ ?_))
            clear hK45
            first | refine wp_condD rfl (fun hc142 => ?_) (fun hc142 => ?_) | refine wp_condN rfl (fun hc142 => ?_) (fun hc142 => ?_) | refine wp_condNB rfl (fun hc142 => ?_) (fun hc142 => ?_) | refine wp_cond' rfl (fun hc142 => ?_) (fun hc142 => ?_)
            ·refine wp_seq' fun K46 hK46 => ?_
             refine wp_reg ?_
             refine ol_r (r_build rfl (fun _ => bd57 _)) rfl ?_
             refine ol_r (r_move rfl) rfl ?_
             refine ol_store (id := 4) rfl rfl rfl rfl sz57 rfl rfl (by first | decide | exact Nat.zero_lt_succ _ | simp) ?_
             refine ol_r (r_assign rfl) rfl ?_
             refine ol_nil (to_k0 (fun _ _ h => h) (hK46 _ _ _ _ _ ?_))
             clear hK46
             refine hQ.ret (rvs2 (rv_c (id := 4) (n := 6) rfl rfl ag57 rfl) (rv_t rfl)) (fun _ _ h => h) fun w hb hs hB hkd => ?_
             have hck : chkA (⟨A.name, A.sport, A.start, joinK A.ss D.ss (D.start - A.start) k, A.ls ++ fwdL (D.start - A.start) (D.ls.take j), tagR A.ts D.ts⟩ : ActD) ≠ 0 := hc142
             exact ⟨outA_no (by rw [hjr, if_neg (by omega), if_pos hck]; rfl), hb⟩
            ·refine wp_skip' (to_k0 (fun _ _ h => h) (hK43 _ _ _ _ _ ?_))
             clear hK43
             refine wp_seq' fun K47 hK47 => ?_
             refine wp_reg ?_
             refine ol_r (r_lda (id := 7) (n := 6) rfl rfl rfl ag57) rfl ?_
             refine ol_store (id := 4) rfl rfl rfl rfl sz57 rfl rfl (by first | decide | exact Nat.zero_lt_succ _ | simp) ?_
             refine ol_r (r_assign rfl) rfl ?_
             refine ol_nil (to_k0 (fun _ _ h => h) (hK47 _ _ _ _ _ ?_))
             clear hK47
             refine hQ.ret (rvs2 (rv_c (id := 4) (n := 6) rfl rfl ag57 rfl) (rv_t rfl)) (fun _ _ h => h) fun w hb hs hB hkd => ?_
             refine ⟨?_, hb⟩
             have hck : ¬chkA (⟨A.name, A.sport, A.start, joinK A.ss D.ss (D.start - A.start) k, A.ls ++ fwdL (D.start - A.start) (D.ls.take j), tagR A.ts D.ts⟩ : ActD) ≠ 0 := hc142
             rw [hjr, if_neg (by omega), if_neg hck]
             exact ⟨oa, on, oc, ja, ln + j, jc, a113, _, c113, rfl, hs.three 1001 1002 1003 1001 1002 1003 (by decide) (by decide) (by decide) rfl rfl rfl (Ent.le_refl _) (Ent.le_refl _) (Ent.le_refl _)⟩
end Go.Proofs.Ytfbmkepogcimlaa

/-
  Regions that draw their order, whose head only reads (calls too) and whose tail writes; pointers that are not nil.
-/

namespace Go.Proofs.Ytfbmkepogcimlaa.Hx
open Go Go.RowKit
set_option linter.unusedVariables false
set_option linter.unusedSimpArgs false
set_option linter.unusedSectionVars false
section
variable {P : Program} {ops : Array Oper} {md : Region.Mode} {C : World → Prop}
def wpAnyM (P : Program) (md : Region.Mode) (ops : Array Oper) (C : World → Prop) (n : Nat) (L : Array Bool → Act → Prop) : Nat → Array Bool → Act → Prop
  | 0, listed, a => L listed a
  | f + 1, listed, a =>
    Region.ready md ops listed ≠ [] ∧ ∀ i ∈ Region.ready md ops listed, i < n ∧ qOp P ops C i (wpAnyM P md ops C n L f (listed.setIfInBounds i true)) a
theorem wpAny_of_headM {n g : Nat} {L : Array Bool → Act → Prop} {Q' : Exit → Act → World → Prop} (hL : ∀ listed a w, C w → L listed a → wpAny P md ops Q' g listed a w) :
    ∀ (f : Nat) (listed : Array Bool) (a : Act) (w : World), C w → wpAnyM P md ops C n L f listed a → wpAny P md ops Q' (f + g) listed a w
  | 0, listed, a, w, hw, h => by rw [Nat.zero_add]; exact hL _ _ _ hw h
  | f + 1, listed, a, w, hw, h => by
    rw [show f + 1 + g = (f + g) + 1 by omega]
    exact ⟨fun h0 => absurd h0 h.1, fun i hi => wpOp_of_qOp hw (fun a' w' hw' h' => wpAny_of_headM hL f _ a' w' hw' h') (h.2 i hi).2⟩
theorem wpAnyM_first {n i : Nat} {oi : Oper} {v : Value} {L : Array Bool → Act → Prop} (hi : ops[i]? = some oi) (hsel : ∀ (j : Nat) (o : Oper) cs b, ops[j]? = some o → o.op ≠ .select cs b)
    (hs : Region.sinkB md ops n = true) (hc : Region.chainB md ops n = true) (hn : n < ops.size) (hin : i < n)
    (hdone : ∀ listed a, L listed a → ∀ j ∈ Region.ready md ops listed, n ≤ j) :
    ∀ (f : Nat) (listed : Array Bool) (a : Act), HeadInv md ops n listed →
      (∀ j oj, ops[j]? = some oj → j ≠ i → listed.getD j true = false → (∀ e ∈ oj.after, Region.binds md e = true → e.on ≠ i) → oi.apart ops oj = true) →
      i ∈ Region.ready md ops listed → YieldsIn P ops C oi v a →
      wpAnyM P md ops C n L f (listed.setIfInBounds i true) (a.put oi.dst v) → wpAnyM P md ops C n L (f + 1) listed a := by
  intro f
  induction f with
  | zero =>
    intro listed a inv _ hr hy H
    have hun := (mem_ready.1 hr).1
    refine ⟨fun h => (by rw [h] at hr; cases hr), fun j hj => ?_⟩
    have hjn : j < n := by
      rcases Nat.lt_or_ge j n with h | h
      · exact h
      · exact absurd hj (tail_waits hs hc hn inv _ i rfl hin hun j h)
    refine ⟨hjn, ?_⟩
    by_cases hji : j = i
    · subst hji; exact hy.qOp hi H
    · have := hdone _ _ H j (ready_mono hj hji)
      omega
  | succ f ih =>
    intro listed a inv hfree hr hy H
    have hun := (mem_ready.1 hr).1
    refine ⟨fun h => (by rw [h] at hr; cases hr), fun j hj => ?_⟩
    have hjn : j < n := by
      rcases Nat.lt_or_ge j n with h | h
      · exact h
      · exact absurd hj (tail_waits hs hc hn inv _ i rfl hin hun j h)
    refine ⟨hjn, ?_⟩
    by_cases hji : j = i
    · subst hji; exact hy.qOp hi H
    · have h1 := (H.2 j (ready_mono hj hji)).2
      obtain ⟨hjun, oj, hoj, hall⟩ := mem_ready.1 hj
      have hnot : ∀ e ∈ oj.after, Region.binds md e = true → e.on ≠ i := fun e he hb heq => by
        have h1 := hall e he hb
        rw [heq, getD_both hun] at h1
        cases h1
      have h2 := qOp_put hoj (hfree j oj hoj hji hjun hnot) (fun cs b => hsel i oi cs b hi) (fun cs b => hsel j oj cs b hoj) hy h1
      have hfree' : ∀ k ok, ops[k]? = some ok → k ≠ i → (listed.setIfInBounds j true).getD k true = false →
          (∀ e ∈ ok.after, Region.binds md e = true → e.on ≠ i) → oi.apart ops ok = true := fun k ok hk hki hun hno => by
        refine hfree k ok hk hki ?_ hno
        by_cases hjk : j = k
        · subst hjk; exact hjun
        · rw [getD_set_ne true hjk] at hun; exact hun
      refine qOp_mono (fun a' h3 => ih (listed.setIfInBounds j true) a' (inv.set hj hjn) hfree' (ready_mono hr (Ne.symm hji)) h3.1 ?_) h2
      rw [Array.setIfInBounds_comm _ _ hji]
      exact h3.2
theorem wpAnyM_lex {n g : Nat} {Lq : Act → Prop} (hsel : Region.noSelect ops = true) (hs : Region.sinkB md ops n = true) (hc : Region.chainB md ops n = true) (hn : n < ops.size) :
    ∀ (l : List Oper) (k : Nat) (listed : Array Bool) (a : Act), (∀ j, j < l.length → l[j]? = ops[k + j]?) → k + l.length = n → HeadInv md ops n listed →
    Region.lexHead md ops g l.length k listed = true → wpQuiet P ops C Lq l a →
    wpAnyM P md ops C n (fun listed' a' => Region.seqB md ops g n listed' = true ∧ Lq a') l.length listed a
  | [], k, listed, a, _, hk, _, hB, h => by
    have : k = n := by simpa using hk
    subst this
    exact ⟨by simpa [Region.lexHead] using hB, h⟩
  | o :: l, k, listed, a, hl, hk, inv, hB, h => by
    have h0 : ops[k]? = some o := by simpa using (hl 0 (by simp)).symm
    simp only [List.length_cons, Region.lexHead, Bool.and_eq_true] at hB
    obtain ⟨⟨hr, hf⟩, hB'⟩ := hB
    have hkn : k < n := by simp only [List.length_cons] at hk; omega
    have hr' : k ∈ Region.ready md ops listed := by simpa using hr
    have hst : qOp P ops C k (wpQuiet P ops C Lq l) a := by unfold qOp; simp only [h0]; exact h
    obtain ⟨v, hy, hK⟩ := yieldsIn_of_qOp h0 hst
    exact wpAnyM_first h0 (Region.noSelect_spec hsel) hs hc hn hkn (fun listed' a' hL => seqB_ready hL.1) l.length listed a inv (Region.free_spec h0 hf) hr' hy
      (wpAnyM_lex hsel hs hc hn l (k + 1) _ _ (fun j hj => by have := hl (j + 1) (by simp; omega); simpa [Nat.add_assoc, Nat.add_comm 1 j] using this) (by simp only [List.length_cons] at hk; omega) (inv.set hr' hkn) hB' hK)
end
theorem d_quietT {P : Program} {C : World → Prop} {id : Nat} {Q : Exit → Act → World → Prop} {a : Act} {w : World} {l : List Oper} {f : Bool} (n : Nat) (hm : P.follows .mixedOrders = true) (hB : Region.lexTailB .any l.toArray n = true) (hC : C { w with drawn := w.drawn + 1 })
    (h : wpQuiet P l.toArray C (fun a' => ∀ w', C w' → wpList P l.toArray Q (l.drop n) a' w') (l.take n) a) : D f P (.region id l.toArray true) Q a w := by
  simp only [Region.lexTailB, Bool.and_eq_true, decide_eq_true_eq] at hB
  obtain ⟨⟨⟨⟨h1, h2⟩, h3⟩, h4⟩, h5⟩ := hB
  have e1 : n < l.length := by simpa using h2
  have e2 : (l.take n).length = n := by simp; omega
  have e3 : (l.drop n).length = l.toArray.size - n := by simp
  have hh := wpAnyM_lex (md := .any) (g := l.toArray.size - n) h1 h3 h4 h2 (l.take n) 0 (Array.replicate l.toArray.size false) a (fun j hj => by
      have : j < n := by rw [e2] at hj; exact hj
      simp [this]) (by simpa using e2)
    ⟨by simp, fun j oj _ hl => (by rw [getD_replicate_false] at hl; cases hl), fun t _ ht => getD_in (by simpa using ht) (getD_replicate_false _ _)⟩ (by rw [e2]; exact h5) h
  have := wpAny_of_headM (Q' := Q) (g := l.toArray.size - n) (fun listed a' w' hw hL => by
    have := wpAny_of_seq (md := .any) (Q' := Q) (l.drop n) n listed a' w' (fun j => by simp [List.getElem?_drop]) (by rw [e3]; exact hL.1) (hL.2 w' hw)
    rwa [e3] at this) _ _ _ _ hC hh
  rw [e2, show n + (l.toArray.size - n) = l.toArray.size by omega] at this
  exact d_any hm this
section
variable {P : Program} {N : Fr} {B : Nat} {w0 : World} {Q : Exit → Act → World → Prop} {al : AL} {H : HL}
theorem wp_regqt (n : Nat) {id : Nat} {l : List Oper} (hm : P.follows .mixedOrders = true) (hB : Region.lexTailB .any l.toArray n = true)
    (h : QL P N B w0 l (l.take n) (fun a => ∀ w, Cl N B w0 H w → wpList P l.toArray Q (l.drop n) a w) al H) : WP P N B w0 (.region id l.toArray true) Q al H := by
  intro a w hst
  exact d_quietT n hm hB hst.drew.cl (h a hst.regs)
theorem ql_tail {ops tail : List Oper} (h : OL P N B w0 ops tail Q al H) : QL P N B w0 ops [] (fun a => ∀ w, Cl N B w0 H w → wpList P ops.toArray Q tail a w) al H :=
  fun a hr => wpQuiet_nil fun w hw => h a w (hw.st hr)
theorem r_nilS {x : Operand} {ty : TypeId} {p : Option Addr} (hx : ev al x = some (.pointer p)) (hp : p.isSome = true) : Runs P N B w0 (.nilCheck x) ty al H (.pointer p) := fun a w hst => by
  cases p with
  | none => cases hp
  | some q => simp [execOp, hst.regs.eval hx]
theorem some_map {p : Option Addr} {f : Addr → Addr} (h : p.isSome = true) : (p.map f).isSome = true := by cases p <;> simp_all
end
end Go.Proofs.Ytfbmkepogcimlaa.Hx

/-
  A walk in two declarations: a part of a function's code, by the way to it.
-/

namespace Go.Proofs.Ytfbmkepogcimlaa.Hx
open Go
def pathC : Code → List Nat → Code
  | .seq a _, 0 :: r => pathC a r
  | .seq _ b, _ :: r => pathC b r
  | c, _ => c
end Go.Proofs.Ytfbmkepogcimlaa.Hx

/-
  TopLengthsAddUp: cut at one of its samples, an activity has two parts, whose lengths, times, ways up and down, and streams, add up to its own; and the parts joined again have its samples.
-/








namespace Go.Proofs.Ytfbmkepogcimlaa
open Go Go.RowKit Hx
set_option linter.unusedVariables false
set_option linter.unusedSimpArgs false
set_option maxRecDepth 8000
theorem top_hSpan (A : ActV) (w : World) (hA : A.Ok w.heap.size w) : Calls Try.prog 21 #[.agg #[.string A.name, .int .i64 A.sport, .int .i64 A.start, .slice A.sa A.sn A.sc, .slice A.la A.ln A.lc, .slice A.ta A.tn A.tc]] w fun e w' => e = .returned (.int .i64 (spanL A.ss)) ∧ Below w.heap.size w w' := by
  have hsn := hA.s.len
  have hfit := hA.s.fit
  refine enterQ (N := 16) (C := fun _ => True) (H := []) (B := w.heap.size) (args := [_]) Try.func21 rfl rfl rfl (Nat.le_refl _) (Sat.nil _ _) fun Q hQ => ?_
  refine wp_seq' fun K1 hK1 => ?_
  refine wp_reg ?_
  refine ol_box 1 rfl rfl rfl fun b1 => ?_
  refine ol_r (r_assign rfl) rfl ?_
  refine ol_nil (to_k0 (fun _ _ h => h) (hK1 _ _ _ _ _ ?_))
  clear hK1
  refine wp_seq' fun K2 hK2 => ?_
  refine wp_seq' fun K3 hK3 => ?_
  refine wp_reg ?_
  refine ol_r (r_fa (o' := 3) rfl fl57_3 rfl) rfl ?_
  refine ol_r (r_ld (id := 1) rfl rfl rfl sc53) rfl ?_
  refine ol_r (r_len rfl sl53) rfl ?_
  refine ol_r (r_eql rfl rfl) rfl ?_
  refine ol_nil (to_k0 (fun _ _ h => h) (hK3 _ _ _ _ _ ?_))
  clear hK3
  first | refine wp_condD rfl (fun hc6 => ?_) (fun hc6 => ?_) | refine wp_condN rfl (fun hc6 => ?_) (fun hc6 => ?_) | refine wp_condNB rfl (fun hc6 => ?_) (fun hc6 => ?_) | refine wp_cond' rfl (fun hc6 => ?_) (fun hc6 => ?_)
  ·refine wp_seq' fun K4 hK4 => ?_
   refine wp_reg ?_
   refine ol_r (r_assign rfl) rfl ?_
   refine ol_nil (to_k0 (fun _ _ h => h) (hK4 _ _ _ _ _ ?_))
   clear hK4
   refine hQ.ret (rvs1 (rv_t rfl)) (fun _ _ h => h) fun w hb hs hB hkd => ?_
   exact ⟨by rw [spanL_nil (by omega)], hb⟩
  ·refine wp_skip' (to_k0 (fun _ _ h => h) (hK2 _ _ _ _ _ ?_))
   clear hK2
   refine wp_seq' fun K5 hK5 => ?_
   refine wp_reg ?_
   refine ol_r (r_fa (o' := 3) rfl fl57_3 rfl) rfl ?_
   refine ol_r (r_ld (id := 1) rfl rfl rfl sc53) rfl ?_
   refine ol_r (r_fa (o' := 3) rfl fl57_3 rfl) rfl ?_
   refine ol_r (r_ld (id := 1) rfl rfl rfl sc53) rfl ?_
   refine ol_r (r_len rfl sl53) rfl ?_
   refine ol_r (r_sub rfl rfl (by omega)) rfl ?_
   refine ol_ixr hA.s rfl rfl sl53 (by omega) rfl fun x13 hx13 => ?_
   try simp only [Int.toNat_natCast] at hx13
   refine ol_r (r_faw rfl (ix_some hA.s (by omega)) fl70_0) rfl ?_
   refine ol_r (r_ldw rfl (fun w1 hb1 hs1 hB1 => Rd.loadsF (o := 0) hA.s sc3 hx13 hb1 rfl)) rfl ?_
   refine ol_r (r_assign rfl) rfl ?_
   refine ol_nil (to_k0 (fun _ _ h => h) (hK5 _ _ _ _ _ ?_))
   clear hK5
   refine hQ.ret (rvs1 (rv_t rfl)) (fun _ _ h => h) fun w hb hs hB hkd => ?_
   exact ⟨by rw [spanL_get (k := A.sn - 1) (by rw [← hx13]; congr 1; omega) (by omega)], hb⟩
theorem top_hLong (A : ActV) (w : World) (hA : A.Ok w.heap.size w) (hg : GoodA A.d) (hl : 0 < A.ss.length) : Calls Try.prog 27 #[.agg #[.string A.name, .int .i64 A.sport, .int .i64 A.start, .slice A.sa A.sn A.sc, .slice A.la A.ln A.lc, .slice A.ta A.tn A.tc]] w fun e w' => e = .returned (.int .i64 (longW A.ss)) ∧ Below w.heap.size w w' := by
  have hsn := hA.s.len
  have hfit := hA.s.fit
  have hW : waysR A.d = (wayL A.ss, 0) := waysR_0 (by rw [hg.chk]; simp)
  have hwl := wayL_len A.ss
  refine enterQ (N := 19) (C := fun _ => True) (H := []) (B := w.heap.size) (args := [_]) Try.func27 rfl rfl rfl (Nat.le_refl _) (Sat.nil _ _) fun Q hQ => ?_
  refine wp_seq' fun K1 hK1 => ?_
  refine wp_reg ?_
  refine ol_box 1 rfl rfl rfl fun b1 => ?_
  refine ol_r (r_assign rfl) rfl ?_
  refine ol_nil (to_k0 (fun _ _ h => h) (hK1 _ _ _ _ _ ?_))
  clear hK1
  refine wp_seq' fun K2 hK2 => ?_
  refine wp_reg ?_
  refine ol_r (r_lda (id := 1) (n := 6) rfl rfl rfl ag57) rfl ?_
  refine ol_call rfl rfl cb57 rfl (fun w1 hb1 hs1 hB1 => ?_)
  refine Calls.mono (track_Ways A _ (hA.at hb1 hB1)) ?_
  rintro e w2 ⟨b, m, c, rfl, hf⟩
  refine After.fresh (id := 8) rfl hb1 hs1 hB1 hf ?_
  have hm8 : m = A.ss.length := by rw [← hf.len, hW]; exact hwl
  clear hf hB1 hs1 hb1 w2 w1
  refine ol_r (r_move rfl) rfl ?_
  refine ol_r (r_extract rfl rfl) rfl ?_
  refine ol_r (r_extract rfl rfl) rfl ?_
  refine ol_r (r_assign rfl) rfl ?_
  refine ol_r (r_assign rfl) rfl ?_
  refine ol_nil (to_k0 (fun _ _ h => h) (hK2 _ _ _ _ _ ?_))
  clear hK2
  refine wp_seq' fun K3 hK3 => ?_
  refine wp_seq' fun K4 hK4 => ?_
  refine wp_reg ?_
  refine ol_r (r_move rfl) rfl ?_
  refine ol_r (r_len rfl sl61) rfl ?_
  refine ol_r (r_eql rfl rfl) rfl ?_
  refine ol_nil (to_k0 (fun _ _ h => h) (hK4 _ _ _ _ _ ?_))
  clear hK4
  first | refine wp_condD rfl (fun hc12 => ?_) (fun hc12 => ?_) | refine wp_condN rfl (fun hc12 => ?_) (fun hc12 => ?_) | refine wp_condNB rfl (fun hc12 => ?_) (fun hc12 => ?_) | refine wp_cond' rfl (fun hc12 => ?_) (fun hc12 => ?_)
  ·refine wp_seq' fun K5 hK5 => ?_
   refine wp_reg ?_
   refine ol_r (r_assign rfl) rfl ?_
   refine ol_nil (to_k0 (fun _ _ h => h) (hK5 _ _ _ _ _ ?_))
   clear hK5
   refine hQ.ret (rvs1 (rv_t rfl)) (fun _ _ h => h) fun w hb hs hB hkd => ?_
   exfalso; omega
  ·refine wp_skip' (to_k0 (fun _ _ h => h) (hK3 _ _ _ _ _ ?_))
   clear hK3
   refine wp_seq' fun K6 hK6 => ?_
   refine wp_reg ?_
   refine ol_r (r_move rfl) rfl ?_
   refine ol_r (r_move rfl) rfl ?_
   refine ol_r (r_len rfl sl61) rfl ?_
   refine ol_r (r_sub rfl rfl (by omega)) rfl ?_
   refine ol_ixo (id := 8) encI _ rfl rfl rfl rfl sl61 (by omega) rfl fun x17 hx17 => ?_
   try simp only [Int.toNat_natCast] at hx17
   try simp only [Int.toNat_natCast] at hx17
   refine ol_r (r_ldw rfl (fun w1 hb1 hs1 hB1 => show Loads _ _ _ _ (.int .i64 x17) from ld_own (id := 8) hs1 rfl rfl ty3 hx17)) rfl ?_
   refine ol_r (r_assign rfl) rfl ?_
   refine ol_nil (to_k0 (fun _ _ h => h) (hK6 _ _ _ _ _ ?_))
   clear hK6
   refine hQ.ret (rvs1 (rv_t rfl)) (fun _ _ h => h) fun w hb hs hB hkd => ?_
   rw [hW] at hx17
   exact ⟨by rw [runW_get (show (runW A.ss A.ss.length)[_]? = some x17 from hx17), show ((m : Int) - 1).toNat = A.ss.length - 1 by omega]; rfl, hb⟩
def mkV (D : ActD) (sa : Option Addr) (sn sc : Nat) (la : Option Addr) (ln lc : Nat) (ta : Option Addr) (tn tc : Nat) : ActV := ⟨D.name, D.sport, D.start, sa, sn, sc, la, ln, lc, ta, tn, tc, D.ss, D.ls, D.ts⟩
theorem okD {D : ActD} {w : World} {sa : Option Addr} {sn sc : Nat} {la : Option Addr} {ln lc : Nat} {ta : Option Addr} {tn tc : Nat} (h1 : Rd encSmp w.heap.size w sa sn sc D.ss) (h2 : Rd encLap w.heap.size w la ln lc D.ls) (h3 : Rd encStr w.heap.size w ta tn tc D.ts)
    (hz : D.name.size ≤ 9223372036854775807 ∧ (∀ x ∈ D.ls, x.name.size ≤ 9223372036854775807) ∧ (∀ x ∈ D.ts, x.size ≤ 9223372036854775807) ∧ (∀ x ∈ D.ss, -9223372036854775808 ≤ x.at_ ∧ x.at_ ≤ 9223372036854775807)) :
    (mkV D sa sn sc la ln lc ta tn tc).Ok w.heap.size w := ⟨h1, h2, h3, hz.1, hz.2.1, hz.2.2.1, hz.2.2.2⟩
theorem climbD {D : ActD} {w : World} {sa : Option Addr} {sn sc : Nat} {la : Option Addr} {ln lc : Nat} {ta : Option Addr} {tn tc : Nat} (h : (mkV D sa sn sc la ln lc ta tn tc).Ok w.heap.size w) : Calls Try.prog 22 #[.agg #[.string D.name, .int .i64 D.sport, .int .i64 D.start, .slice sa sn sc, .slice la ln lc, .slice ta tn tc], .int .i64 0] w fun e w' => e = .returned (.tuple #[.agg #[.int .i64 (climbR D 0).1.1, .int .i64 (climbR D 0).1.2.1, .int .i64 (climbR D 0).1.2.2], .int .i64 (climbR D 0).2]) ∧ Below w.heap.size w w' :=
  track_Climb _ 0 w h
theorem partOfD {D : ActD} {w : World} {sa : Option Addr} {sn sc : Nat} {la : Option Addr} {ln lc : Nat} {ta : Option Addr} {tn tc : Nat} (f t : Int) (h : (mkV D sa sn sc la ln lc ta tn tc).Ok w.heap.size w) : Calls Try.prog 23 #[.agg #[.string D.name, .int .i64 D.sport, .int .i64 D.start, .slice sa sn sc, .slice la ln lc, .slice ta tn tc], .int .i64 f, .int .i64 t] w fun e w' => e = .returned (.tuple #[.agg #[.int .i64 (partOfR D f t).1.f, .int .i64 (partOfR D f t).1.t, .int .i64 (partOfR D f t).1.way, .int .i64 (partOfR D f t).1.climb, .int .i64 (partOfR D f t).1.pulse, .int .i64 (partOfR D f t).1.power, .int .i64 (partOfR D f t).1.steps, .int .i64 (partOfR D f t).1.pk, .int .i64 (partOfR D f t).1.wk, .int .i64 (partOfR D f t).1.sk], .int .i64 (partOfR D f t).2]) ∧ Below w.heap.size w w' :=
  effort_PartOf _ f t w h
theorem hSpanD {D : ActD} {w : World} {sa : Option Addr} {sn sc : Nat} {la : Option Addr} {ln lc : Nat} {ta : Option Addr} {tn tc : Nat} (h : (mkV D sa sn sc la ln lc ta tn tc).Ok w.heap.size w) : Calls Try.prog 21 #[.agg #[.string D.name, .int .i64 D.sport, .int .i64 D.start, .slice sa sn sc, .slice la ln lc, .slice ta tn tc]] w fun e w' => e = .returned (.int .i64 (spanL D.ss)) ∧ Below w.heap.size w w' :=
  top_hSpan _ w h
theorem hLongD {D : ActD} {w : World} {sa : Option Addr} {sn sc : Nat} {la : Option Addr} {ln lc : Nat} {ta : Option Addr} {tn tc : Nat} (hg : GoodA D) (hl : 0 < D.ss.length) (h : (mkV D sa sn sc la ln lc ta tn tc).Ok w.heap.size w) : Calls Try.prog 27 #[.agg #[.string D.name, .int .i64 D.sport, .int .i64 D.start, .slice sa sn sc, .slice la ln lc, .slice ta tn tc]] w fun e w' => e = .returned (.int .i64 (longW D.ss)) ∧ Below w.heap.size w w' :=
  top_hLong _ w h hg hl
theorem joinDD {D E : ActD} {w : World} {sa : Option Addr} {sn sc : Nat} {la : Option Addr} {ln lc : Nat} {ta : Option Addr} {tn tc : Nat} {sa' : Option Addr} {sn' sc' : Nat} {la' : Option Addr} {ln' lc' : Nat} {ta' : Option Addr} {tn' tc' : Nat} (h : (mkV D sa sn sc la ln lc ta tn tc).Ok w.heap.size w) (h' : (mkV E sa' sn' sc' la' ln' lc' ta' tn' tc').Ok w.heap.size w) : Calls Try.prog 24 #[.agg #[.string D.name, .int .i64 D.sport, .int .i64 D.start, .slice sa sn sc, .slice la ln lc, .slice ta tn tc], .agg #[.string E.name, .int .i64 E.sport, .int .i64 E.start, .slice sa' sn' sc', .slice la' ln' lc', .slice ta' tn' tc']] w fun e w' => OutA w.heap.size w' (joinR D E) e ∧ Below w.heap.size w w' :=
  track_Join _ _ w h h'
theorem part_sizes (A : ActV) {C : Nat} {w : World} (hA : A.Ok C w) (l : List SmpR) (b : Int) (hg : GoodA (partD A.d l b)) : (partD A.d l b).name.size ≤ 9223372036854775807 ∧ (∀ x ∈ (partD A.d l b).ls, x.name.size ≤ 9223372036854775807) ∧ (∀ x ∈ (partD A.d l b).ts, x.size ≤ 9223372036854775807) ∧ (∀ x ∈ (partD A.d l b).ss, -9223372036854775808 ≤ x.at_ ∧ x.at_ ≤ 9223372036854775807) := by
  refine ⟨hA.nm, fun x hx => ?_, hA.tm, fun x hx => ?_⟩
  · obtain ⟨y, hy, rfl⟩ := List.mem_map.1 (List.mem_filter.1 hx).1
    exact hA.lm y hy
  · have := hg.smp.bd x hx
    omega
/-- All that the walk needs. -/
structure TopF (A : ActV) (n : Nat) (p : SmpR) : Prop where
  hc : chkA A.d = 0
  pos : 1 ≤ n ∧ n + 1 < A.ss.length ∧ A.ls.length < 200
  hp : A.ss[n]? = some p
  cx : cutR A.d 0 p.at_ = (xD A.d n, 0)
  cy : cutR A.d p.at_ (spanL A.ss) = (yD A.d n p.at_, 0)
  gx : GoodA (xD A.d n)
  gy : GoodA (yD A.d n p.at_)
  lx : 0 < (xD A.d n).ss.length
  ly : 0 < (yD A.d n p.at_).ss.length
  upB : -9223372036854775808 ≤ (climbR (xD A.d n) 0).1.1 + (climbR (yD A.d n p.at_) 0).1.1 ∧ (climbR (xD A.d n) 0).1.1 + (climbR (yD A.d n p.at_) 0).1.1 ≤ 9223372036854775807
  upE : (climbR (xD A.d n) 0).1.1 + (climbR (yD A.d n p.at_) 0).1.1 = (climbR A.d 0).1.1
  dnB : -9223372036854775808 ≤ (climbR (xD A.d n) 0).1.2.1 + (climbR (yD A.d n p.at_) 0).1.2.1 ∧ (climbR (xD A.d n) 0).1.2.1 + (climbR (yD A.d n p.at_) 0).1.2.1 ≤ 9223372036854775807
  dnE : (climbR (xD A.d n) 0).1.2.1 + (climbR (yD A.d n p.at_) 0).1.2.1 = (climbR A.d 0).1.2.1
  c0 : (climbR A.d 0).2 = 0
  p0 : (partOfR A.d 0 (spanL A.ss)).2 = 0
  y0 : (partOfR (yD A.d n p.at_) 0 (spanL (yD A.d n p.at_).ss)).2 = 0
  wB : -9223372036854775808 ≤ (partOfR A.d 0 p.at_).1.way + (partOfR A.d p.at_ (spanL A.ss)).1.way ∧ (partOfR A.d 0 p.at_).1.way + (partOfR A.d p.at_ (spanL A.ss)).1.way ≤ 9223372036854775807
  wE : (partOfR A.d 0 p.at_).1.way + (partOfR A.d p.at_ (spanL A.ss)).1.way = (partOfR A.d 0 (spanL A.ss)).1.way
  kB : -9223372036854775808 ≤ (partOfR A.d 0 p.at_).1.climb + (partOfR A.d p.at_ (spanL A.ss)).1.climb ∧ (partOfR A.d 0 p.at_).1.climb + (partOfR A.d p.at_ (spanL A.ss)).1.climb ≤ 9223372036854775807
  kE : (partOfR A.d 0 p.at_).1.climb + (partOfR A.d p.at_ (spanL A.ss)).1.climb = (partOfR A.d 0 (spanL A.ss)).1.climb
  yw : (partOfR (yD A.d n p.at_) 0 (spanL (yD A.d n p.at_).ss)).1.way = (partOfR A.d p.at_ (spanL A.ss)).1.way
  yk : (partOfR (yD A.d n p.at_) 0 (spanL (yD A.d n p.at_).ss)).1.pk = (partOfR A.d p.at_ (spanL A.ss)).1.pk
  yp : (partOfR (yD A.d n p.at_) 0 (spanL (yD A.d n p.at_).ss)).1.pulse = (partOfR A.d p.at_ (spanL A.ss)).1.pulse
  lB : -9223372036854775808 ≤ longW (xD A.d n).ss + longW (yD A.d n p.at_).ss ∧ longW (xD A.d n).ss + longW (yD A.d n p.at_).ss ≤ 9223372036854775807
  lE : longW (xD A.d n).ss + longW (yD A.d n p.at_).ss = longW A.ss
  sB : -9223372036854775808 ≤ spanL (xD A.d n).ss + spanL (yD A.d n p.at_).ss ∧ spanL (xD A.d n).ss + spanL (yD A.d n p.at_).ss ≤ 9223372036854775807
  sE : spanL (xD A.d n).ss + spanL (yD A.d n p.at_).ss = spanL A.ss
theorem topF {A : ActV} {n : Nat} {p : SmpR} (hW : CutW A.d n p) : TopF A n p := by
  have ht : 0 < p.at_ ∧ p.at_ < spanL A.ss := hW.t
  have hspan : 0 ≤ spanL A.ss ∧ spanL A.ss ≤ 1000000 := hW.good.smp.span
  have hgx := hW.xgood
  have hgy : GoodA (yD A.d n p.at_) ∧ spanL (yD A.d n p.at_).ss = spanL A.ss - p.at_ := hW.ygood
  have hlx := hW.lx
  have hly : (yD A.d n p.at_).ss.length = A.ss.length - n := hW.ly
  have hi : n + 1 < A.ss.length := hW.hi
  have clx := climb0 hgx.1 (by have := hW.lo; omega)
  have cly := climb0 hgy.1 (by omega)
  have bx := rise_bd hgx.1
  have bY := rise_bd hgy.1
  have hcl := hW.climb
  obtain ⟨hs0, hsum, pb1, pb2⟩ := hW.sum
  have hpt := hW.part
  have wbx := wayN_bd hgx.1.smp ((xD A.d n).ss.length - 1)
  have wby := wayN_bd hgy.1.smp ((yD A.d n p.at_).ss.length - 1)
  have lbx : longW (xD A.d n).ss = wayN (xD A.d n).ss ((xD A.d n).ss.length - 1) := rfl
  have lby : longW (yD A.d n p.at_).ss = wayN (yD A.d n p.at_).ss ((yD A.d n p.at_).ss.length - 1) := rfl
  have l20 : A.ss.length ≤ 20000 := hW.good.smp.len
  have w1 := pb1.way
  have w2 : 0 ≤ (partOfR A.d p.at_ (spanL A.ss)).1.way ∧ (partOfR A.d p.at_ (spanL A.ss)).1.way ≤ 1000000000000000 := pb2.way
  have k1 := pb1.climb
  have k2 : 0 ≤ (partOfR A.d p.at_ (spanL A.ss)).1.climb ∧ (partOfR A.d p.at_ (spanL A.ss)).1.climb ≤ 1000000000000000 := pb2.climb
  exact { hc := hW.good.chk, pos := ⟨hW.lo, hi, hW.laps⟩, hp := hW.p, cx := hW.cutx, cy := hW.cuty, gx := hgx.1, gy := hgy.1, lx := by omega, ly := by omega, upB := by rw [clx.1, cly.1]; omega, upE := hcl.1, dnB := by rw [clx.2.1, cly.2.1]; omega, dnE := hcl.2.1, c0 := hcl.2.2, p0 := hs0, y0 := hpt.1, wB := by omega, wE := hsum.way, kB := by omega, kE := hsum.climb, yw := hpt.2.1, yk := hpt.2.2.1, yp := hpt.2.2.2, lB := by omega, lE := hW.way, sB := by omega, sE := by rw [hgx.2, hgy.2]; omega }
theorem law_len_18 (A : ActV) (n : Nat) (p : SmpR) (w : World) (hA : A.Ok w.heap.size w) (T : TopF A n p) (d : ActD) (hj1 : d.start = A.start) (hj2 : d.ss = A.ss) (hj3 : d.ts = A.ts) (gX : (xD A.d n).name.size ≤ 9223372036854775807 ∧ (∀ x ∈ (xD A.d n).ls, x.name.size ≤ 9223372036854775807) ∧ (∀ x ∈ (xD A.d n).ts, x.size ≤ 9223372036854775807) ∧ (∀ x ∈ (xD A.d n).ss, -9223372036854775808 ≤ x.at_ ∧ x.at_ ≤ 9223372036854775807)) (gY : (yD A.d n p.at_).name.size ≤ 9223372036854775807 ∧ (∀ x ∈ (yD A.d n p.at_).ls, x.name.size ≤ 9223372036854775807) ∧ (∀ x ∈ (yD A.d n p.at_).ts, x.size ≤ 9223372036854775807) ∧ (∀ x ∈ (yD A.d n p.at_).ss, -9223372036854775808 ≤ x.at_ ∧ x.at_ ≤ 9223372036854775807)) (b2 b7 b9 b25 : Nat) (savx lavx tavx : Option Addr) (snvx scvx lnvx lcvx tnvx tcvx : Nat) (savy lavy tavy : Option Addr) (snvy scvy lnvy lcvy tnvy tcvy : Nat) (savz lavz tavz : Option Addr) (snvz scvz lnvz lcvz tnvz tcvz : Nat) (hz1 : snvz = A.sn) (hz2 : tnvz = A.tn) (Q : Exit → Act → World → Prop)
    (hQ : Hx.Ends Try.prog ⟨251, fun _ => True, [], false⟩ w.heap.size w Try.f5.results (fun e w' => e = .returned (.bool true) ∧ Below w.heap.size w w') Q) :
    WP Try.prog ⟨251, fun _ => True, [], false⟩ w.heap.size w (pathC (Try.f5.body.getD .skip) [1, 1, 1, 1, 1, 1, 1, 1, 1, 1, 1, 1, 1, 1, 1]) Q [(2, .pointer (some ⟨b2, 0, none⟩)), (7, .pointer (some ⟨b7, 0, none⟩)), (9, .pointer (some ⟨b9, 0, none⟩)), (25, .pointer (some ⟨b25, 0, none⟩)), (6, .int .i64 (spanL A.ss)), (26, .int .i64 0)] [(2, .blk b2 (pairs 0 [.string A.name, .int .i64 A.sport, .int .i64 A.start, .slice A.sa A.sn A.sc, .slice A.la A.ln A.lc, .slice A.ta A.tn A.tc]) 57), (7, .blk b7 (pairs 0 [.string (xD A.d n).name, .int .i64 (xD A.d n).sport, .int .i64 (xD A.d n).start, .slice savx snvx scvx, .slice lavx lnvx lcvx, .slice tavx tnvx tcvx]) 57), (9, .blk b9 (pairs 0 [.string (yD A.d n p.at_).name, .int .i64 (yD A.d n p.at_).sport, .int .i64 (yD A.d n p.at_).start, .slice savy snvy scvy, .slice lavy lnvy lcvy, .slice tavy tnvy tcvy]) 57), (25, .blk b25 (pairs 0 [.string d.name, .int .i64 d.sport, .int .i64 d.start, .slice savz snvz scvz, .slice lavz lnvz lcvz, .slice tavz tnvz tcvz]) 57), (1011, .row savx snvx scvx (encSmp.enc (xD A.d n).ss) 70 7), (1012, .row lavx lnvx lcvx (encLap.enc (xD A.d n).ls) 110 3), (1013, .row tavx tnvx tcvx (encStr.enc (xD A.d n).ts) 9 1), (1021, .row savy snvy scvy (encSmp.enc (yD A.d n p.at_).ss) 70 7), (1022, .row lavy lnvy lcvy (encLap.enc (yD A.d n p.at_).ls) 110 3), (1023, .row tavy tnvy tcvy (encStr.enc (yD A.d n p.at_).ts) 9 1), (1031, .row savz snvz scvz (encSmp.enc d.ss) 70 7), (1032, .row lavz lnvz lcvz (encLap.enc d.ls) 110 3), (1033, .row tavz tnvz tcvz (encStr.enc d.ts) 9 1)] := by
  have hsn := hA.s.len
  have hpos := T.pos
  subst hz1
  subst hz2
  show WP _ _ _ _ (Code.seq _ _) _ _ _
  refine wp_seq' fun K1 hK1 => ?_
  refine wp_regq (by kernel_rfl) (by kernel_rfl) ?_
  refine ql_r (r_move rfl) rfl ?_
  refine ql_r (r_eql rfl rfl) rfl ?_
  refine ql_r (r_move rfl) rfl ?_
  refine ql_split (d := 208) rfl (fun hs208 => ?_) (fun hs208 => ?_)
  ·have phs208 := hs208; try simp only [decide_eq_true_eq, decide_eq_false_iff_not, Bool.not_eq_true', Bool.not_eq_false', Bool.not_true, Bool.not_false] at phs208
   refine ql_g rfl rfl hs208 ?_
   refine ql_r (r_fa (o' := 2) rfl fl57_2 rfl) rfl ?_
   refine ql_g rfl rfl hs208 ?_
   refine ql_r (r_ld (id := 25) rfl rfl rfl sc3) rfl ?_
   refine ql_g rfl rfl hs208 ?_
   refine ql_r (r_fa (o' := 2) rfl fl57_2 rfl) rfl ?_
   refine ql_g rfl rfl hs208 ?_
   refine ql_r (r_ld (id := 2) rfl rfl rfl sc3) rfl ?_
   refine ql_g rfl rfl hs208 ?_
   refine ql_r (r_eql rfl rfl) rfl ?_
   refine ql_r (r_pickT rfl hs208 rfl) rfl ?_
   refine ql_r (r_move rfl) rfl ?_
   refine ql_split (d := 215) rfl (fun hs215 => ?_) (fun hs215 => ?_)
   ·have phs215 := hs215; try simp only [decide_eq_true_eq, decide_eq_false_iff_not, Bool.not_eq_true', Bool.not_eq_false', Bool.not_true, Bool.not_false] at phs215
    refine ql_g rfl rfl hs215 ?_
    refine ql_r (r_fa (o' := 3) rfl fl57_3 rfl) rfl ?_
    refine ql_g rfl rfl hs215 ?_
    refine ql_r (r_ld (id := 25) rfl rfl rfl sc53) rfl ?_
    refine ql_g rfl rfl hs215 ?_
    refine ql_r (r_fa (o' := 3) rfl fl57_3 rfl) rfl ?_
    refine ql_g rfl rfl hs215 ?_
    refine ql_r (r_ld (id := 2) rfl rfl rfl sc53) rfl ?_
    refine ql_g rfl rfl hs215 ?_
    refine ql_call rfl rfl cb25 rfl (fun w1 hb1 hs1 hB1 => equal_smp_same _ _ _ _ _ A.ss _ (by have h := Sat.rd hs1 (E := encSmp) (id := 1031) rfl rfl; rw [hj2] at h; exact h) (hA.s.at hb1 hB1)) ?_
    refine ql_r (r_pickT rfl hs215 rfl) rfl ?_
    refine ql_r (r_move rfl) rfl ?_
    refine ql_split (d := 222) rfl (fun hs222 => ?_) (fun hs222 => ?_)
    ·have phs222 := hs222; try simp only [decide_eq_true_eq, decide_eq_false_iff_not, Bool.not_eq_true', Bool.not_eq_false', Bool.not_true, Bool.not_false] at phs222
     refine ql_g rfl rfl hs222 ?_
     refine ql_r (r_fa (o' := 5) rfl fl57_5 rfl) rfl ?_
     refine ql_g rfl rfl hs222 ?_
     refine ql_r (r_ld (id := 25) rfl rfl rfl sc55) rfl ?_
     refine ql_g rfl rfl hs222 ?_
     refine ql_r (r_fa (o' := 5) rfl fl57_5 rfl) rfl ?_
     refine ql_g rfl rfl hs222 ?_
     refine ql_r (r_ld (id := 2) rfl rfl rfl sc55) rfl ?_
     refine ql_g rfl rfl hs222 ?_
     refine ql_call rfl rfl cb26 rfl (fun w1 hb1 hs1 hB1 => equal_str_same _ _ _ _ _ A.ts _ (by have h := Sat.rd hs1 (E := encStr) (id := 1033) rfl rfl; rw [hj3] at h; exact h) (hA.t.at hb1 hB1)) ?_
     refine ql_r (r_pickT rfl hs222 rfl) rfl ?_
     refine ql_r (r_move rfl) rfl ?_
     refine ql_split (d := 229) rfl (fun hs229 => ?_) (fun hs229 => ?_)
     ·have phs229 := hs229; try simp only [decide_eq_true_eq, decide_eq_false_iff_not, Bool.not_eq_true', Bool.not_eq_false', Bool.not_true, Bool.not_false] at phs229
      refine ql_g rfl rfl hs229 ?_
      refine ql_r (r_lda (id := 7) (n := 6) rfl rfl rfl ag57) rfl ?_
      refine ql_g rfl rfl hs229 ?_
      refine ql_call rfl rfl cb27 rfl (fun w1 hb1 hs1 hB1 => hLongD (D := xD A.d n) T.gx T.lx (okD (Sat.rd hs1 (id := 1011) rfl rfl) (Sat.rd hs1 (id := 1012) rfl rfl) (Sat.rd hs1 (id := 1013) rfl rfl) gX)) ?_
      refine ql_g rfl rfl hs229 ?_
      refine ql_r (r_lda (id := 9) (n := 6) rfl rfl rfl ag57) rfl ?_
      refine ql_g rfl rfl hs229 ?_
      refine ql_call rfl rfl cb27 rfl (fun w1 hb1 hs1 hB1 => hLongD (D := yD A.d n p.at_) T.gy T.ly (okD (Sat.rd hs1 (id := 1021) rfl rfl) (Sat.rd hs1 (id := 1022) rfl rfl) (Sat.rd hs1 (id := 1023) rfl rfl) gY)) ?_
      refine ql_g rfl rfl hs229 ?_
      refine ql_r (r_add rfl rfl T.lB) rfl ?_
      refine ql_g rfl rfl hs229 ?_
      refine ql_r (r_lda (id := 2) (n := 6) rfl rfl rfl ag57) rfl ?_
      refine ql_g rfl rfl hs229 ?_
      refine ql_call rfl rfl cb27 rfl (fun w1 hb1 hs1 hB1 => top_hLong A _ (hA.at hb1 hB1) (goodA T.hc) (by omega)) ?_
      refine ql_g rfl rfl hs229 ?_
      refine ql_r (r_eql rfl rfl) rfl ?_
      refine ql_r (r_pickT rfl hs229 rfl) rfl ?_
      refine ql_r (r_move rfl) rfl ?_
      refine ql_split (d := 239) rfl (fun hs239 => ?_) (fun hs239 => ?_)
      ·have phs239 := hs239; try simp only [decide_eq_true_eq, decide_eq_false_iff_not, Bool.not_eq_true', Bool.not_eq_false', Bool.not_true, Bool.not_false] at phs239
       refine ql_g rfl rfl hs239 ?_
       refine ql_r (r_lda (id := 7) (n := 6) rfl rfl rfl ag57) rfl ?_
       refine ql_g rfl rfl hs239 ?_
       refine ql_call rfl rfl cb21 rfl (fun w1 hb1 hs1 hB1 => hSpanD (D := xD A.d n) (okD (Sat.rd hs1 (id := 1011) rfl rfl) (Sat.rd hs1 (id := 1012) rfl rfl) (Sat.rd hs1 (id := 1013) rfl rfl) gX)) ?_
       refine ql_g rfl rfl hs239 ?_
       refine ql_r (r_lda (id := 9) (n := 6) rfl rfl rfl ag57) rfl ?_
       refine ql_g rfl rfl hs239 ?_
       refine ql_call rfl rfl cb21 rfl (fun w1 hb1 hs1 hB1 => hSpanD (D := yD A.d n p.at_) (okD (Sat.rd hs1 (id := 1021) rfl rfl) (Sat.rd hs1 (id := 1022) rfl rfl) (Sat.rd hs1 (id := 1023) rfl rfl) gY)) ?_
       refine ql_g rfl rfl hs239 ?_
       refine ql_r (r_add rfl rfl T.sB) rfl ?_
       refine ql_g rfl rfl hs239 ?_
       refine ql_r (r_move rfl) rfl ?_
       refine ql_g rfl rfl hs239 ?_
       refine ql_r (r_eql rfl rfl) rfl ?_
       refine ql_r (r_pickT rfl hs239 rfl) rfl ?_
       refine ql_r (r_move rfl) rfl ?_
       refine ql_split (d := 248) rfl (fun hs248 => ?_) (fun hs248 => ?_)
       ·have phs248 := hs248; try simp only [decide_eq_true_eq, decide_eq_false_iff_not, Bool.not_eq_true', Bool.not_eq_false', Bool.not_true, Bool.not_false] at phs248
        refine ql_g rfl rfl hs248 ?_
        refine ql_call rfl rfl cb7 rfl (fun w1 hb1 hs1 hB1 => top_told _) ?_
        refine ql_r (r_pickT rfl hs248 rfl) rfl ?_
        refine ql_r (r_assign rfl) rfl ?_
        refine ql_nil (to_k0 (fun _ _ h => h) (hK1 _ _ _ _ _ ?_))
        clear hK1
        refine hQ.ret (rvs1 (rv_t rfl)) (fun _ _ h => h) fun w hb hs hB hkd => ?_
        exact ⟨rfl, hb⟩
       ·have phs248 := hs248; try simp only [decide_eq_true_eq, decide_eq_false_iff_not, Bool.not_eq_true', Bool.not_eq_false', Bool.not_true, Bool.not_false] at phs248
        exfalso
        exact phs248 T.sE
      ·have phs239 := hs239; try simp only [decide_eq_true_eq, decide_eq_false_iff_not, Bool.not_eq_true', Bool.not_eq_false', Bool.not_true, Bool.not_false] at phs239
       exfalso
       exact phs239 T.lE
     ·have phs229 := hs229; try simp only [decide_eq_true_eq, decide_eq_false_iff_not, Bool.not_eq_true', Bool.not_eq_false', Bool.not_true, Bool.not_false] at phs229
      exfalso
      exact Bool.noConfusion hs229
    ·have phs222 := hs222; try simp only [decide_eq_true_eq, decide_eq_false_iff_not, Bool.not_eq_true', Bool.not_eq_false', Bool.not_true, Bool.not_false] at phs222
     exfalso
     exact Bool.noConfusion hs222
   ·have phs215 := hs215; try simp only [decide_eq_true_eq, decide_eq_false_iff_not, Bool.not_eq_true', Bool.not_eq_false', Bool.not_true, Bool.not_false] at phs215
    exfalso
    exact phs215 hj1
  ·have phs208 := hs208; try simp only [decide_eq_true_eq, decide_eq_false_iff_not, Bool.not_eq_true', Bool.not_eq_false', Bool.not_true, Bool.not_false] at phs208
   exfalso
   exact phs208 trivial
theorem law_len_in (A : ActV) (n : Nat) (p : SmpR) (w : World) (hA : A.Ok w.heap.size w) (T : TopF A n p) (hj : ∃ d, joinR (xD A.d n) (yD A.d n p.at_) = (d, 0) ∧ d.start = A.start ∧ d.ss = A.ss ∧ d.ts = A.ts) :
    Calls Try.prog 5 #[.agg #[.string A.name, .int .i64 A.sport, .int .i64 A.start, .slice A.sa A.sn A.sc, .slice A.la A.ln A.lc, .slice A.ta A.tn A.tc], .int .i64 (n : Int)] w fun e w' => e = .returned (.bool true) ∧ Below w.heap.size w w' := by
  obtain ⟨d, hj, hj1, hj2, hj3⟩ := hj
  have hsn := hA.s.len
  have hln := hA.l.len
  have hfit := hA.s.fit
  have hpos := T.pos
  have gX := part_sizes A hA _ _ T.gx
  have gY := part_sizes A hA _ _ T.gy
  refine enterQ (N := 251) (C := fun _ => True) (H := []) (B := w.heap.size) (args := [_, _]) Try.func5 rfl rfl rfl (Nat.le_refl _) (Sat.nil _ _) fun Q hQ => ?_
  refine wp_seq' fun K1 hK1 => ?_
  refine wp_reg ?_
  refine ol_box 2 rfl rfl rfl fun b2 => ?_
  refine ol_r (r_assign rfl) rfl ?_
  refine ol_nil (to_k0 (fun _ _ h => h) (hK1 _ _ _ _ _ ?_))
  clear hK1
  refine wp_seq' fun K2 hK2 => ?_
  refine wp_seq' fun K3 hK3 => ?_
  refine wp_reg ?_
  refine ol_r (r_lda (id := 2) (n := 6) rfl rfl rfl ag57) rfl ?_
  refine ol_call rfl rfl cb20 rfl (fun w1 hb1 hs1 hB1 => Calls.mono (record_Check A _ (hA.at hb1 hB1)) ?_)
  rintro e w2 ⟨rfl, hb2⟩
  refine After.below rfl hb1 hs1 hB1 hb2 ?_
  clear hb2 hB1 hs1 hb1 w2 w1
  refine ol_r (r_neq rfl rfl) rfl ?_
  refine ol_r (r_move rfl) rfl ?_
  refine ol_split (d := 30) rfl (fun hs30 => ?_) (fun hs30 => ?_)
  ·have phs30 := hs30; try simp only [decide_eq_true_eq, decide_eq_false_iff_not, Bool.not_eq_true', Bool.not_eq_false', Bool.not_true, Bool.not_false] at phs30
   exfalso
   exact phs30 T.hc
  ·have phs30 := hs30; try simp only [decide_eq_true_eq, decide_eq_false_iff_not, Bool.not_eq_true', Bool.not_eq_false', Bool.not_true, Bool.not_false] at phs30
   refine ol_g rfl rfl hs30 ?_
   refine ol_r (r_move rfl) rfl ?_
   refine ol_g rfl rfl hs30 ?_
   refine ol_r (r_lss rfl rfl) rfl ?_
   refine ol_r (r_pickF rfl hs30 rfl) rfl ?_
   refine ol_r (r_move rfl) rfl ?_
   refine ol_split (d := 34) rfl (fun hs34 => ?_) (fun hs34 => ?_)
   ·have phs34 := hs34; try simp only [decide_eq_true_eq, decide_eq_false_iff_not, Bool.not_eq_true', Bool.not_eq_false', Bool.not_true, Bool.not_false] at phs34
    exfalso
    omega
   ·have phs34 := hs34; try simp only [decide_eq_true_eq, decide_eq_false_iff_not, Bool.not_eq_true', Bool.not_eq_false', Bool.not_true, Bool.not_false] at phs34
    refine ol_g rfl rfl hs34 ?_
    refine ol_r (r_move rfl) rfl ?_
    refine ol_g rfl rfl hs34 ?_
    refine ol_r (r_fa (o' := 3) rfl fl57_3 rfl) rfl ?_
    refine ol_g rfl rfl hs34 ?_
    refine ol_r (r_ld (id := 2) rfl rfl rfl sc53) rfl ?_
    refine ol_g rfl rfl hs34 ?_
    refine ol_r (r_len rfl sl53) rfl ?_
    refine ol_g rfl rfl hs34 ?_
    refine ol_r (r_sub rfl rfl (by omega)) rfl ?_
    refine ol_g rfl rfl hs34 ?_
    refine ol_r (r_geq rfl rfl) rfl ?_
    refine ol_r (r_pickF rfl hs34 rfl) rfl ?_
    refine ol_r (r_move rfl) rfl ?_
    refine ol_split (d := 42) rfl (fun hs42 => ?_) (fun hs42 => ?_)
    ·have phs42 := hs42; try simp only [decide_eq_true_eq, decide_eq_false_iff_not, Bool.not_eq_true', Bool.not_eq_false', Bool.not_true, Bool.not_false] at phs42
     exfalso
     omega
    ·have phs42 := hs42; try simp only [decide_eq_true_eq, decide_eq_false_iff_not, Bool.not_eq_true', Bool.not_eq_false', Bool.not_true, Bool.not_false] at phs42
     refine ol_g rfl rfl hs42 ?_
     refine ol_r (r_fa (o' := 4) rfl fl57_4 rfl) rfl ?_
     refine ol_g rfl rfl hs42 ?_
     refine ol_r (r_ld (id := 2) rfl rfl rfl sc54) rfl ?_
     refine ol_g rfl rfl hs42 ?_
     refine ol_r (r_len rfl sl54) rfl ?_
     refine ol_g rfl rfl hs42 ?_
     refine ol_r (r_geq rfl rfl) rfl ?_
     refine ol_r (r_pickF rfl hs42 rfl) rfl ?_
     refine ol_nil (to_k0 (fun _ _ h => h) (hK3 _ _ _ _ _ ?_))
     clear hK3
     first | refine wp_condD rfl (fun hc47 => ?_) (fun hc47 => ?_) | refine wp_condN rfl (fun hc47 => ?_) (fun hc47 => ?_) | refine wp_condNB rfl (fun hc47 => ?_) (fun hc47 => ?_) | refine wp_cond' rfl (fun hc47 => ?_) (fun hc47 => ?_)
     ·exfalso
      omega
     ·refine wp_skip' (to_k0 (fun _ _ h => h) (hK2 _ _ _ _ _ ?_))
      clear hK2
      refine wp_seq' fun K4 hK4 => ?_
      refine wp_regq (by kernel_rfl) (by kernel_rfl) ?_
      refine ql_r (r_fa (o' := 3) rfl fl57_3 rfl) rfl ?_
      refine ql_r (r_ld (id := 2) rfl rfl rfl sc53) rfl ?_
      refine ql_r (r_move rfl) rfl ?_
      refine ql_ixr hA.s rfl rfl sl53 (by omega) rfl fun x52 hx52 => ?_
      try simp only [Int.toNat_natCast] at hx52
      refine ql_r (r_faw rfl (ix_some hA.s (by omega)) fl70_0) rfl ?_
      refine ql_r (r_ldw rfl (fun w1 hb1 hs1 hB1 => Rd.loadsF (o := 0) hA.s sc3 hx52 hb1 rfl)) rfl ?_
      refine ql_r (r_lda (id := 2) (n := 6) rfl rfl rfl ag57) rfl ?_
      refine ql_call rfl rfl cb21 rfl (fun w1 hb1 hs1 hB1 => top_hSpan A _ (hA.at hb1 hB1)) ?_
      refine ql_r (r_assign rfl) rfl ?_
      refine ql_r (r_assign rfl) rfl ?_
      refine ql_nil (to_k0 (fun _ _ h => h) (hK4 _ _ _ _ _ ?_))
      clear hK4
      refine wp_seq' fun K5 hK5 => ?_
      refine wp_reg ?_
      refine ol_r (r_lda (id := 2) (n := 6) rfl rfl rfl ag57) rfl ?_
      refine ol_r (r_move rfl) rfl ?_
      refine ol_call rfl rfl cb17 rfl (fun w1 hb1 hs1 hB1 => ?_)
      refine Calls.mono (track_Cut A 0 x52.at_ _ (hA.at hb1 hB1)) ?_
      rintro e w2 ⟨⟨sa1, sn1, sc1, la1, ln1, lc1, ta1, tn1, tc1, rfl, hs2⟩, hb2⟩
      refine After.more rfl hb1 hs1 hB1 hb2 (hs2.three 1001 1002 1003 1011 1012 1013 (by decide) (by decide) (by decide) rfl rfl rfl (Ent.le_refl _) (Ent.le_refl _) (Ent.le_refl _)) ?_
      clear hs2 hb2 hB1 hs1 hb1 w2 w1
      obtain rfl : x52 = p := Option.some.inj (hx52.symm.trans T.hp)
      refine ol_r (r_move rfl) rfl ?_
      refine ol_r (r_extract rfl rfl) rfl ?_
      refine ol_r (r_extract rfl rfl) rfl ?_
      refine ol_alloc 7 z57 rfl fun b7 => ?_
      refine ol_store (id := 7) rfl rfl rfl rfl sz57 rfl rfl (by first | decide | exact Nat.zero_lt_succ _ | simp) ?_
      refine ol_r (r_assign rfl) rfl ?_
      refine ol_nil (to_k0 (fun _ _ h => h) (hK5 _ _ _ _ _ ?_))
      clear hK5
      refine wp_seq' fun K6 hK6 => ?_
      refine wp_reg ?_
      refine ol_r (r_lda (id := 2) (n := 6) rfl rfl rfl ag57) rfl ?_
      refine ol_r (r_move rfl) rfl ?_
      refine ol_r (r_move rfl) rfl ?_
      refine ol_call rfl rfl cb17 rfl (fun w1 hb1 hs1 hB1 => ?_)
      refine Calls.mono (track_Cut A x52.at_ (spanL A.ss) _ (hA.at hb1 hB1)) ?_
      rintro e w2 ⟨⟨sa2, sn2, sc2, la2, ln2, lc2, ta2, tn2, tc2, rfl, hs2⟩, hb2⟩
      refine After.more rfl hb1 hs1 hB1 hb2 (hs2.three 1001 1002 1003 1021 1022 1023 (by decide) (by decide) (by decide) rfl rfl rfl (Ent.le_refl _) (Ent.le_refl _) (Ent.le_refl _)) ?_
      clear hs2 hb2 hB1 hs1 hb1 w2 w1
      refine ol_r (r_move rfl) rfl ?_
      refine ol_r (r_extract rfl rfl) rfl ?_
      refine ol_r (r_extract rfl rfl) rfl ?_
      refine ol_alloc 9 z57 rfl fun b9 => ?_
      refine ol_store (id := 9) rfl rfl rfl rfl sz57 rfl rfl (by first | decide | exact Nat.zero_lt_succ _ | simp) ?_
      rw [T.cx, T.cy]
      refine ol_r (r_assign rfl) rfl ?_
      refine ol_nil (to_k0 (fun _ _ h => h) (hK6 _ _ _ _ _ ?_))
      clear hK6
      refine wp_seq' fun K7 hK7 => ?_
      apply wp_seq_cutM (σ := Bool) (fun s => s = false) (fun s => [(75, .bool s)]) [(2, _), (4, _), (5, _), (6, _), (7, _), (8, _), (9, _)] (fun s => []) [(2, _), (7, _), (9, _), (1011, _), (1012, _), (1013, _), (1021, _), (1022, _), (1023, _)]
      ·exact (sub_cons rfl (sub_cons rfl (sub_cons rfl (sub_cons rfl (sub_cons rfl (sub_cons rfl (sub_cons rfl sub_nil)))))))
      ·exact (subH_same rfl (subH_same rfl (subH_same rfl (subH_same rfl (subH_same rfl (subH_same rfl (subH_same rfl (subH_same rfl (subH_same rfl subH_nil)))))))))
      ·intro K8 hK8
       refine wp_reg ?_
       refine ol_r (r_move rfl) rfl ?_
       refine ol_r (r_neq rfl rfl) rfl ?_
       refine ol_r (r_move rfl) rfl ?_
       refine ol_split (d := 72) rfl (fun hs72 => ?_) (fun hs72 => ?_)
       ·have phs72 := hs72; try simp only [decide_eq_true_eq, decide_eq_false_iff_not, Bool.not_eq_true', Bool.not_eq_false', Bool.not_true, Bool.not_false] at phs72
        exfalso
        exact phs72 rfl
       ·have phs72 := hs72; try simp only [decide_eq_true_eq, decide_eq_false_iff_not, Bool.not_eq_true', Bool.not_eq_false', Bool.not_true, Bool.not_false] at phs72
        refine ol_g rfl rfl hs72 ?_
        refine ol_r (r_move rfl) rfl ?_
        refine ol_g rfl rfl hs72 ?_
        refine ol_r (r_neq rfl rfl) rfl ?_
        refine ol_r (r_pickF rfl hs72 rfl) rfl ?_
        refine ol_nil (to_k0 (fun _ _ h => h) (hK8 (_) _ _ ?_ (sub_cons rfl sub_nil) (sub_cons rfl (sub_cons rfl (sub_cons rfl (sub_cons rfl (sub_cons rfl (sub_cons rfl (sub_cons rfl sub_nil))))))) subH_nil (subH_same rfl (subH_same rfl (subH_same rfl (subH_same rfl (subH_same rfl (subH_same rfl (subH_same rfl (subH_same rfl (subH_same rfl subH_nil)))))))))))
        try dsimp only
        exact decide_eq_false (fun h => h rfl)
      ·rintro b rfl
       first | refine wp_condD rfl (fun hc75 => ?_) (fun hc75 => ?_) | refine wp_condN rfl (fun hc75 => ?_) (fun hc75 => ?_) | refine wp_condNB rfl (fun hc75 => ?_) (fun hc75 => ?_) | refine wp_cond' rfl (fun hc75 => ?_) (fun hc75 => ?_)
       ·exfalso
        exact Bool.noConfusion hc75
       ·refine wp_skip' (to_k0 (fun _ _ h => h) (hK7 _ _ _ _ _ ?_))
        clear hK7
        refine wp_seq' fun K9 hK9 => ?_
        refine wp_reg ?_
        refine ol_r (r_lda (id := 7) (n := 6) rfl rfl rfl ag57) rfl ?_
        refine ol_call rfl rfl cb22 rfl (fun w1 hb1 hs1 hB1 => Calls.mono (climbD (D := xD A.d n) (okD (Sat.rd hs1 (id := 1011) rfl rfl) (Sat.rd hs1 (id := 1012) rfl rfl) (Sat.rd hs1 (id := 1013) rfl rfl) gX)) ?_)
        rintro e w2 ⟨rfl, hb2⟩
        refine After.below rfl hb1 hs1 hB1 hb2 ?_
        clear hb2 hB1 hs1 hb1 w2 w1
        refine ol_r (r_move rfl) rfl ?_
        refine ol_r (r_extract rfl rfl) rfl ?_
        refine ol_r (r_extract rfl rfl) rfl ?_
        refine ol_alloc 11 z79 rfl fun b11 => ?_
        refine ol_store (id := 11) rfl rfl rfl rfl sz79 rfl rfl (by first | decide | exact Nat.zero_lt_succ _ | simp) ?_
        refine ol_r (r_assign rfl) rfl ?_
        refine ol_nil (to_k0 (fun _ _ h => h) (hK9 _ _ _ _ _ ?_))
        clear hK9
        refine wp_seq' fun K10 hK10 => ?_
        refine wp_reg ?_
        refine ol_r (r_lda (id := 9) (n := 6) rfl rfl rfl ag57) rfl ?_
        refine ol_call rfl rfl cb22 rfl (fun w1 hb1 hs1 hB1 => Calls.mono (climbD (D := yD A.d n x52.at_) (okD (Sat.rd hs1 (id := 1021) rfl rfl) (Sat.rd hs1 (id := 1022) rfl rfl) (Sat.rd hs1 (id := 1023) rfl rfl) gY)) ?_)
        rintro e w2 ⟨rfl, hb2⟩
        refine After.below rfl hb1 hs1 hB1 hb2 ?_
        clear hb2 hB1 hs1 hb1 w2 w1
        refine ol_r (r_move rfl) rfl ?_
        refine ol_r (r_extract rfl rfl) rfl ?_
        refine ol_r (r_extract rfl rfl) rfl ?_
        refine ol_alloc 13 z79 rfl fun b13 => ?_
        refine ol_store (id := 13) rfl rfl rfl rfl sz79 rfl rfl (by first | decide | exact Nat.zero_lt_succ _ | simp) ?_
        refine ol_r (r_assign rfl) rfl ?_
        refine ol_nil (to_k0 (fun _ _ h => h) (hK10 _ _ _ _ _ ?_))
        clear hK10
        refine wp_seq' fun K11 hK11 => ?_
        refine wp_reg ?_
        refine ol_r (r_lda (id := 2) (n := 6) rfl rfl rfl ag57) rfl ?_
        refine ol_call rfl rfl cb22 rfl (fun w1 hb1 hs1 hB1 => Calls.mono (track_Climb A 0 _ (hA.at hb1 hB1)) ?_)
        rintro e w2 ⟨rfl, hb2⟩
        refine After.below rfl hb1 hs1 hB1 hb2 ?_
        clear hb2 hB1 hs1 hb1 w2 w1
        refine ol_r (r_move rfl) rfl ?_
        refine ol_r (r_extract rfl rfl) rfl ?_
        refine ol_r (r_extract rfl rfl) rfl ?_
        refine ol_alloc 15 z79 rfl fun b15 => ?_
        refine ol_store (id := 15) rfl rfl rfl rfl sz79 rfl rfl (by first | decide | exact Nat.zero_lt_succ _ | simp) ?_
        refine ol_r (r_assign rfl) rfl ?_
        refine ol_nil (to_k0 (fun _ _ h => h) (hK11 _ _ _ _ _ ?_))
        clear hK11
        refine wp_seq' fun K12 hK12 => ?_
        refine wp_reg ?_
        refine ol_r (r_lda (id := 2) (n := 6) rfl rfl rfl ag57) rfl ?_
        refine ol_r (r_move rfl) rfl ?_
        refine ol_call rfl rfl cb23 rfl (fun w1 hb1 hs1 hB1 => Calls.mono (effort_PartOf A 0 x52.at_ _ (hA.at hb1 hB1)) ?_)
        rintro e w2 ⟨rfl, hb2⟩
        refine After.below rfl hb1 hs1 hB1 hb2 ?_
        clear hb2 hB1 hs1 hb1 w2 w1
        refine ol_r (r_move rfl) rfl ?_
        refine ol_r (r_extract rfl rfl) rfl ?_
        refine ol_r (r_extract rfl rfl) rfl ?_
        refine ol_alloc 17 z83 rfl fun b17 => ?_
        refine ol_store (id := 17) rfl rfl rfl rfl sz83 rfl rfl (by first | decide | exact Nat.zero_lt_succ _ | simp) ?_
        refine ol_r (r_assign rfl) rfl ?_
        refine ol_nil (to_k0 (fun _ _ h => h) (hK12 _ _ _ _ _ ?_))
        clear hK12
        refine wp_seq' fun K13 hK13 => ?_
        refine wp_reg ?_
        refine ol_r (r_lda (id := 2) (n := 6) rfl rfl rfl ag57) rfl ?_
        refine ol_r (r_move rfl) rfl ?_
        refine ol_r (r_move rfl) rfl ?_
        refine ol_call rfl rfl cb23 rfl (fun w1 hb1 hs1 hB1 => Calls.mono (effort_PartOf A x52.at_ (spanL A.ss) _ (hA.at hb1 hB1)) ?_)
        rintro e w2 ⟨rfl, hb2⟩
        refine After.below rfl hb1 hs1 hB1 hb2 ?_
        clear hb2 hB1 hs1 hb1 w2 w1
        refine ol_r (r_move rfl) rfl ?_
        refine ol_r (r_extract rfl rfl) rfl ?_
        refine ol_r (r_extract rfl rfl) rfl ?_
        refine ol_alloc 19 z83 rfl fun b19 => ?_
        refine ol_store (id := 19) rfl rfl rfl rfl sz83 rfl rfl (by first | decide | exact Nat.zero_lt_succ _ | simp) ?_
        refine ol_r (r_assign rfl) rfl ?_
        refine ol_nil (to_k0 (fun _ _ h => h) (hK13 _ _ _ _ _ ?_))
        clear hK13
        refine wp_seq' fun K14 hK14 => ?_
        refine wp_reg ?_
        refine ol_r (r_lda (id := 2) (n := 6) rfl rfl rfl ag57) rfl ?_
        refine ol_r (r_move rfl) rfl ?_
        refine ol_call rfl rfl cb23 rfl (fun w1 hb1 hs1 hB1 => Calls.mono (effort_PartOf A 0 (spanL A.ss) _ (hA.at hb1 hB1)) ?_)
        rintro e w2 ⟨rfl, hb2⟩
        refine After.below rfl hb1 hs1 hB1 hb2 ?_
        clear hb2 hB1 hs1 hb1 w2 w1
        refine ol_r (r_move rfl) rfl ?_
        refine ol_r (r_extract rfl rfl) rfl ?_
        refine ol_r (r_extract rfl rfl) rfl ?_
        refine ol_alloc 21 z83 rfl fun b21 => ?_
        refine ol_store (id := 21) rfl rfl rfl rfl sz83 rfl rfl (by first | decide | exact Nat.zero_lt_succ _ | simp) ?_
        refine ol_r (r_assign rfl) rfl ?_
        refine ol_nil (to_k0 (fun _ _ h => h) (hK14 _ _ _ _ _ ?_))
        clear hK14
        apply wp_seq_cutM (σ := Nat) (fun s => True) (fun s => [(23, .pointer (some ⟨s, 0, none⟩)), (24, .int .i64 (partOfR (yD A.d n x52.at_) 0 (spanL (yD A.d n x52.at_).ss)).2)]) [(2, _), (4, _), (6, _), (7, _), (9, _), (11, _), (13, _), (15, _), (16, _), (17, _), (19, _), (21, _), (22, _)] (fun s => [(23, .blk s (pairs 0 [.int .i64 (partOfR (yD A.d n x52.at_) 0 (spanL (yD A.d n x52.at_).ss)).1.f, .int .i64 (partOfR (yD A.d n x52.at_) 0 (spanL (yD A.d n x52.at_).ss)).1.t, .int .i64 (partOfR (yD A.d n x52.at_) 0 (spanL (yD A.d n x52.at_).ss)).1.way, .int .i64 (partOfR (yD A.d n x52.at_) 0 (spanL (yD A.d n x52.at_).ss)).1.climb, .int .i64 (partOfR (yD A.d n x52.at_) 0 (spanL (yD A.d n x52.at_).ss)).1.pulse, .int .i64 (partOfR (yD A.d n x52.at_) 0 (spanL (yD A.d n x52.at_).ss)).1.power, .int .i64 (partOfR (yD A.d n x52.at_) 0 (spanL (yD A.d n x52.at_).ss)).1.steps, .int .i64 (partOfR (yD A.d n x52.at_) 0 (spanL (yD A.d n x52.at_).ss)).1.pk, .int .i64 (partOfR (yD A.d n x52.at_) 0 (spanL (yD A.d n x52.at_).ss)).1.wk, .int .i64 (partOfR (yD A.d n x52.at_) 0 (spanL (yD A.d n x52.at_).ss)).1.sk]) 83)]) [(2, _), (7, _), (9, _), (11, _), (13, _), (15, _), (17, _), (19, _), (21, _), (1011, _), (1012, _), (1013, _), (1021, _), (1022, _), (1023, _)]
        ·exact (sub_cons rfl (sub_cons rfl (sub_cons rfl (sub_cons rfl (sub_cons rfl (sub_cons rfl (sub_cons rfl (sub_cons rfl (sub_cons rfl (sub_cons rfl (sub_cons rfl (sub_cons rfl (sub_cons rfl sub_nil)))))))))))))
        ·exact (subH_same rfl (subH_same rfl (subH_same rfl (subH_same rfl (subH_same rfl (subH_same rfl (subH_same rfl (subH_same rfl (subH_same rfl (subH_same rfl (subH_same rfl (subH_same rfl (subH_same rfl (subH_same rfl (subH_same rfl subH_nil)))))))))))))))
        ·intro K15 hK15
         refine wp_rega [(999, [(2, _), (7, _), (9, _), (11, _), (13, _), (15, _), (17, _), (19, _), (21, _), (1011, _), (1012, _), (1013, _), (1021, _), (1022, _), (1023, _)])] (by kernel_rfl) ⟨.inr (subH_same rfl (subH_same rfl (subH_same rfl (subH_same rfl (subH_same rfl (subH_same rfl (subH_same rfl (subH_same rfl (subH_same rfl (subH_same rfl (subH_same rfl (subH_same rfl (subH_same rfl (subH_same rfl (subH_same rfl subH_nil))))))))))))))), trivial⟩ ?_
         refine aq_r 0 999 rfl (by kernel_rfl) (by kernel_rfl) (by kernel_rfl) (.head _) (by kernel_rfl) (by kernel_rfl) rfl (r_lda (id := 9) (n := 6) rfl rfl rfl ag57) ?_
         refine aq_r 1 999 rfl (by kernel_rfl) (by kernel_rfl) (by kernel_rfl) (.head _) (by kernel_rfl) (by kernel_rfl) rfl (r_lda (id := 9) (n := 6) rfl rfl rfl ag57) ?_
         refine aq_two (i := 2) (j := 7) (by kernel_rfl) rfl rfl (fun K16 hK16 => ?_) (fun K16 hK16 => ?_)
         ·refine ol_call rfl rfl cb21 rfl (fun w1 hb1 hs1 hB1 => Calls.mono (hSpanD (D := yD A.d n x52.at_) (okD (Sat.rd hs1 (id := 1021) rfl rfl) (Sat.rd hs1 (id := 1022) rfl rfl) (Sat.rd hs1 (id := 1023) rfl rfl) gY)) ?_)
          rintro e w2 ⟨rfl, hb2⟩
          refine After.below rfl hb1 hs1 hB1 hb2 ?_
          clear hb2 hB1 hs1 hb1 w2 w1
          refine ol_nil (to_k0 (fun _ _ h => h) (hK16 _ _ ⟨.inr (by repeat' first | exact subH_nil | refine subH_same rfl ?_ | (refine subH_blk rfl (by repeat' first | exact sub_nil | refine sub_cons rfl ?_) ?_)), trivial⟩ ?_))
          clear hK16
          refine aq_two (i := 3) (j := 7) (by kernel_rfl) rfl rfl (fun K17 hK17 => ?_) (fun K17 hK17 => ?_)
          ·refine ol_call rfl rfl cb23 rfl (fun w1 hb1 hs1 hB1 => Calls.mono (partOfD (D := yD A.d n x52.at_) 0 (spanL (yD A.d n x52.at_).ss) (okD (Sat.rd hs1 (id := 1021) rfl rfl) (Sat.rd hs1 (id := 1022) rfl rfl) (Sat.rd hs1 (id := 1023) rfl rfl) gY)) ?_)
           rintro e w2 ⟨rfl, hb2⟩
           refine After.below rfl hb1 hs1 hB1 hb2 ?_
           clear hb2 hB1 hs1 hb1 w2 w1
           refine ol_nil (to_k0 (fun _ _ h => h) (hK17 _ _ ⟨.inr (by repeat' first | exact subH_nil | refine subH_same rfl ?_ | (refine subH_blk rfl (by repeat' first | exact sub_nil | refine sub_cons rfl ?_) ?_)), trivial⟩ ?_))
           clear hK17
           refine aq_r 4 999 rfl (by kernel_rfl) (by kernel_rfl) (by kernel_rfl) (.head _) (by kernel_rfl) (by kernel_rfl) rfl (r_move rfl) ?_
           refine aq_r 5 999 rfl (by kernel_rfl) (by kernel_rfl) (by kernel_rfl) (.head _) (by kernel_rfl) (by kernel_rfl) rfl (r_extract rfl rfl) ?_
           refine aq_r 6 999 rfl (by kernel_rfl) (by kernel_rfl) (by kernel_rfl) (.head _) (by kernel_rfl) (by kernel_rfl) rfl (r_extract rfl rfl) ?_
           refine aq_one (i := 7) (by kernel_rfl) rfl fun K18 hK18 => ?_
           refine ol_alloc 23 z83 rfl fun b23 => ?_
           refine ol_nil (to_k0 (fun _ _ h => h) (hK18 _ _ ⟨.inr (by repeat' first | exact subH_nil | refine subH_same rfl ?_ | (refine subH_blk rfl (by repeat' first | exact sub_nil | refine sub_cons rfl ?_) ?_)), trivial⟩ ?_))
           clear hK18
           refine aq_one (i := 8) (by kernel_rfl) rfl fun K19 hK19 => ?_
           refine ol_store (id := 23) rfl rfl rfl rfl sz83 rfl rfl (by first | decide | exact Nat.zero_lt_succ _ | simp) ?_
           refine ol_nil (to_k0 (fun _ _ h => h) (hK19 _ _ ⟨.inr (by repeat' first | exact subH_nil | refine subH_same rfl ?_ | (refine subH_blk rfl (by repeat' first | exact sub_nil | refine sub_cons rfl ?_) ?_)), trivial⟩ ?_))
           clear hK19
           refine aq_r 9 999 rfl (by kernel_rfl) (by kernel_rfl) (by kernel_rfl) (.head _) (by kernel_rfl) (by kernel_rfl) rfl (r_assign rfl) ?_
           refine aq_done (by kernel_rfl) ?_
           refine (to_k0 (fun _ _ h => h) (hK15 (b23) _ _ ?_ (sub_cons rfl (sub_cons rfl sub_nil)) (sub_cons rfl (sub_cons rfl (sub_cons rfl (sub_cons rfl (sub_cons rfl (sub_cons rfl (sub_cons rfl (sub_cons rfl (sub_cons rfl (sub_cons rfl (sub_cons rfl (sub_cons rfl (sub_cons rfl sub_nil))))))))))))) (subH_blk rfl (by repeat' first | exact sub_nil | refine sub_cons rfl ?_) subH_nil) (subH_same rfl (subH_same rfl (subH_same rfl (subH_same rfl (subH_same rfl (subH_same rfl (subH_same rfl (subH_same rfl (subH_same rfl (subH_same rfl (subH_same rfl (subH_same rfl (subH_same rfl (subH_same rfl (subH_same rfl subH_nil)))))))))))))))))
           try dsimp only
           all_goals trivial
          ·refine ol_alloc 23 z83 rfl fun b23 => ?_
           refine ol_nil (to_k0 (fun _ _ h => h) (hK17 _ _ ⟨.inr (by repeat' first | exact subH_nil | refine subH_same rfl ?_ | (refine subH_blk rfl (by repeat' first | exact sub_nil | refine sub_cons rfl ?_) ?_)), trivial⟩ ?_))
           clear hK17
           refine aq_one (i := 3) (by kernel_rfl) rfl fun K18 hK18 => ?_
           refine ol_call rfl rfl cb23 rfl (fun w1 hb1 hs1 hB1 => Calls.mono (partOfD (D := yD A.d n x52.at_) 0 (spanL (yD A.d n x52.at_).ss) (okD (Sat.rd hs1 (id := 1021) rfl rfl) (Sat.rd hs1 (id := 1022) rfl rfl) (Sat.rd hs1 (id := 1023) rfl rfl) gY)) ?_)
           rintro e w2 ⟨rfl, hb2⟩
           refine After.below rfl hb1 hs1 hB1 hb2 ?_
           clear hb2 hB1 hs1 hb1 w2 w1
           refine ol_nil (to_k0 (fun _ _ h => h) (hK18 _ _ ⟨.inr (by repeat' first | exact subH_nil | refine subH_same rfl ?_ | (refine subH_blk rfl (by repeat' first | exact sub_nil | refine sub_cons rfl ?_) ?_)), trivial⟩ ?_))
           clear hK18
           refine aq_r 4 999 rfl (by kernel_rfl) (by kernel_rfl) (by kernel_rfl) (.head _) (by kernel_rfl) (by kernel_rfl) rfl (r_move rfl) ?_
           refine aq_r 5 999 rfl (by kernel_rfl) (by kernel_rfl) (by kernel_rfl) (.head _) (by kernel_rfl) (by kernel_rfl) rfl (r_extract rfl rfl) ?_
           refine aq_r 6 999 rfl (by kernel_rfl) (by kernel_rfl) (by kernel_rfl) (.head _) (by kernel_rfl) (by kernel_rfl) rfl (r_extract rfl rfl) ?_
           refine aq_one (i := 8) (by kernel_rfl) rfl fun K19 hK19 => ?_
           refine ol_store (id := 23) rfl rfl rfl rfl sz83 rfl rfl (by first | decide | exact Nat.zero_lt_succ _ | simp) ?_
           refine ol_nil (to_k0 (fun _ _ h => h) (hK19 _ _ ⟨.inr (by repeat' first | exact subH_nil | refine subH_same rfl ?_ | (refine subH_blk rfl (by repeat' first | exact sub_nil | refine sub_cons rfl ?_) ?_)), trivial⟩ ?_))
           clear hK19
           refine aq_r 9 999 rfl (by kernel_rfl) (by kernel_rfl) (by kernel_rfl) (.head _) (by kernel_rfl) (by kernel_rfl) rfl (r_assign rfl) ?_
           refine aq_done (by kernel_rfl) ?_
           refine (to_k0 (fun _ _ h => h) (hK15 (b23) _ _ ?_ (sub_cons rfl (sub_cons rfl sub_nil)) (sub_cons rfl (sub_cons rfl (sub_cons rfl (sub_cons rfl (sub_cons rfl (sub_cons rfl (sub_cons rfl (sub_cons rfl (sub_cons rfl (sub_cons rfl (sub_cons rfl (sub_cons rfl (sub_cons rfl sub_nil))))))))))))) (subH_blk rfl (by repeat' first | exact sub_nil | refine sub_cons rfl ?_) subH_nil) (subH_same rfl (subH_same rfl (subH_same rfl (subH_same rfl (subH_same rfl (subH_same rfl (subH_same rfl (subH_same rfl (subH_same rfl (subH_same rfl (subH_same rfl (subH_same rfl (subH_same rfl (subH_same rfl (subH_same rfl subH_nil)))))))))))))))))
           try dsimp only
           all_goals trivial
         ·refine ol_alloc 23 z83 rfl fun b23 => ?_
          refine ol_nil (to_k0 (fun _ _ h => h) (hK16 _ _ ⟨.inr (by repeat' first | exact subH_nil | refine subH_same rfl ?_ | (refine subH_blk rfl (by repeat' first | exact sub_nil | refine sub_cons rfl ?_) ?_)), trivial⟩ ?_))
          clear hK16
          refine aq_one (i := 2) (by kernel_rfl) rfl fun K17 hK17 => ?_
          refine ol_call rfl rfl cb21 rfl (fun w1 hb1 hs1 hB1 => Calls.mono (hSpanD (D := yD A.d n x52.at_) (okD (Sat.rd hs1 (id := 1021) rfl rfl) (Sat.rd hs1 (id := 1022) rfl rfl) (Sat.rd hs1 (id := 1023) rfl rfl) gY)) ?_)
          rintro e w2 ⟨rfl, hb2⟩
          refine After.below rfl hb1 hs1 hB1 hb2 ?_
          clear hb2 hB1 hs1 hb1 w2 w1
          refine ol_nil (to_k0 (fun _ _ h => h) (hK17 _ _ ⟨.inr (by repeat' first | exact subH_nil | refine subH_same rfl ?_ | (refine subH_blk rfl (by repeat' first | exact sub_nil | refine sub_cons rfl ?_) ?_)), trivial⟩ ?_))
          clear hK17
          refine aq_one (i := 3) (by kernel_rfl) rfl fun K18 hK18 => ?_
          refine ol_call rfl rfl cb23 rfl (fun w1 hb1 hs1 hB1 => Calls.mono (partOfD (D := yD A.d n x52.at_) 0 (spanL (yD A.d n x52.at_).ss) (okD (Sat.rd hs1 (id := 1021) rfl rfl) (Sat.rd hs1 (id := 1022) rfl rfl) (Sat.rd hs1 (id := 1023) rfl rfl) gY)) ?_)
          rintro e w2 ⟨rfl, hb2⟩
          refine After.below rfl hb1 hs1 hB1 hb2 ?_
          clear hb2 hB1 hs1 hb1 w2 w1
          refine ol_nil (to_k0 (fun _ _ h => h) (hK18 _ _ ⟨.inr (by repeat' first | exact subH_nil | refine subH_same rfl ?_ | (refine subH_blk rfl (by repeat' first | exact sub_nil | refine sub_cons rfl ?_) ?_)), trivial⟩ ?_))
          clear hK18
          refine aq_r 4 999 rfl (by kernel_rfl) (by kernel_rfl) (by kernel_rfl) (.head _) (by kernel_rfl) (by kernel_rfl) rfl (r_move rfl) ?_
          refine aq_r 5 999 rfl (by kernel_rfl) (by kernel_rfl) (by kernel_rfl) (.head _) (by kernel_rfl) (by kernel_rfl) rfl (r_extract rfl rfl) ?_
          refine aq_r 6 999 rfl (by kernel_rfl) (by kernel_rfl) (by kernel_rfl) (.head _) (by kernel_rfl) (by kernel_rfl) rfl (r_extract rfl rfl) ?_
          refine aq_one (i := 8) (by kernel_rfl) rfl fun K19 hK19 => ?_
          refine ol_store (id := 23) rfl rfl rfl rfl sz83 rfl rfl (by first | decide | exact Nat.zero_lt_succ _ | simp) ?_
          refine ol_nil (to_k0 (fun _ _ h => h) (hK19 _ _ ⟨.inr (by repeat' first | exact subH_nil | refine subH_same rfl ?_ | (refine subH_blk rfl (by repeat' first | exact sub_nil | refine sub_cons rfl ?_) ?_)), trivial⟩ ?_))
          clear hK19
          refine aq_r 9 999 rfl (by kernel_rfl) (by kernel_rfl) (by kernel_rfl) (.head _) (by kernel_rfl) (by kernel_rfl) rfl (r_assign rfl) ?_
          refine aq_done (by kernel_rfl) ?_
          refine (to_k0 (fun _ _ h => h) (hK15 (b23) _ _ ?_ (sub_cons rfl (sub_cons rfl sub_nil)) (sub_cons rfl (sub_cons rfl (sub_cons rfl (sub_cons rfl (sub_cons rfl (sub_cons rfl (sub_cons rfl (sub_cons rfl (sub_cons rfl (sub_cons rfl (sub_cons rfl (sub_cons rfl (sub_cons rfl sub_nil))))))))))))) (subH_blk rfl (by repeat' first | exact sub_nil | refine sub_cons rfl ?_) subH_nil) (subH_same rfl (subH_same rfl (subH_same rfl (subH_same rfl (subH_same rfl (subH_same rfl (subH_same rfl (subH_same rfl (subH_same rfl (subH_same rfl (subH_same rfl (subH_same rfl (subH_same rfl (subH_same rfl (subH_same rfl subH_nil)))))))))))))))))
          try dsimp only
          all_goals trivial
        ·rintro b23 -
         refine wp_seq' fun K20 hK20 => ?_
         apply wp_seq_cutM (σ := Bool) (fun s => s = false) (fun s => [(199, .bool s)]) [(2, _), (4, _), (6, _), (7, _), (9, _)] (fun s => []) [(2, _), (7, _), (9, _), (11, _), (13, _), (15, _), (17, _), (19, _), (21, _), (23, _), (1011, _), (1012, _), (1013, _), (1021, _), (1022, _), (1023, _)]
         ·exact (sub_cons rfl (sub_cons rfl (sub_cons rfl (sub_cons rfl (sub_cons rfl sub_nil)))))
         ·exact (subH_same rfl (subH_same rfl (subH_same rfl (subH_same rfl (subH_same rfl (subH_same rfl (subH_same rfl (subH_same rfl (subH_same rfl (subH_same rfl (subH_same rfl (subH_same rfl (subH_same rfl (subH_same rfl (subH_same rfl (subH_same rfl subH_nil))))))))))))))))
         ·intro K21 hK21
          refine wp_reg ?_
          refine ol_r (r_move rfl) rfl ?_
          refine ol_r (r_neq rfl rfl) rfl ?_
          refine ol_r (r_move rfl) rfl ?_
          refine ol_split (d := 131) rfl (fun hs131 => ?_) (fun hs131 => ?_)
          ·have phs131 := hs131; try simp only [decide_eq_true_eq, decide_eq_false_iff_not, Bool.not_eq_true', Bool.not_eq_false', Bool.not_true, Bool.not_false] at phs131
           exfalso
           exact phs131 T.c0
          ·have phs131 := hs131; try simp only [decide_eq_true_eq, decide_eq_false_iff_not, Bool.not_eq_true', Bool.not_eq_false', Bool.not_true, Bool.not_false] at phs131
           refine ol_g rfl rfl hs131 ?_
           refine ol_r (r_move rfl) rfl ?_
           refine ol_g rfl rfl hs131 ?_
           refine ol_r (r_neq rfl rfl) rfl ?_
           refine ol_r (r_pickF rfl hs131 rfl) rfl ?_
           refine ol_r (r_move rfl) rfl ?_
           refine ol_split (d := 135) rfl (fun hs135 => ?_) (fun hs135 => ?_)
           ·have phs135 := hs135; try simp only [decide_eq_true_eq, decide_eq_false_iff_not, Bool.not_eq_true', Bool.not_eq_false', Bool.not_true, Bool.not_false] at phs135
            exfalso
            exact phs135 T.p0
           ·have phs135 := hs135; try simp only [decide_eq_true_eq, decide_eq_false_iff_not, Bool.not_eq_true', Bool.not_eq_false', Bool.not_true, Bool.not_false] at phs135
            refine ol_g rfl rfl hs135 ?_
            refine ol_r (r_move rfl) rfl ?_
            refine ol_g rfl rfl hs135 ?_
            refine ol_r (r_neq rfl rfl) rfl ?_
            refine ol_r (r_pickF rfl hs135 rfl) rfl ?_
            refine ol_r (r_move rfl) rfl ?_
            refine ol_split (d := 139) rfl (fun hs139 => ?_) (fun hs139 => ?_)
            ·have phs139 := hs139; try simp only [decide_eq_true_eq, decide_eq_false_iff_not, Bool.not_eq_true', Bool.not_eq_false', Bool.not_true, Bool.not_false] at phs139
             exfalso
             exact phs139 T.y0
            ·have phs139 := hs139; try simp only [decide_eq_true_eq, decide_eq_false_iff_not, Bool.not_eq_true', Bool.not_eq_false', Bool.not_true, Bool.not_false] at phs139
             refine ol_g rfl rfl hs139 ?_
             refine ol_r (r_fa (o' := 0) rfl fl79_0 rfl) rfl ?_
             refine ol_g rfl rfl hs139 ?_
             refine ol_r (r_ld (id := 11) rfl rfl rfl sc3) rfl ?_
             refine ol_g rfl rfl hs139 ?_
             refine ol_r (r_fa (o' := 0) rfl fl79_0 rfl) rfl ?_
             refine ol_g rfl rfl hs139 ?_
             refine ol_r (r_ld (id := 13) rfl rfl rfl sc3) rfl ?_
             refine ol_g rfl rfl hs139 ?_
             refine ol_r (r_add rfl rfl T.upB) rfl ?_
             refine ol_g rfl rfl hs139 ?_
             refine ol_r (r_fa (o' := 0) rfl fl79_0 rfl) rfl ?_
             refine ol_g rfl rfl hs139 ?_
             refine ol_r (r_ld (id := 15) rfl rfl rfl sc3) rfl ?_
             refine ol_g rfl rfl hs139 ?_
             refine ol_r (r_neq rfl rfl) rfl ?_
             refine ol_r (r_pickF rfl hs139 rfl) rfl ?_
             refine ol_r (r_move rfl) rfl ?_
             refine ol_split (d := 149) rfl (fun hs149 => ?_) (fun hs149 => ?_)
             ·have phs149 := hs149; try simp only [decide_eq_true_eq, decide_eq_false_iff_not, Bool.not_eq_true', Bool.not_eq_false', Bool.not_true, Bool.not_false] at phs149
              exfalso
              exact phs149 T.upE
             ·have phs149 := hs149; try simp only [decide_eq_true_eq, decide_eq_false_iff_not, Bool.not_eq_true', Bool.not_eq_false', Bool.not_true, Bool.not_false] at phs149
              refine ol_g rfl rfl hs149 ?_
              refine ol_r (r_fa (o' := 1) rfl fl79_1 rfl) rfl ?_
              refine ol_g rfl rfl hs149 ?_
              refine ol_r (r_ld (id := 11) rfl rfl rfl sc3) rfl ?_
              refine ol_g rfl rfl hs149 ?_
              refine ol_r (r_fa (o' := 1) rfl fl79_1 rfl) rfl ?_
              refine ol_g rfl rfl hs149 ?_
              refine ol_r (r_ld (id := 13) rfl rfl rfl sc3) rfl ?_
              refine ol_g rfl rfl hs149 ?_
              refine ol_r (r_add rfl rfl T.dnB) rfl ?_
              refine ol_g rfl rfl hs149 ?_
              refine ol_r (r_fa (o' := 1) rfl fl79_1 rfl) rfl ?_
              refine ol_g rfl rfl hs149 ?_
              refine ol_r (r_ld (id := 15) rfl rfl rfl sc3) rfl ?_
              refine ol_g rfl rfl hs149 ?_
              refine ol_r (r_neq rfl rfl) rfl ?_
              refine ol_r (r_pickF rfl hs149 rfl) rfl ?_
              refine ol_r (r_move rfl) rfl ?_
              refine ol_split (d := 159) rfl (fun hs159 => ?_) (fun hs159 => ?_)
              ·have phs159 := hs159; try simp only [decide_eq_true_eq, decide_eq_false_iff_not, Bool.not_eq_true', Bool.not_eq_false', Bool.not_true, Bool.not_false] at phs159
               exfalso
               exact phs159 T.dnE
              ·have phs159 := hs159; try simp only [decide_eq_true_eq, decide_eq_false_iff_not, Bool.not_eq_true', Bool.not_eq_false', Bool.not_true, Bool.not_false] at phs159
               refine ol_g rfl rfl hs159 ?_
               refine ol_r (r_fa (o' := 2) rfl fl83_2 rfl) rfl ?_
               refine ol_g rfl rfl hs159 ?_
               refine ol_r (r_ld (id := 17) rfl rfl rfl sc3) rfl ?_
               refine ol_g rfl rfl hs159 ?_
               refine ol_r (r_fa (o' := 2) rfl fl83_2 rfl) rfl ?_
               refine ol_g rfl rfl hs159 ?_
               refine ol_r (r_ld (id := 19) rfl rfl rfl sc3) rfl ?_
               refine ol_g rfl rfl hs159 ?_
               refine ol_r (r_add rfl rfl T.wB) rfl ?_
               refine ol_g rfl rfl hs159 ?_
               refine ol_r (r_fa (o' := 2) rfl fl83_2 rfl) rfl ?_
               refine ol_g rfl rfl hs159 ?_
               refine ol_r (r_ld (id := 21) rfl rfl rfl sc3) rfl ?_
               refine ol_g rfl rfl hs159 ?_
               refine ol_r (r_neq rfl rfl) rfl ?_
               refine ol_r (r_pickF rfl hs159 rfl) rfl ?_
               refine ol_r (r_move rfl) rfl ?_
               refine ol_split (d := 169) rfl (fun hs169 => ?_) (fun hs169 => ?_)
               ·have phs169 := hs169; try simp only [decide_eq_true_eq, decide_eq_false_iff_not, Bool.not_eq_true', Bool.not_eq_false', Bool.not_true, Bool.not_false] at phs169
                exfalso
                exact phs169 T.wE
               ·have phs169 := hs169; try simp only [decide_eq_true_eq, decide_eq_false_iff_not, Bool.not_eq_true', Bool.not_eq_false', Bool.not_true, Bool.not_false] at phs169
                refine ol_g rfl rfl hs169 ?_
                refine ol_r (r_fa (o' := 3) rfl fl83_3 rfl) rfl ?_
                refine ol_g rfl rfl hs169 ?_
                refine ol_r (r_ld (id := 17) rfl rfl rfl sc3) rfl ?_
                refine ol_g rfl rfl hs169 ?_
                refine ol_r (r_fa (o' := 3) rfl fl83_3 rfl) rfl ?_
                refine ol_g rfl rfl hs169 ?_
                refine ol_r (r_ld (id := 19) rfl rfl rfl sc3) rfl ?_
                refine ol_g rfl rfl hs169 ?_
                refine ol_r (r_add rfl rfl T.kB) rfl ?_
                refine ol_g rfl rfl hs169 ?_
                refine ol_r (r_fa (o' := 3) rfl fl83_3 rfl) rfl ?_
                refine ol_g rfl rfl hs169 ?_
                refine ol_r (r_ld (id := 21) rfl rfl rfl sc3) rfl ?_
                refine ol_g rfl rfl hs169 ?_
                refine ol_r (r_neq rfl rfl) rfl ?_
                refine ol_r (r_pickF rfl hs169 rfl) rfl ?_
                refine ol_r (r_move rfl) rfl ?_
                refine ol_split (d := 179) rfl (fun hs179 => ?_) (fun hs179 => ?_)
                ·have phs179 := hs179; try simp only [decide_eq_true_eq, decide_eq_false_iff_not, Bool.not_eq_true', Bool.not_eq_false', Bool.not_true, Bool.not_false] at phs179
                 exfalso
                 exact phs179 T.kE
                ·have phs179 := hs179; try simp only [decide_eq_true_eq, decide_eq_false_iff_not, Bool.not_eq_true', Bool.not_eq_false', Bool.not_true, Bool.not_false] at phs179
                 refine ol_g rfl rfl hs179 ?_
                 refine ol_r (r_fa (o' := 2) rfl fl83_2 rfl) rfl ?_
                 refine ol_g rfl rfl hs179 ?_
                 refine ol_r (r_ld (id := 23) rfl rfl rfl sc3) rfl ?_
                 refine ol_g rfl rfl hs179 ?_
                 refine ol_r (r_fa (o' := 2) rfl fl83_2 rfl) rfl ?_
                 refine ol_g rfl rfl hs179 ?_
                 refine ol_r (r_ld (id := 19) rfl rfl rfl sc3) rfl ?_
                 refine ol_g rfl rfl hs179 ?_
                 refine ol_r (r_neq rfl rfl) rfl ?_
                 refine ol_r (r_pickF rfl hs179 rfl) rfl ?_
                 refine ol_r (r_move rfl) rfl ?_
                 refine ol_split (d := 186) rfl (fun hs186 => ?_) (fun hs186 => ?_)
                 ·have phs186 := hs186; try simp only [decide_eq_true_eq, decide_eq_false_iff_not, Bool.not_eq_true', Bool.not_eq_false', Bool.not_true, Bool.not_false] at phs186
                  exfalso
                  exact phs186 T.yw
                 ·have phs186 := hs186; try simp only [decide_eq_true_eq, decide_eq_false_iff_not, Bool.not_eq_true', Bool.not_eq_false', Bool.not_true, Bool.not_false] at phs186
                  refine ol_g rfl rfl hs186 ?_
                  refine ol_r (r_fa (o' := 7) rfl fl83_7 rfl) rfl ?_
                  refine ol_g rfl rfl hs186 ?_
                  refine ol_r (r_ld (id := 23) rfl rfl rfl sc3) rfl ?_
                  refine ol_g rfl rfl hs186 ?_
                  refine ol_r (r_fa (o' := 7) rfl fl83_7 rfl) rfl ?_
                  refine ol_g rfl rfl hs186 ?_
                  refine ol_r (r_ld (id := 19) rfl rfl rfl sc3) rfl ?_
                  refine ol_g rfl rfl hs186 ?_
                  refine ol_r (r_neq rfl rfl) rfl ?_
                  refine ol_r (r_pickF rfl hs186 rfl) rfl ?_
                  refine ol_r (r_move rfl) rfl ?_
                  refine ol_split (d := 193) rfl (fun hs193 => ?_) (fun hs193 => ?_)
                  ·have phs193 := hs193; try simp only [decide_eq_true_eq, decide_eq_false_iff_not, Bool.not_eq_true', Bool.not_eq_false', Bool.not_true, Bool.not_false] at phs193
                   exfalso
                   exact phs193 T.yk
                  ·have phs193 := hs193; try simp only [decide_eq_true_eq, decide_eq_false_iff_not, Bool.not_eq_true', Bool.not_eq_false', Bool.not_true, Bool.not_false] at phs193
                   refine ol_g rfl rfl hs193 ?_
                   refine ol_r (r_fa (o' := 4) rfl fl83_4 rfl) rfl ?_
                   refine ol_g rfl rfl hs193 ?_
                   refine ol_r (r_ld (id := 23) rfl rfl rfl sc3) rfl ?_
                   refine ol_g rfl rfl hs193 ?_
                   refine ol_r (r_fa (o' := 4) rfl fl83_4 rfl) rfl ?_
                   refine ol_g rfl rfl hs193 ?_
                   refine ol_r (r_ld (id := 19) rfl rfl rfl sc3) rfl ?_
                   refine ol_g rfl rfl hs193 ?_
                   refine ol_r (r_neq rfl rfl) rfl ?_
                   refine ol_r (r_pickF rfl hs193 rfl) rfl ?_
                   refine ol_nil (to_k0 (fun _ _ h => h) (hK21 (_) _ _ ?_ (sub_cons rfl sub_nil) (sub_cons rfl (sub_cons rfl (sub_cons rfl (sub_cons rfl (sub_cons rfl sub_nil))))) subH_nil (subH_same rfl (subH_same rfl (subH_same rfl (subH_same rfl (subH_same rfl (subH_same rfl (subH_same rfl (subH_same rfl (subH_same rfl (subH_same rfl (subH_same rfl (subH_same rfl (subH_same rfl (subH_same rfl (subH_same rfl (subH_same rfl subH_nil))))))))))))))))))
                   try dsimp only
                   exact decide_eq_false (fun h => h T.yp)
         ·rintro b rfl
          first | refine wp_condD rfl (fun hc199 => ?_) (fun hc199 => ?_) | refine wp_condN rfl (fun hc199 => ?_) (fun hc199 => ?_) | refine wp_condNB rfl (fun hc199 => ?_) (fun hc199 => ?_) | refine wp_cond' rfl (fun hc199 => ?_) (fun hc199 => ?_)
          ·exfalso
           exact Bool.noConfusion hc199
          ·refine wp_skip' (to_k0 (fun _ _ h => h) (hK20 _ _ _ _ _ ?_))
           clear hK20
           refine wp_seq' fun K22 hK22 => ?_
           refine wp_reg ?_
           refine ol_r (r_lda (id := 7) (n := 6) rfl rfl rfl ag57) rfl ?_
           refine ol_r (r_lda (id := 9) (n := 6) rfl rfl rfl ag57) rfl ?_
           refine ol_call rfl rfl cb24 rfl (fun w1 hb1 hs1 hB1 => ?_)
           refine Calls.mono (joinDD (D := xD A.d n) (E := yD A.d n x52.at_) (okD (Sat.rd hs1 (id := 1011) rfl rfl) (Sat.rd hs1 (id := 1012) rfl rfl) (Sat.rd hs1 (id := 1013) rfl rfl) gX) (okD (Sat.rd hs1 (id := 1021) rfl rfl) (Sat.rd hs1 (id := 1022) rfl rfl) (Sat.rd hs1 (id := 1023) rfl rfl) gY)) ?_
           rintro e w2 ⟨⟨ja, jn, jc, ka, kn, kc, ma, mn, mc, rfl, hs2⟩, hb2⟩
           change Sat _ _ [(1001, .row ja jn jc (encSmp.enc (joinR (xD A.d n) (yD A.d n x52.at_)).1.ss) _ 7), (1002, .row ka kn kc (encLap.enc (joinR (xD A.d n) (yD A.d n x52.at_)).1.ls) _ 3), (1003, .row ma mn mc (encStr.enc (joinR (xD A.d n) (yD A.d n x52.at_)).1.ts) _ 1)] at hs2
           rw [hj] at hs2 ⊢
           have hz1 : jn = A.sn := by have h := (Sat.rd hs2 (E := encSmp) (id := 1001) rfl rfl).len; rw [hj2] at h; omega
           have hz2 : mn = A.tn := by have h := (Sat.rd hs2 (E := encStr) (id := 1003) rfl rfl).len; rw [hj3] at h; have := hA.t.len; omega
           refine After.more rfl hb1 hs1 hB1 hb2 (hs2.three 1001 1002 1003 1031 1032 1033 (by decide) (by decide) (by decide) rfl rfl rfl (Ent.le_refl _) (Ent.le_refl _) (Ent.le_refl _)) ?_
           clear hs2 hb2 hB1 hs1 hb1 w2 w1
           refine ol_r (r_move rfl) rfl ?_
           refine ol_r (r_extract rfl rfl) rfl ?_
           refine ol_r (r_extract rfl rfl) rfl ?_
           refine ol_alloc 25 z57 rfl fun b25 => ?_
           refine ol_store (id := 25) rfl rfl rfl rfl sz57 rfl rfl (by first | decide | exact Nat.zero_lt_succ _ | simp) ?_
           refine ol_r (r_assign rfl) rfl ?_
           refine ol_nil (to_k0 (fun _ _ h => h) (hK22 _ _ _ _ _ ?_))
           clear hK22
           refine WP.sub (law_len_18 A n x52 w hA T d hj1 hj2 hj3 gX gY _ _ _ _ _ _ _ _ _ _ _ _ _ _ _ _ _ _ _ _ _ _ _ _ _ _ _ _ _ _ _ hz1 hz2 Q hQ) (by repeat' first | exact sub_nil | refine sub_cons rfl ?_) (by repeat' first | exact subH_nil | refine subH_same rfl ?_ | (refine subH_blk rfl (by repeat' first | exact sub_nil | refine sub_cons rfl ?_) ?_))
theorem law_len_out (A : ActV) (k : Int) (w : World) (hA : A.Ok w.heap.size w) (hno : ¬(chkA A.d = 0 ∧ 1 ≤ k ∧ k + 1 < A.ss.length ∧ A.ls.length < 200)) :
    Calls Try.prog 5 #[.agg #[.string A.name, .int .i64 A.sport, .int .i64 A.start, .slice A.sa A.sn A.sc, .slice A.la A.ln A.lc, .slice A.ta A.tn A.tc], .int .i64 k] w fun e w' => e = .returned (.bool true) ∧ Below w.heap.size w w' := by
  have hsn := hA.s.len
  have hln := hA.l.len
  have hfit := hA.s.fit
  refine enterQ (N := 251) (C := fun _ => True) (H := []) (B := w.heap.size) (args := [_, _]) Try.func5 rfl rfl rfl (Nat.le_refl _) (Sat.nil _ _) fun Q hQ => ?_
  refine wp_seq' fun K1 hK1 => ?_
  refine wp_reg ?_
  refine ol_box 2 rfl rfl rfl fun b2 => ?_
  refine ol_r (r_assign rfl) rfl ?_
  refine ol_nil (to_k0 (fun _ _ h => h) (hK1 _ _ _ _ _ ?_))
  clear hK1
  refine wp_seq' fun K2 hK2 => ?_
  refine wp_seq' fun K3 hK3 => ?_
  refine wp_reg ?_
  refine ol_r (r_lda (id := 2) (n := 6) rfl rfl rfl ag57) rfl ?_
  refine ol_call rfl rfl cb20 rfl (fun w1 hb1 hs1 hB1 => Calls.mono (record_Check A _ (hA.at hb1 hB1)) ?_)
  rintro e w2 ⟨rfl, hb2⟩
  refine After.below rfl hb1 hs1 hB1 hb2 ?_
  clear hb2 hB1 hs1 hb1 w2 w1
  refine ol_r (r_neq rfl rfl) rfl ?_
  refine ol_r (r_move rfl) rfl ?_
  refine ol_split (d := 30) rfl (fun hs30 => ?_) (fun hs30 => ?_)
  ·have phs30 := hs30; try simp only [decide_eq_true_eq, decide_eq_false_iff_not, Bool.not_eq_true', Bool.not_eq_false', Bool.not_true, Bool.not_false] at phs30
   refine ol_s rfl rfl hs30 rfl ?_
   refine ol_s rfl rfl hs30 rfl ?_
   refine ol_r (r_pickT rfl hs30 rfl) rfl ?_
   refine ol_r (r_move rfl) rfl ?_
   refine ol_s rfl rfl rfl rfl ?_
   refine ol_s rfl rfl rfl rfl ?_
   refine ol_s rfl rfl rfl rfl ?_
   refine ol_s rfl rfl rfl rfl ?_
   refine ol_s rfl rfl rfl rfl ?_
   refine ol_s rfl rfl rfl rfl ?_
   refine ol_r (r_pickT rfl rfl rfl) rfl ?_
   refine ol_r (r_move rfl) rfl ?_
   refine ol_s rfl rfl rfl rfl ?_
   refine ol_s rfl rfl rfl rfl ?_
   refine ol_s rfl rfl rfl rfl ?_
   refine ol_s rfl rfl rfl rfl ?_
   refine ol_r (r_pickT rfl rfl rfl) rfl ?_
   refine ol_nil (to_k0 (fun _ _ h => h) (hK3 _ _ _ _ _ ?_))
   clear hK3
   refine wp_condT rfl ?_
   refine wp_seq' fun K4 hK4 => ?_
   refine wp_reg ?_
   refine ol_call rfl rfl cb7 rfl (fun w1 hb1 hs1 hB1 => Calls.mono (top_told _) ?_)
   rintro e w2 ⟨rfl, hb2⟩
   refine After.below rfl hb1 hs1 hB1 hb2 ?_
   clear hb2 hB1 hs1 hb1 w2 w1
   refine ol_r (r_assign rfl) rfl ?_
   refine ol_nil (to_k0 (fun _ _ h => h) (hK4 _ _ _ _ _ ?_))
   clear hK4
   refine hQ.ret (rvs1 (rv_t rfl)) (fun _ _ h => h) fun w hb hs hB hkd => ?_
   exact ⟨rfl, hb⟩
  ·have phs30 := hs30; try simp only [decide_eq_true_eq, decide_eq_false_iff_not, Bool.not_eq_true', Bool.not_eq_false', Bool.not_true, Bool.not_false] at phs30
   refine ol_g rfl rfl hs30 ?_
   refine ol_r (r_move rfl) rfl ?_
   refine ol_g rfl rfl hs30 ?_
   refine ol_r (r_lss rfl rfl) rfl ?_
   refine ol_r (r_pickF rfl hs30 rfl) rfl ?_
   refine ol_r (r_move rfl) rfl ?_
   refine ol_split (d := 34) rfl (fun hs34 => ?_) (fun hs34 => ?_)
   ·have phs34 := hs34; try simp only [decide_eq_true_eq, decide_eq_false_iff_not, Bool.not_eq_true', Bool.not_eq_false', Bool.not_true, Bool.not_false] at phs34
    refine ol_s rfl rfl hs34 rfl ?_
    refine ol_s rfl rfl hs34 rfl ?_
    refine ol_s rfl rfl hs34 rfl ?_
    refine ol_s rfl rfl hs34 rfl ?_
    refine ol_s rfl rfl hs34 rfl ?_
    refine ol_s rfl rfl hs34 rfl ?_
    refine ol_r (r_pickT rfl hs34 rfl) rfl ?_
    refine ol_r (r_move rfl) rfl ?_
    refine ol_s rfl rfl rfl rfl ?_
    refine ol_s rfl rfl rfl rfl ?_
    refine ol_s rfl rfl rfl rfl ?_
    refine ol_s rfl rfl rfl rfl ?_
    refine ol_r (r_pickT rfl rfl rfl) rfl ?_
    refine ol_nil (to_k0 (fun _ _ h => h) (hK3 _ _ _ _ _ ?_))
    clear hK3
    refine wp_condT rfl ?_
    refine wp_seq' fun K5 hK5 => ?_
    refine wp_reg ?_
    refine ol_call rfl rfl cb7 rfl (fun w1 hb1 hs1 hB1 => Calls.mono (top_told _) ?_)
    rintro e w2 ⟨rfl, hb2⟩
    refine After.below rfl hb1 hs1 hB1 hb2 ?_
    clear hb2 hB1 hs1 hb1 w2 w1
    refine ol_r (r_assign rfl) rfl ?_
    refine ol_nil (to_k0 (fun _ _ h => h) (hK5 _ _ _ _ _ ?_))
    clear hK5
    refine hQ.ret (rvs1 (rv_t rfl)) (fun _ _ h => h) fun w hb hs hB hkd => ?_
    exact ⟨rfl, hb⟩
   ·have phs34 := hs34; try simp only [decide_eq_true_eq, decide_eq_false_iff_not, Bool.not_eq_true', Bool.not_eq_false', Bool.not_true, Bool.not_false] at phs34
    refine ol_g rfl rfl hs34 ?_
    refine ol_r (r_move rfl) rfl ?_
    refine ol_g rfl rfl hs34 ?_
    refine ol_r (r_fa (o' := 3) rfl fl57_3 rfl) rfl ?_
    refine ol_g rfl rfl hs34 ?_
    refine ol_r (r_ld (id := 2) rfl rfl rfl sc53) rfl ?_
    refine ol_g rfl rfl hs34 ?_
    refine ol_r (r_len rfl sl53) rfl ?_
    refine ol_g rfl rfl hs34 ?_
    refine ol_r (r_sub rfl rfl (by omega)) rfl ?_
    refine ol_g rfl rfl hs34 ?_
    refine ol_r (r_geq rfl rfl) rfl ?_
    refine ol_r (r_pickF rfl hs34 rfl) rfl ?_
    refine ol_r (r_move rfl) rfl ?_
    refine ol_split (d := 42) rfl (fun hs42 => ?_) (fun hs42 => ?_)
    ·have phs42 := hs42; try simp only [decide_eq_true_eq, decide_eq_false_iff_not, Bool.not_eq_true', Bool.not_eq_false', Bool.not_true, Bool.not_false] at phs42
     refine ol_s rfl rfl hs42 rfl ?_
     refine ol_s rfl rfl hs42 rfl ?_
     refine ol_s rfl rfl hs42 rfl ?_
     refine ol_s rfl rfl hs42 rfl ?_
     refine ol_r (r_pickT rfl hs42 rfl) rfl ?_
     refine ol_nil (to_k0 (fun _ _ h => h) (hK3 _ _ _ _ _ ?_))
     clear hK3
     refine wp_condT rfl ?_
     refine wp_seq' fun K6 hK6 => ?_
     refine wp_reg ?_
     refine ol_call rfl rfl cb7 rfl (fun w1 hb1 hs1 hB1 => Calls.mono (top_told _) ?_)
     rintro e w2 ⟨rfl, hb2⟩
     refine After.below rfl hb1 hs1 hB1 hb2 ?_
     clear hb2 hB1 hs1 hb1 w2 w1
     refine ol_r (r_assign rfl) rfl ?_
     refine ol_nil (to_k0 (fun _ _ h => h) (hK6 _ _ _ _ _ ?_))
     clear hK6
     refine hQ.ret (rvs1 (rv_t rfl)) (fun _ _ h => h) fun w hb hs hB hkd => ?_
     exact ⟨rfl, hb⟩
    ·have phs42 := hs42; try simp only [decide_eq_true_eq, decide_eq_false_iff_not, Bool.not_eq_true', Bool.not_eq_false', Bool.not_true, Bool.not_false] at phs42
     refine ol_g rfl rfl hs42 ?_
     refine ol_r (r_fa (o' := 4) rfl fl57_4 rfl) rfl ?_
     refine ol_g rfl rfl hs42 ?_
     refine ol_r (r_ld (id := 2) rfl rfl rfl sc54) rfl ?_
     refine ol_g rfl rfl hs42 ?_
     refine ol_r (r_len rfl sl54) rfl ?_
     refine ol_g rfl rfl hs42 ?_
     refine ol_r (r_geq rfl rfl) rfl ?_
     refine ol_r (r_pickF rfl hs42 rfl) rfl ?_
     refine ol_nil (to_k0 (fun _ _ h => h) (hK3 _ _ _ _ _ ?_))
     clear hK3
     first | refine wp_condD rfl (fun hc47 => ?_) (fun hc47 => ?_) | refine wp_condN rfl (fun hc47 => ?_) (fun hc47 => ?_) | refine wp_condNB rfl (fun hc47 => ?_) (fun hc47 => ?_) | refine wp_cond' rfl (fun hc47 => ?_) (fun hc47 => ?_)
     ·refine wp_seq' fun K7 hK7 => ?_
      refine wp_reg ?_
      refine ol_call rfl rfl cb7 rfl (fun w1 hb1 hs1 hB1 => Calls.mono (top_told _) ?_)
      rintro e w2 ⟨rfl, hb2⟩
      refine After.below rfl hb1 hs1 hB1 hb2 ?_
      clear hb2 hB1 hs1 hb1 w2 w1
      refine ol_r (r_assign rfl) rfl ?_
      refine ol_nil (to_k0 (fun _ _ h => h) (hK7 _ _ _ _ _ ?_))
      clear hK7
      refine hQ.ret (rvs1 (rv_t rfl)) (fun _ _ h => h) fun w hb hs hB hkd => ?_
      exact ⟨rfl, hb⟩
     ·exfalso
      exact hno ⟨Decidable.not_not.1 phs30, by omega, by omega, by omega⟩
theorem law_lengths (A : ActV) (k : Int) (w : World) (hA : A.Ok w.heap.size w) :
    Calls Try.prog 5 #[.agg #[.string A.name, .int .i64 A.sport, .int .i64 A.start, .slice A.sa A.sn A.sc, .slice A.la A.ln A.lc, .slice A.ta A.tn A.tc], .int .i64 k] w fun e w' => e = .returned (.bool true) ∧ Below w.heap.size w w' := by
  by_cases hC : chkA A.d = 0 ∧ 1 ≤ k ∧ k + 1 < A.ss.length ∧ A.ls.length < 200
  · obtain ⟨hc, hk1, hk2, hl2⟩ := hC
    obtain ⟨n, rfl⟩ := Int.eq_ofNat_of_zero_le (show 0 ≤ k by omega)
    obtain ⟨p, hp⟩ : ∃ p, A.ss[n]? = some p := ⟨_, List.getElem?_eq_getElem (by omega)⟩
    have hW : CutW A.d n p := ⟨goodA hc, hp, by omega, by show n + 1 < A.ss.length; omega, hl2⟩
    exact law_len_in A n p w hA (topF hW) hW.join
  · exact law_len_out A k w hA hC
end Go.Proofs.Ytfbmkepogcimlaa
