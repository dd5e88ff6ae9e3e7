/-
  Join: the names of both, and the program.
-/
import Derived.Test.YtogcclagmobkiaaSortC
import Derived.Test.YtogcclagmobkiaaJoinH
namespace Go.Proofs.Ytogcclagmobkiaa
open Go Go.RowKit Hx
set_option linter.unusedVariables false
set_option linter.unusedSimpArgs false
set_option maxRecDepth 8000
theorem track_Join (A D : ActV) (w : World) (hA : A.Ok w.heap.size w) (hD : D.Ok w.heap.size w) :
    Calls Try.prog 25 #[.agg #[.string A.name, .int .i64 A.sport, .int .i64 A.start, .slice A.sa A.sn A.sc, .slice A.la A.ln A.lc, .slice A.ta A.tn A.tc], .agg #[.string D.name, .int .i64 D.sport, .int .i64 D.start, .slice D.sa D.sn D.sc, .slice D.la D.ln D.lc, .slice D.ta D.tn D.tc]] w fun e w' => OutA w.heap.size w' (joinR A.d D.d) e ∧ Below w.heap.size w w' := by
  have hsn := hA.s.len
  have hln := hA.l.len
  have htn := hA.t.len
  have hsm := hD.s.len
  have hlm := hD.l.len
  have htm := hD.t.len
  refine enterQ (N := 146) (C := fun _ => True) (H := []) (B := w.heap.size) (args := [_, _]) Try.func25 rfl rfl rfl (Nat.le_refl _) (Sat.nil _ _) fun Q hQ => ?_
  refine wp_seq' fun K1 hK1 => ?_
  refine wp_reg ?_
  refine ol_box 2 rfl rfl rfl fun b2 => ?_
  refine ol_box 3 rfl rfl rfl fun b3 => ?_
  refine ol_alloc 4 z26 rfl fun b4 => ?_
  refine ol_r (r_assign rfl) rfl ?_
  refine ol_nil (to_k0 (fun _ _ h => h) (hK1 _ _ _ _ _ ?_))
  clear hK1
  refine wp_seq' fun K2 hK2 => ?_
  refine wp_seq' fun K3 hK3 => ?_
  refine wp_rega [(999, [(2, _), (3, _), (4, _)])] (by kernel_rfl) ⟨.inr (subH_same rfl (subH_same rfl (subH_same rfl subH_nil))), trivial⟩ ?_
  refine aq_r 0 999 rfl (by kernel_rfl) (by kernel_rfl) (by kernel_rfl) (.head _) (by kernel_rfl) (by kernel_rfl) rfl (r_lda (id := 2) (n := 6) rfl rfl rfl ag26) ?_
  refine aq_r 2 999 rfl (by kernel_rfl) (by kernel_rfl) (by kernel_rfl) (.head _) (by kernel_rfl) (by kernel_rfl) rfl (r_lda (id := 3) (n := 6) rfl rfl rfl ag26) ?_
  refine aq_one (i := 1) (by kernel_rfl) rfl fun K4 hK4 => ?_
  refine ol_call rfl rfl cb40 rfl (fun w1 hb1 hs1 hB1 => Calls.mono (record_Check A _ (hA.at hb1 hB1)) ?_)
  rintro e w2 ⟨rfl, hb2⟩
  refine After.below rfl hb1 hs1 hB1 hb2 ?_
  clear hb2 hB1 hs1 hb1 w2 w1
  refine ol_nil (to_k0 (fun _ _ h => h) (hK4 _ _ ⟨.inr (by repeat' first | exact subH_nil | refine subH_same rfl ?_ | (refine subH_blk rfl (by repeat' first | exact sub_nil | refine sub_cons rfl ?_) ?_)), trivial⟩ ?_))
  clear hK4
  refine aq_one (i := 3) (by kernel_rfl) rfl fun K5 hK5 => ?_
  refine ol_call rfl rfl cb40 rfl (fun w1 hb1 hs1 hB1 => Calls.mono (record_Check D _ (hD.at hb1 hB1)) ?_)
  rintro e w2 ⟨rfl, hb2⟩
  refine After.below rfl hb1 hs1 hB1 hb2 ?_
  clear hb2 hB1 hs1 hb1 w2 w1
  refine ol_nil (to_k0 (fun _ _ h => h) (hK5 _ _ ⟨.inr (by repeat' first | exact subH_nil | refine subH_same rfl ?_ | (refine subH_blk rfl (by repeat' first | exact sub_nil | refine sub_cons rfl ?_) ?_)), trivial⟩ ?_))
  clear hK5
  refine aq_one (i := 4) (by kernel_rfl) rfl fun K6 hK6 => ?_
  refine ol_bsN 19 rfl rw122 rfl rfl (fun _ => by kernel_rfl) rfl fun a19 => ?_
  refine ol_nil (to_k0 (fun _ _ h => h) (hK6 _ _ ⟨.inr (by repeat' first | exact subH_nil | refine subH_same rfl ?_ | (refine subH_blk rfl (by repeat' first | exact sub_nil | refine sub_cons rfl ?_) ?_)), trivial⟩ ?_))
  clear hK6
  refine aq_one (i := 5) (by kernel_rfl) rfl fun K7 hK7 => ?_
  refine ol_call rfl rfl cb67 rfl (fun w1 hb1 hs1 hB1 => Calls.mono (cmp_Or _ _ _ [chkA A.d, chkA D.d] _ (Sat.rd hs1 (E := encI) (id := 19) rfl rfl)) ?_)
  rintro e w2 ⟨rfl, hb2⟩
  refine After.below rfl hb1 hs1 hB1 hb2 ?_
  clear hb2 hB1 hs1 hb1 w2 w1
  refine ol_nil (to_k0 (fun _ _ h => h) (hK7 _ _ ⟨.inr (by repeat' first | exact subH_nil | refine subH_same rfl ?_ | (refine subH_blk rfl (by repeat' first | exact sub_nil | refine sub_cons rfl ?_) ?_)), trivial⟩ ?_))
  clear hK7
  refine aq_r 6 999 rfl (by kernel_rfl) (by kernel_rfl) (by kernel_rfl) (.head _) (by kernel_rfl) (by kernel_rfl) rfl (r_assign rfl) ?_
  refine aq_done (by kernel_rfl) ?_
  refine (to_k0 (fun _ _ h => h) (hK3 _ _ _ _ _ ?_))
  clear hK3
  refine wp_seq' fun K8 hK8 => ?_
  refine wp_reg ?_
  refine ol_r (r_move rfl) rfl ?_
  refine ol_r (r_neq rfl rfl) rfl ?_
  refine ol_nil (to_k0 (fun _ _ h => h) (hK8 _ _ _ _ _ ?_))
  clear hK8
  first | refine wp_condD rfl (fun hc22 => ?_) (fun hc22 => ?_) | refine wp_condN rfl (fun hc22 => ?_) (fun hc22 => ?_) | refine wp_condNB rfl (fun hc22 => ?_) (fun hc22 => ?_) | refine wp_cond' rfl (fun hc22 => ?_) (fun hc22 => ?_)
  ·refine wp_seq' fun K9 hK9 => ?_
   refine wp_reg ?_
   refine ol_r (r_build rfl (fun _ => bd26 _)) rfl ?_
   refine ol_r (r_move rfl) rfl ?_
   refine ol_store (id := 4) rfl rfl rfl rfl sz26 rfl rfl (by first | decide | exact Nat.zero_lt_succ _ | simp) ?_
   refine ol_r (r_assign rfl) rfl ?_
   refine ol_nil (to_k0 (fun _ _ h => h) (hK9 _ _ _ _ _ ?_))
   clear hK9
   refine hQ.ret (rvs2 (rv_c (id := 4) (n := 6) rfl rfl ag26 rfl) (rv_t rfl)) (fun _ _ h => h) fun w hb hs hB hkd => ?_
   exact ⟨outA_no (joinR_e hc22), hb⟩
  ·refine wp_skip' (to_k0 (fun _ _ h => h) (hK2 _ _ _ _ _ ?_))
   clear hK2
   refine wp_seq' fun K10 hK10 => ?_
   refine wp_block' ?_
   refine wp_seq' fun K11 hK11 => ?_
   refine wp_reg ?_
   have h0 : chkA A.d = 0 := (orR2 hc22).1
   have h1 : chkA D.d = 0 := (orR2 hc22).2
   have hg := goodA h0
   have hgd := goodA h1
   have hok : SmpOk A.start A.ss := hg.smp
   have hokd : SmpOk D.start D.ss := hgd.smp
   have hsp := hok.span
   have hst := inB_iff.1 hg.head.2.2.1
   have hstd := inB_iff.1 hgd.head.2.2.1
   obtain ⟨g4, g5, g6⟩ := hg.head.2.2.2
   obtain ⟨d4, d5, d6⟩ := hgd.head.2.2.2
   have hlb := lap_bd hgd
   have hspd := hokd.span
   dsimp only [ActV.d] at hst hstd g4 g5 g6 d4 d5 d6 hlb
   have hta := tags_up hg
   have htd := tags_up hgd
   dsimp only [ActV.d] at hta htd
   refine ol_r (r_fa (o' := 1) rfl fl26_1 rfl) rfl ?_
   refine ol_r (r_ld (id := 2) rfl rfl rfl sc3) rfl ?_
   refine ol_r (r_fa (o' := 1) rfl fl26_1 rfl) rfl ?_
   refine ol_r (r_ld (id := 3) rfl rfl rfl sc3) rfl ?_
   refine ol_r (r_neq rfl rfl) rfl ?_
   refine ol_r (r_assign rfl) rfl ?_
   refine ol_nil (to_k0 (fun _ _ h => h) (hK11 _ _ _ _ _ ?_))
   clear hK11
   first | refine wp_condD rfl (fun hc25 => ?_) (fun hc25 => ?_) | refine wp_condN rfl (fun hc25 => ?_) (fun hc25 => ?_) | refine wp_condNB rfl (fun hc25 => ?_) (fun hc25 => ?_) | refine wp_cond' rfl (fun hc25 => ?_) (fun hc25 => ?_)
   ·refine wp_seq' fun K12 hK12 => ?_
    refine wp_reg ?_
    refine ol_r (r_build rfl (fun _ => bd26 _)) rfl ?_
    refine ol_store (id := 4) rfl rfl rfl rfl sz26 rfl rfl (by first | decide | exact Nat.zero_lt_succ _ | simp) ?_
    refine ol_r (r_assign rfl) rfl ?_
    refine ol_nil (to_k0 (fun _ _ h => h) (hK12 _ _ _ _ _ ?_))
    clear hK12
    refine hQ.ret (rvs2 (rv_c (id := 4) (n := 6) rfl rfl ag26 rfl) (rv_t rfl)) (fun _ _ h => h) fun w hb hs hB hkd => ?_
    exact ⟨outA_no (joinR_7 (fun h => h h0) (fun h => h h1) hc25), hb⟩
   ·refine wp_seq' fun K13 hK13 => ?_
    refine wp_regq (by kernel_rfl) (by kernel_rfl) ?_
    refine ql_r (r_fa (o' := 2) rfl fl26_2 rfl) rfl ?_
    refine ql_r (r_ld (id := 3) rfl rfl rfl sc3) rfl ?_
    refine ql_r (r_fa (o' := 2) rfl fl26_2 rfl) rfl ?_
    refine ql_r (r_ld (id := 2) rfl rfl rfl sc3) rfl ?_
    refine ql_r (r_lda (id := 2) (n := 6) rfl rfl rfl ag26) rfl ?_
    refine ql_call rfl rfl cb42 rfl (fun w1 hb1 hs1 hB1 => record_Span A _ (hA.at hb1 hB1)) ?_
    refine ql_r (r_add rfl rfl (by omega)) rfl ?_
    refine ql_r (r_lss rfl rfl) rfl ?_
    refine ql_r (r_assign rfl) rfl ?_
    refine ql_nil (to_k0 (fun _ _ h => h) (hK13 _ _ _ _ _ ?_))
    clear hK13
    first | refine wp_condD rfl (fun hc32 => ?_) (fun hc32 => ?_) | refine wp_condN rfl (fun hc32 => ?_) (fun hc32 => ?_) | refine wp_condNB rfl (fun hc32 => ?_) (fun hc32 => ?_) | refine wp_cond' rfl (fun hc32 => ?_) (fun hc32 => ?_)
    ·refine wp_seq' fun K14 hK14 => ?_
     refine wp_reg ?_
     refine ol_r (r_build rfl (fun _ => bd26 _)) rfl ?_
     refine ol_store (id := 4) rfl rfl rfl rfl sz26 rfl rfl (by first | decide | exact Nat.zero_lt_succ _ | simp) ?_
     refine ol_r (r_assign rfl) rfl ?_
     refine ol_nil (to_k0 (fun _ _ h => h) (hK14 _ _ _ _ _ ?_))
     clear hK14
     refine hQ.ret (rvs2 (rv_c (id := 4) (n := 6) rfl rfl ag26 rfl) (rv_t rfl)) (fun _ _ h => h) fun w hb hs hB hkd => ?_
     exact ⟨outA_no (joinR_11 (fun h => h h0) (fun h => h h1) hc25 (by show D.start - A.start < spanL A.ss; omega)), hb⟩
    ·refine wp_skip' (to_k0 (fun _ _ h => h) (hK10 _ _ _ _ _ ?_))
     clear hK10
     refine wp_seq' fun K15 hK15 => ?_
     refine wp_reg ?_
     refine ol_r (r_lda (id := 2) (n := 6) rfl rfl rfl ag26) rfl ?_
     refine ol_call rfl rfl cb48 rfl (fun w1 hb1 hs1 hB1 => ?_)
     refine Calls.mono (record_Clone A _ (hA.at hb1 hB1) (by omega) (by omega) (by omega)) ?_
     rintro e w2 ⟨sa, sn, sc, la, ln, lc, ta, tn, tc, rfl, hb2, hs2⟩
     have q1 := (Sat.rd hs2 (E := encSmp) (id := 1001) rfl rfl).len
     have q2 := (Sat.rd hs2 (E := encLap) (id := 1002) rfl rfl).len
     have q3 := (Sat.rd hs2 (E := encStr) (id := 1003) rfl rfl).len
     refine After.more rfl hb1 hs1 hB1 hb2 hs2 ?_
     clear hs2 hb2 hB1 hs1 hb1 w2 w1
     refine ol_alloc 7 z26 rfl fun b7 => ?_
     refine ol_store (id := 7) rfl rfl rfl rfl sz26 rfl rfl (by first | decide | exact Nat.zero_lt_succ _ | simp) ?_
     refine ol_nil (to_k0 (fun _ _ h => h) (hK15 _ _ _ _ _ ?_))
     clear hK15
     refine wp_seq' fun K16 hK16 => ?_
     refine wp_reg ?_
     refine ol_r (r_fa (o' := 2) rfl fl26_2 rfl) rfl ?_
     refine ol_r (r_ld (id := 3) rfl rfl rfl sc3) rfl ?_
     refine ol_r (r_fa (o' := 2) rfl fl26_2 rfl) rfl ?_
     refine ol_r (r_ld (id := 2) rfl rfl rfl sc3) rfl ?_
     refine ol_r (r_sub rfl rfl (by omega)) rfl ?_
     refine ol_r (r_assign rfl) rfl ?_
     refine ol_nil (to_k0 (fun _ _ h => h) (hK16 _ _ _ _ _ ?_))
     clear hK16
     refine wp_seq' fun K17 hK17 => ?_
     refine wp_seq' fun K18 hK18 => ?_
     refine wp_reg ?_
     have hby : spanL A.ss ≤ D.start - A.start := by omega
     refine ol_r (r_fa (o' := 3) rfl fl26_3 rfl) rfl ?_
     refine ol_r (r_ld (id := 3) rfl rfl rfl sc22) rfl ?_
     refine ol_r (r_len rfl sl22) rfl ?_
     refine ol_r (r_move rfl) rfl ?_
     refine ol_nil (to_k0 (fun _ _ h => h) (hK18 _ _ _ _ _ ?_))
     clear hK18
     refine wp_block' ?_
     apply wp_loopM (σ := Nat × Option Addr × Nat × Nat) (fun s => s.1 ≤ D.ss.length ∧ (joinK A.ss D.ss (D.start - A.start) s.1).length = s.2.2.1) (fun s => [(52, .int .i64 s.1)]) [(3, _), (4, _), (5, _), (7, _), (8, _), (50, _), (51, _)] (fun s => [(7, .blk b7 [(0, .string A.name), (1, .int .i64 A.sport), (2, .int .i64 A.start), (3, .slice s.2.1 s.2.2.1 s.2.2.2), (4, .slice la ln lc), (5, .slice ta tn tc)] 26), (1001, .row s.2.1 s.2.2.1 s.2.2.2 (encSmp.enc (joinK A.ss D.ss (D.start - A.start) s.1)) 28 7)]) [(2, _), (3, _), (4, _), (19, _), (1002, _), (1003, _)] (fun s => D.ss.length - s.1) ((0, sa, sn, sc))
     ·try dsimp only
      exact ⟨Nat.zero_le _, q1⟩
     ·exact (sub_cons rfl sub_nil)
     ·exact (sub_cons rfl (sub_cons rfl (sub_cons rfl (sub_cons rfl (sub_cons rfl (sub_cons rfl (sub_cons rfl sub_nil)))))))
     ·exact (subH_blk rfl (sub_cons rfl (sub_cons rfl (sub_cons rfl (sub_cons rfl (sub_cons rfl (sub_cons rfl sub_nil)))))) (subH_row rfl (by first | (dsimp only; rfl; done) | (rfl; done) | (dsimp only; done)) subH_nil))
     ·exact (subH_same rfl (subH_same rfl (subH_same rfl (subH_same rfl (subH_same rfl (subH_same rfl subH_nil))))))
     ·rintro ⟨k, oa, on, oc⟩ ⟨hk, hon⟩
      dsimp only at hk hon ⊢
      have hjl := joinK_len A.ss D.ss (D.start - A.start) k
      intro K19 hK19
      refine wp_seq' fun K20 hK20 => ?_
      refine wp_reg ?_
      refine ol_r (r_lss rfl rfl) rfl ?_
      refine ol_nil (to_k0 (fun _ _ h => h) (hK20 _ _ _ _ _ ?_))
      clear hK20
      refine wp_seq' fun K21 hK21 => ?_
      first | refine wp_condD rfl (fun hc53 => ?_) (fun hc53 => ?_) | refine wp_condN rfl (fun hc53 => ?_) (fun hc53 => ?_) | refine wp_condNB rfl (fun hc53 => ?_) (fun hc53 => ?_) | refine wp_cond' rfl (fun hc53 => ?_) (fun hc53 => ?_)
      ·refine wp_skip' (to_k0 (fun _ _ h => h) (hK21 _ _ _ _ _ ?_))
       clear hK21
       refine wp_seq' fun K22 hK22 => ?_
       refine wp_block' ?_
       refine wp_seq' fun K23 hK23 => ?_
       refine wp_reg ?_
       refine ol_ixr hD.s rfl rfl sl22 (by omega) rfl fun x54 hx54 => ?_
       try simp only [Int.toNat_natCast] at hx54
       refine ol_r (r_ldw rfl (fun w1 hb1 hs1 hB1 => Rd.loads hD.s ty28 hx54 hb1)) rfl ?_
       refine ol_alloc 10 z28 rfl fun b10 => ?_
       refine ol_store (id := 10) rfl rfl rfl rfl sz28 rfl rfl (by first | decide | exact Nat.zero_lt_succ _ | simp) ?_
       refine ol_nil (to_k0 (fun _ _ h => h) (hK23 _ _ _ _ _ ?_))
       clear hK23
       refine wp_seq' fun K24 hK24 => ?_
       refine wp_reg ?_
       refine ol_r (r_fa (o' := 0) rfl fl28_0 rfl) rfl ?_
       refine ol_r (r_ld (id := 10) rfl rfl rfl sc3) rfl ?_
       refine ol_r (r_move rfl) rfl ?_
       have hbx := hokd.bd _ (List.mem_of_getElem? hx54)
       refine ol_r (r_add rfl rfl (by omega)) rfl ?_
       refine ol_r (r_fa (o' := 0) rfl fl28_0 rfl) rfl ?_
       refine ol_store (id := 10) rfl rfl rfl rfl sz3 rfl rfl (by first | decide | exact Nat.zero_lt_succ _ | simp) ?_
       refine ol_nil (to_k0 (fun _ _ h => h) (hK24 _ _ _ _ _ ?_))
       clear hK24
       refine wp_seq' fun K25 hK25 => ?_
       refine wp_reg ?_
       have hJ := join_cond hok hokd hby hx54
       refine ol_r (r_fa (o' := 3) rfl fl26_3 rfl) rfl ?_
       refine ol_r (r_ld (id := 7) rfl rfl rfl sc22) rfl ?_
       refine ol_r (r_len rfl sl22) rfl ?_
       refine ol_r (r_assign rfl) rfl ?_
       refine ol_nil (to_k0 (fun _ _ h => h) (hK25 _ _ _ _ _ ?_))
       clear hK25
       refine wp_seq' fun K26 hK26 => ?_
       refine wp_regq (by kernel_rfl) (by kernel_rfl) ?_
       refine ql_r (r_move rfl) rfl ?_
       refine ql_r (r_eql rfl rfl) rfl ?_
       refine ql_r (r_move rfl) rfl ?_
       refine ql_split (d := 66) rfl (fun hs66 => ?_) (fun hs66 => ?_)
       ·have phs66 := hs66; try simp only [decide_eq_true_eq, decide_eq_false_iff_not, Bool.not_eq_true', Bool.not_eq_false', Bool.not_true, Bool.not_false] at phs66
        refine ql_s rfl rfl hs66 rfl ?_
        refine ql_s rfl rfl hs66 rfl ?_
        refine ql_s rfl rfl hs66 rfl ?_
        refine ql_s rfl rfl hs66 rfl ?_
        refine ql_s rfl rfl hs66 rfl ?_
        refine ql_s rfl rfl hs66 rfl ?_
        refine ql_s rfl rfl hs66 rfl ?_
        refine ql_s rfl rfl hs66 rfl ?_
        refine ql_s rfl rfl hs66 rfl ?_
        refine ql_s rfl rfl hs66 rfl ?_
        refine ql_r (r_pickT rfl hs66 rfl) rfl ?_
        refine ql_nil (to_k0 (fun _ _ h => h) (hK26 _ _ _ _ _ ?_))
        clear hK26
        refine wp_condT rfl ?_
        refine wp_reg ?_
        have hyes : 0 < k ∨ A.ss.length = 0 ∨ spanL A.ss < x54.at_ + (D.start - A.start) := by
          refine hJ.1 ?_
          by_cases hn0 : on = 0
          · exact .inl (by omega)
          · first
              | (exfalso; omega)
              | (refine .inr fun x hx => ?_
                 rw [show ((on : Int) - 1).toNat = on - 1 by omega] at hx71
                 rw [hon, hx71] at hx
                 cases hx
                 exact hc77)
        refine ol_r (r_fa (o' := 3) rfl fl26_3 rfl) rfl ?_
        refine ol_r (r_ld (id := 7) rfl rfl rfl sc22) rfl ?_
        refine ol_r (r_lda (id := 10) (n := 7) rfl rfl rfl ag28) rfl ?_
        refine ol_bs1 81 rfl rfl rw22 rfl rfl rfl fun a81 => ?_
        refine ol_append1 (id := 1001) (id2 := 81) rfl rfl rfl rfl rfl rw22 (by omega) rfl fun a82 c82 => ?_
        refine ol_r (r_fa (o' := 3) rfl fl26_3 rfl) rfl ?_
        refine ol_store (id := 7) rfl rfl rfl rfl sz22 rfl rfl (by first | decide | exact Nat.zero_lt_succ _ | simp) ?_
        refine ol_nil (to_k0 (fun _ _ h => h) (hK22 _ _ _ _ _ ?_))
        clear hK22
        refine wp_reg ?_
        first
          | (change _ at hyes; skip)
          | (have hno : ¬(0 < k ∨ A.ss.length = 0 ∨ spanL A.ss < x54.at_ + (D.start - A.start)) := fun h => by
               rcases hJ.2 h with h2 | h2
               · omega
               · exact hc77 (h2 x71 (by rw [hon, show on - 1 = ((on : Int) - 1).toNat by omega]; exact hx71))
             skip)
        refine ol_r (r_add rfl rfl (by omega)) rfl ?_
        refine ol_r (r_move rfl) rfl ?_
        refine ol_nil (to_k0 (fun _ _ h => h) (hK19 ((k + 1, _, _, _)) _ _ ?_ ?_ (sub_cons rfl sub_nil) (sub_cons rfl (sub_cons rfl (sub_cons rfl (sub_cons rfl (sub_cons rfl (sub_cons rfl (sub_cons rfl sub_nil))))))) (by exact (subH_blk rfl (sub_cons rfl (sub_cons rfl (sub_cons rfl (sub_cons rfl (sub_cons rfl (sub_cons rfl sub_nil)))))) (subH_row rfl (by first | (dsimp only; first | (change _ at hyes; rw [joinK_yes hx54 hyes, Enc.enc_append]; rfl) | (change _ at hno; rw [joinK_no hx54 hno]); done) | (first | (change _ at hyes; rw [joinK_yes hx54 hyes, Enc.enc_append]; rfl) | (change _ at hno; rw [joinK_no hx54 hno]); done) | (dsimp only; done)) subH_nil))) (subH_same rfl (subH_same rfl (subH_same rfl (subH_same rfl (subH_same rfl (subH_same rfl subH_nil))))))))
        ·try dsimp only
         first
           | (change _ at hyes
              exact ⟨by omega, by rw [joinK_yes hx54 hyes, List.length_append, hon]; rfl⟩)
           | (change _ at hno
              exact ⟨by omega, by rw [joinK_no hx54 hno]; exact hon⟩)
        ·try dsimp only
         omega
       ·have phs66 := hs66; try simp only [decide_eq_true_eq, decide_eq_false_iff_not, Bool.not_eq_true', Bool.not_eq_false', Bool.not_true, Bool.not_false] at phs66
        refine ql_g rfl rfl hs66 ?_
        refine ql_r (r_fa (o' := 3) rfl fl26_3 rfl) rfl ?_
        refine ql_g rfl rfl hs66 ?_
        refine ql_r (r_ld (id := 7) rfl rfl rfl sc22) rfl ?_
        refine ql_g rfl rfl hs66 ?_
        refine ql_r (r_move rfl) rfl ?_
        refine ql_g rfl rfl hs66 ?_
        refine ql_r (r_sub rfl rfl (by omega)) rfl ?_
        refine ql_g rfl rfl hs66 ?_
        refine ql_ixo (id := 1001) encSmp _ rfl rfl rfl rfl sl22 (by omega) (by omega) rfl fun x71 hx71 => ?_
        try simp only [Int.toNat_natCast] at hx71
        try simp only [Int.toNat_natCast] at hx71
        refine ql_g rfl rfl hs66 ?_
        refine ql_r (r_faO (id := 1001) rfl rfl rfl hx71 fl28_0) rfl ?_
        refine ql_g rfl rfl hs66 ?_
        refine ql_r (r_ldw rfl (fun w1 hb1 hs1 hB1 => ld_ownF (id := 1001) (o := 0) hs1 rfl rfl sc3 hx71 rfl)) rfl ?_
        refine ql_g rfl rfl hs66 ?_
        refine ql_r (r_fa (o' := 0) rfl fl28_0 rfl) rfl ?_
        refine ql_g rfl rfl hs66 ?_
        refine ql_r (r_ld (id := 10) rfl rfl rfl sc3) rfl ?_
        refine ql_g rfl rfl hs66 ?_
        refine ql_r (r_neq rfl rfl) rfl ?_
        refine ql_r (r_pickF rfl hs66 rfl) rfl ?_
        refine ql_nil (to_k0 (fun _ _ h => h) (hK26 _ _ _ _ _ ?_))
        clear hK26
        first | refine wp_condD rfl (fun hc77 => ?_) (fun hc77 => ?_) | refine wp_condN rfl (fun hc77 => ?_) (fun hc77 => ?_) | refine wp_condNB rfl (fun hc77 => ?_) (fun hc77 => ?_) | refine wp_cond' rfl (fun hc77 => ?_) (fun hc77 => ?_)
        ·refine wp_reg ?_
         have hyes : 0 < k ∨ A.ss.length = 0 ∨ spanL A.ss < x54.at_ + (D.start - A.start) := by
           refine hJ.1 ?_
           by_cases hn0 : on = 0
           · exact .inl (by omega)
           · first
               | (exfalso; omega)
               | (refine .inr fun x hx => ?_
                  rw [show ((on : Int) - 1).toNat = on - 1 by omega] at hx71
                  rw [hon, hx71] at hx
                  cases hx
                  exact hc77)
         refine ol_r (r_fa (o' := 3) rfl fl26_3 rfl) rfl ?_
         refine ol_r (r_ld (id := 7) rfl rfl rfl sc22) rfl ?_
         refine ol_r (r_lda (id := 10) (n := 7) rfl rfl rfl ag28) rfl ?_
         refine ol_bs1 81 rfl rfl rw22 rfl rfl rfl fun a81 => ?_
         refine ol_append1 (id := 1001) (id2 := 81) rfl rfl rfl rfl rfl rw22 (by omega) rfl fun a82 c82 => ?_
         refine ol_r (r_fa (o' := 3) rfl fl26_3 rfl) rfl ?_
         refine ol_store (id := 7) rfl rfl rfl rfl sz22 rfl rfl (by first | decide | exact Nat.zero_lt_succ _ | simp) ?_
         refine ol_nil (to_k0 (fun _ _ h => h) (hK22 _ _ _ _ _ ?_))
         clear hK22
         refine wp_reg ?_
         first
           | (change _ at hyes; skip)
           | (have hno : ¬(0 < k ∨ A.ss.length = 0 ∨ spanL A.ss < x54.at_ + (D.start - A.start)) := fun h => by
                rcases hJ.2 h with h2 | h2
                · omega
                · exact hc77 (h2 x71 (by rw [hon, show on - 1 = ((on : Int) - 1).toNat by omega]; exact hx71))
              skip)
         refine ol_r (r_add rfl rfl (by omega)) rfl ?_
         refine ol_r (r_move rfl) rfl ?_
         refine ol_nil (to_k0 (fun _ _ h => h) (hK19 ((k + 1, _, _, _)) _ _ ?_ ?_ (sub_cons rfl sub_nil) (sub_cons rfl (sub_cons rfl (sub_cons rfl (sub_cons rfl (sub_cons rfl (sub_cons rfl (sub_cons rfl sub_nil))))))) (by exact (subH_blk rfl (sub_cons rfl (sub_cons rfl (sub_cons rfl (sub_cons rfl (sub_cons rfl (sub_cons rfl sub_nil)))))) (subH_row rfl (by first | (dsimp only; first | (change _ at hyes; rw [joinK_yes hx54 hyes, Enc.enc_append]; rfl) | (change _ at hno; rw [joinK_no hx54 hno]); done) | (first | (change _ at hyes; rw [joinK_yes hx54 hyes, Enc.enc_append]; rfl) | (change _ at hno; rw [joinK_no hx54 hno]); done) | (dsimp only; done)) subH_nil))) (subH_same rfl (subH_same rfl (subH_same rfl (subH_same rfl (subH_same rfl (subH_same rfl subH_nil))))))))
         ·try dsimp only
          first
            | (change _ at hyes
               exact ⟨by omega, by rw [joinK_yes hx54 hyes, List.length_append, hon]; rfl⟩)
            | (change _ at hno
               exact ⟨by omega, by rw [joinK_no hx54 hno]; exact hon⟩)
         ·try dsimp only
          omega
        ·refine wp_skip' (to_k0 (fun _ _ h => h) (hK22 _ _ _ _ _ ?_))
         clear hK22
         refine wp_reg ?_
         first
           | (change _ at hyes; skip)
           | (have hno : ¬(0 < k ∨ A.ss.length = 0 ∨ spanL A.ss < x54.at_ + (D.start - A.start)) := fun h => by
                rcases hJ.2 h with h2 | h2
                · omega
                · exact hc77 (h2 x71 (by rw [hon, show on - 1 = ((on : Int) - 1).toNat by omega]; exact hx71))
              skip)
         refine ol_r (r_add rfl rfl (by omega)) rfl ?_
         refine ol_r (r_move rfl) rfl ?_
         refine ol_nil (to_k0 (fun _ _ h => h) (hK19 ((k + 1, _, _, _)) _ _ ?_ ?_ (sub_cons rfl sub_nil) (sub_cons rfl (sub_cons rfl (sub_cons rfl (sub_cons rfl (sub_cons rfl (sub_cons rfl (sub_cons rfl sub_nil))))))) (by exact (subH_blk rfl (sub_cons rfl (sub_cons rfl (sub_cons rfl (sub_cons rfl (sub_cons rfl (sub_cons rfl sub_nil)))))) (subH_row rfl (by first | (dsimp only; first | (change _ at hyes; rw [joinK_yes hx54 hyes, Enc.enc_append]; rfl) | (change _ at hno; rw [joinK_no hx54 hno]); done) | (first | (change _ at hyes; rw [joinK_yes hx54 hyes, Enc.enc_append]; rfl) | (change _ at hno; rw [joinK_no hx54 hno]); done) | (dsimp only; done)) subH_nil))) (subH_same rfl (subH_same rfl (subH_same rfl (subH_same rfl (subH_same rfl (subH_same rfl subH_nil))))))))
         ·try dsimp only
          first
            | (change _ at hyes
               exact ⟨by omega, by rw [joinK_yes hx54 hyes, List.length_append, hon]; rfl⟩)
            | (change _ at hno
               exact ⟨by omega, by rw [joinK_no hx54 hno]; exact hon⟩)
         ·try dsimp only
          omega
      ·refine wp_exit' (to_k0 (fun _ _ h => h) (hK17 _ _ _ _ _ ?_))
       clear hK17
       refine wp_seq' fun K27 hK27 => ?_
       refine wp_seq' fun K28 hK28 => ?_
       refine wp_reg ?_
       refine ol_r (r_fa (o' := 4) rfl fl26_4 rfl) rfl ?_
       refine ol_r (r_ld (id := 3) rfl rfl rfl sc23) rfl ?_
       refine ol_r (r_len rfl sl23) rfl ?_
       refine ol_r (r_move rfl) rfl ?_
       refine ol_nil (to_k0 (fun _ _ h => h) (hK28 _ _ _ _ _ ?_))
       clear hK28
       refine wp_block' ?_
       apply wp_loopM (σ := Nat × Option Addr × Nat) (fun s => s.1 ≤ D.ls.length) (fun s => [(88, .int .i64 s.1)]) [(3, _), (4, _), (5, _), (7, _), (8, _), (86, _), (87, _)] (fun s => [(7, .blk b7 [(0, .string A.name), (1, .int .i64 A.sport), (2, .int .i64 A.start), (3, .slice oa on oc), (4, .slice s.2.1 (ln + s.1) s.2.2), (5, .slice ta tn tc)] 26), (1002, .row s.2.1 (ln + s.1) s.2.2 (encLap.enc (A.ls ++ fwdL (D.start - A.start) (D.ls.take s.1))) 66 3)]) [(2, _), (3, _), (4, _), (19, _), (1001, _), (1003, _)] (fun s => D.ls.length - s.1) ((0, la, lc))
       ·try dsimp only
        exact Nat.zero_le _
       ·exact (sub_cons rfl sub_nil)
       ·exact (sub_cons rfl (sub_cons rfl (sub_cons rfl (sub_cons rfl (sub_cons rfl (sub_cons rfl (sub_cons rfl sub_nil)))))))
       ·exact (subH_blk rfl (sub_cons rfl (sub_cons rfl (sub_cons rfl (sub_cons rfl (sub_cons rfl (sub_cons rfl sub_nil)))))) (subH_row rfl (by first | (dsimp only; first | rfl | (simp [fwdL]); done) | (first | rfl | (simp [fwdL]); done) | (dsimp only; done)) subH_nil))
       ·exact (subH_same rfl (subH_same rfl (subH_same rfl (subH_same rfl (subH_same rfl (subH_same rfl subH_nil))))))
       ·rintro ⟨j, ja, jc⟩ hj
        dsimp only at hj ⊢
        intro K29 hK29
        refine wp_seq' fun K30 hK30 => ?_
        refine wp_reg ?_
        refine ol_r (r_lss rfl rfl) rfl ?_
        refine ol_nil (to_k0 (fun _ _ h => h) (hK30 _ _ _ _ _ ?_))
        clear hK30
        refine wp_seq' fun K31 hK31 => ?_
        first | refine wp_condD rfl (fun hc89 => ?_) (fun hc89 => ?_) | refine wp_condN rfl (fun hc89 => ?_) (fun hc89 => ?_) | refine wp_condNB rfl (fun hc89 => ?_) (fun hc89 => ?_) | refine wp_cond' rfl (fun hc89 => ?_) (fun hc89 => ?_)
        ·refine wp_skip' (to_k0 (fun _ _ h => h) (hK31 _ _ _ _ _ ?_))
         clear hK31
         refine wp_seq' fun K32 hK32 => ?_
         refine wp_block' ?_
         refine wp_seq' fun K33 hK33 => ?_
         refine wp_reg ?_
         refine ol_ixr hD.l rfl rfl sl23 (by omega) rfl fun x90 hx90 => ?_
         try simp only [Int.toNat_natCast] at hx90
         refine ol_r (r_ldw rfl (fun w1 hb1 hs1 hB1 => Rd.loads hD.l ty66 hx90 hb1)) rfl ?_
         refine ol_alloc 13 z66 rfl fun b13 => ?_
         refine ol_store (id := 13) rfl rfl rfl rfl sz66 rfl rfl (by first | decide | exact Nat.zero_lt_succ _ | simp) ?_
         refine ol_nil (to_k0 (fun _ _ h => h) (hK33 _ _ _ _ _ ?_))
         clear hK33
         refine wp_seq' fun K34 hK34 => ?_
         refine wp_reg ?_
         refine ol_r (r_fa (o' := 0) rfl fl66_0 rfl) rfl ?_
         refine ol_r (r_ld (id := 13) rfl rfl rfl sc3) rfl ?_
         refine ol_r (r_move rfl) rfl ?_
         have hbl := hlb _ (List.mem_of_getElem? hx90)
         refine ol_r (r_add rfl rfl (by omega)) rfl ?_
         refine ol_r (r_fa (o' := 1) rfl fl66_1 rfl) rfl ?_
         refine ol_r (r_ld (id := 13) rfl rfl rfl sc3) rfl ?_
         refine ol_r (r_move rfl) rfl ?_
         refine ol_r (r_add rfl rfl (by omega)) rfl ?_
         refine ol_r (r_fa (o' := 0) rfl fl66_0 rfl) rfl ?_
         refine ol_store (id := 13) rfl rfl rfl rfl sz3 rfl rfl (by first | decide | exact Nat.zero_lt_succ _ | simp) ?_
         refine ol_r (r_fa (o' := 1) rfl fl66_1 rfl) rfl ?_
         refine ol_store (id := 13) rfl rfl rfl rfl sz3 rfl rfl (by first | decide | exact Nat.zero_lt_succ _ | simp) ?_
         refine ol_nil (to_k0 (fun _ _ h => h) (hK34 _ _ _ _ _ ?_))
         clear hK34
         refine wp_reg ?_
         refine ol_r (r_fa (o' := 4) rfl fl26_4 rfl) rfl ?_
         refine ol_r (r_ld (id := 7) rfl rfl rfl sc23) rfl ?_
         refine ol_r (r_lda (id := 13) (n := 3) rfl rfl rfl ag66) rfl ?_
         refine ol_bs1 105 rfl rfl rw23 rfl rfl rfl fun a105 => ?_
         refine ol_append1 (id := 1002) (id2 := 105) rfl rfl rfl rfl rfl rw23 (by omega) rfl fun a106 c106 => ?_
         refine ol_r (r_fa (o' := 4) rfl fl26_4 rfl) rfl ?_
         refine ol_store (id := 7) rfl rfl rfl rfl sz23 rfl rfl (by first | decide | exact Nat.zero_lt_succ _ | simp) ?_
         refine ol_nil (to_k0 (fun _ _ h => h) (hK32 _ _ _ _ _ ?_))
         clear hK32
         refine wp_reg ?_
         refine ol_r (r_add rfl rfl (by omega)) rfl ?_
         refine ol_r (r_move rfl) rfl ?_
         refine ol_nil (to_k0 (fun _ _ h => h) (hK29 ((j + 1, _, _)) _ _ ?_ ?_ (sub_cons rfl sub_nil) (sub_cons rfl (sub_cons rfl (sub_cons rfl (sub_cons rfl (sub_cons rfl (sub_cons rfl (sub_cons rfl sub_nil))))))) (by exact (subH_blk rfl (sub_cons rfl (sub_cons rfl (sub_cons rfl (sub_cons rfl (sub_cons rfl (sub_cons rfl sub_nil)))))) (subH_row rfl (by first | (dsimp only; rw [fwdL_succ hx90, ← List.append_assoc, Enc.enc_append]; rfl; done) | (rw [fwdL_succ hx90, ← List.append_assoc, Enc.enc_append]; rfl; done) | (dsimp only; done)) subH_nil))) (subH_same rfl (subH_same rfl (subH_same rfl (subH_same rfl (subH_same rfl (subH_same rfl subH_nil))))))))
         ·try dsimp only
          omega
         ·try dsimp only
          omega
        ·refine wp_exit' (to_k0 (fun _ _ h => h) (hK27 _ _ _ _ _ ?_))
         clear hK27
         refine wp_seq' fun K35 hK35 => ?_
         refine wp_reg ?_
         refine ol_r (r_fa (o' := 5) rfl fl26_5 rfl) rfl ?_
         refine ol_r (r_ld (id := 7) rfl rfl rfl sc24) rfl ?_
         refine ol_r (r_fa (o' := 5) rfl fl26_5 rfl) rfl ?_
         refine ol_r (r_ld (id := 3) rfl rfl rfl sc24) rfl ?_
         refine ol_appendR (id := 1003) encStr hD.t rfl rfl rfl rfl rw24 (by omega) rfl fun a113 c113 => ?_
         refine ol_r (r_fa (o' := 5) rfl fl26_5 rfl) rfl ?_
         refine ol_store (id := 7) rfl rfl rfl rfl sz24 rfl rfl (by first | decide | exact Nat.zero_lt_succ _ | simp) ?_
         refine ol_nil (to_k0 (fun _ _ h => h) (hK35 _ _ _ _ _ ?_))
         clear hK35
         refine wp_seq' fun K36 hK36 => ?_
         refine wp_reg ?_
         refine ol_r (r_fa (o' := 5) rfl fl26_5 rfl) rfl ?_
         refine ol_r (r_ld (id := 7) rfl rfl rfl sc24) rfl ?_
         refine ol_call rfl rfl cb68 rfl (fun w1 hb1 hs1 hB1 => ?_)
         refine Calls.mono (sort_names _ 1003 _ _ _ (A.ts ++ D.ts) _ _ _ hB1 hs1 rfl (by omega)) ?_
         rintro e w2 ⟨rfl, hbw, hs2, hB2, hkd2⟩
         refine After.sat rfl hb1 hbw hs2 hB2 (hkd2.imp (fun _ h => h.elim)) ?_
         clear hkd2 hB2 hs2 hbw hB1 hs1 hb1 w2 w1
         refine ol_nil (to_k0 (fun _ _ h => h) (hK36 _ _ _ _ _ ?_))
         clear hK36
         refine wp_seq' fun K37 hK37 => ?_
         refine wp_reg ?_
         refine ol_r (r_fa (o' := 5) rfl fl26_5 rfl) rfl ?_
         refine ol_r (r_ld (id := 7) rfl rfl rfl sc24) rfl ?_
         refine ol_call rfl rfl cb69 rfl (fun w1 hb1 hs1 hB1 => ?_)
         refine Calls.mono (compact_names _ 1003 _ _ _ (sortS (A.ts ++ D.ts)) _ _ _ hB1 hs1 rfl (by omega)) ?_
         have hcq : compS (sortS (A.ts ++ D.ts)) = tagR A.ts D.ts := by rw [compS_sort]; exact ordBA_eq hta htd
         rw [hcq]
         rintro e w2 ⟨rfl, hbw, hs2, hB2, hkd2⟩
         refine After.sat rfl hb1 hbw hs2 hB2 (hkd2.imp (fun _ h => h.elim)) ?_
         clear hkd2 hB2 hs2 hbw hB1 hs1 hb1 w2 w1
         refine ol_r (r_fa (o' := 5) rfl fl26_5 rfl) rfl ?_
         refine ol_store (id := 7) rfl rfl rfl rfl sz24 rfl rfl (by first | decide | exact Nat.zero_lt_succ _ | simp) ?_
         refine ol_nil (to_k0 (fun _ _ h => h) (hK37 _ _ _ _ _ ?_))
         clear hK37
         refine wp_seq' fun K38 hK38 => ?_
         refine wp_seq' fun K39 hK39 => ?_
         refine wp_reg ?_
         have hkk : k = D.ss.length := by omega
         have hjj : D.ls.take j = D.ls := List.take_of_length_le (by omega)
         have hls : (A.ls ++ fwdL (D.start - A.start) (D.ls.take j)).length = ln + j := by rw [List.length_append, fwdL, List.length_map, List.length_take]; omega
         have hdd : joinD A.d D.d = ⟨A.name, A.sport, A.start, joinK A.ss D.ss (D.start - A.start) k, A.ls ++ fwdL (D.start - A.start) (D.ls.take j), tagR A.ts D.ts⟩ := by rw [hjj, hkk]; rfl
         have hjr := joinR_d (a := A.d) (b := D.d) (fun h => h h0) (fun h => h h1) hc25 (by show ¬D.start - A.start < spanL A.ss; omega)
         rw [hdd] at hjr
         dsimp only at hjr
         rw [hon, hls] at hjr
         refine ol_r (r_fa (o' := 3) rfl fl26_3 rfl) rfl ?_
         refine ol_r (r_ld (id := 7) rfl rfl rfl sc22) rfl ?_
         refine ol_r (r_len rfl sl22) rfl ?_
         refine ol_r (r_gtr rfl rfl) rfl ?_
         refine ol_r (r_move rfl) rfl ?_
         refine ol_split (d := 126) rfl (fun hs126 => ?_) (fun hs126 => ?_)
         ·have phs126 := hs126; try simp only [decide_eq_true_eq, decide_eq_false_iff_not, Bool.not_eq_true', Bool.not_eq_false', Bool.not_true, Bool.not_false] at phs126
          refine ol_s rfl rfl hs126 rfl ?_
          refine ol_s rfl rfl hs126 rfl ?_
          refine ol_s rfl rfl hs126 rfl ?_
          refine ol_s rfl rfl hs126 rfl ?_
          refine ol_r (r_pickT rfl hs126 rfl) rfl ?_
          refine ol_r (r_move rfl) rfl ?_
          refine ol_s rfl rfl rfl rfl ?_
          refine ol_s rfl rfl rfl rfl ?_
          refine ol_s rfl rfl rfl rfl ?_
          refine ol_s rfl rfl rfl rfl ?_
          refine ol_r (r_pickT rfl rfl rfl) rfl ?_
          refine ol_nil (to_k0 (fun _ _ h => h) (hK39 _ _ _ _ _ ?_))
          clear hK39
          refine wp_condT rfl ?_
          refine wp_seq' fun K40 hK40 => ?_
          refine wp_reg ?_
          refine ol_r (r_build rfl (fun _ => bd26 _)) rfl ?_
          refine ol_store (id := 4) rfl rfl rfl rfl sz26 rfl rfl (by first | decide | exact Nat.zero_lt_succ _ | simp) ?_
          refine ol_r (r_assign rfl) rfl ?_
          refine ol_nil (to_k0 (fun _ _ h => h) (hK40 _ _ _ _ _ ?_))
          clear hK40
          refine hQ.ret (rvs2 (rv_c (id := 4) (n := 6) rfl rfl ag26 rfl) (rv_t rfl)) (fun _ _ h => h) fun w hb hs hB hkd => ?_
          exact ⟨outA_no (by rw [hjr, if_pos (by omega)]), hb⟩
         ·have phs126 := hs126; try simp only [decide_eq_true_eq, decide_eq_false_iff_not, Bool.not_eq_true', Bool.not_eq_false', Bool.not_true, Bool.not_false] at phs126
          refine ol_g rfl rfl hs126 ?_
          refine ol_r (r_fa (o' := 4) rfl fl26_4 rfl) rfl ?_
          refine ol_g rfl rfl hs126 ?_
          refine ol_r (r_ld (id := 7) rfl rfl rfl sc23) rfl ?_
          refine ol_g rfl rfl hs126 ?_
          refine ol_r (r_len rfl sl23) rfl ?_
          refine ol_g rfl rfl hs126 ?_
          refine ol_r (r_gtr rfl rfl) rfl ?_
          refine ol_r (r_pickF rfl hs126 rfl) rfl ?_
          refine ol_r (r_move rfl) rfl ?_
          refine ol_split (d := 132) rfl (fun hs132 => ?_) (fun hs132 => ?_)
          ·have phs132 := hs132; try simp only [decide_eq_true_eq, decide_eq_false_iff_not, Bool.not_eq_true', Bool.not_eq_false', Bool.not_true, Bool.not_false] at phs132
           refine ol_s rfl rfl hs132 rfl ?_
           refine ol_s rfl rfl hs132 rfl ?_
           refine ol_s rfl rfl hs132 rfl ?_
           refine ol_s rfl rfl hs132 rfl ?_
           refine ol_r (r_pickT rfl hs132 rfl) rfl ?_
           refine ol_nil (to_k0 (fun _ _ h => h) (hK39 _ _ _ _ _ ?_))
           clear hK39
           refine wp_condT rfl ?_
           refine wp_seq' fun K41 hK41 => ?_
           refine wp_reg ?_
           refine ol_r (r_build rfl (fun _ => bd26 _)) rfl ?_
           refine ol_store (id := 4) rfl rfl rfl rfl sz26 rfl rfl (by first | decide | exact Nat.zero_lt_succ _ | simp) ?_
           refine ol_r (r_assign rfl) rfl ?_
           refine ol_nil (to_k0 (fun _ _ h => h) (hK41 _ _ _ _ _ ?_))
           clear hK41
           refine hQ.ret (rvs2 (rv_c (id := 4) (n := 6) rfl rfl ag26 rfl) (rv_t rfl)) (fun _ _ h => h) fun w hb hs hB hkd => ?_
           exact ⟨outA_no (by rw [hjr, if_pos (by omega)]), hb⟩
          ·have phs132 := hs132; try simp only [decide_eq_true_eq, decide_eq_false_iff_not, Bool.not_eq_true', Bool.not_eq_false', Bool.not_true, Bool.not_false] at phs132
           refine ol_g rfl rfl hs132 ?_
           refine ol_r (r_fa (o' := 5) rfl fl26_5 rfl) rfl ?_
           refine ol_g rfl rfl hs132 ?_
           refine ol_r (r_ld (id := 7) rfl rfl rfl sc24) rfl ?_
           refine ol_g rfl rfl hs132 ?_
           refine ol_r (r_len rfl sl24) rfl ?_
           refine ol_g rfl rfl hs132 ?_
           refine ol_r (r_gtr rfl rfl) rfl ?_
           refine ol_r (r_pickF rfl hs132 rfl) rfl ?_
           refine ol_nil (to_k0 (fun _ _ h => h) (hK39 _ _ _ _ _ ?_))
           clear hK39
           first | refine wp_condD rfl (fun hc137 => ?_) (fun hc137 => ?_) | refine wp_condN rfl (fun hc137 => ?_) (fun hc137 => ?_) | refine wp_condNB rfl (fun hc137 => ?_) (fun hc137 => ?_) | refine wp_cond' rfl (fun hc137 => ?_) (fun hc137 => ?_)
           ·refine wp_seq' fun K42 hK42 => ?_
            refine wp_reg ?_
            refine ol_r (r_build rfl (fun _ => bd26 _)) rfl ?_
            refine ol_store (id := 4) rfl rfl rfl rfl sz26 rfl rfl (by first | decide | exact Nat.zero_lt_succ _ | simp) ?_
            refine ol_r (r_assign rfl) rfl ?_
            refine ol_nil (to_k0 (fun _ _ h => h) (hK42 _ _ _ _ _ ?_))
            clear hK42
            refine hQ.ret (rvs2 (rv_c (id := 4) (n := 6) rfl rfl ag26 rfl) (rv_t rfl)) (fun _ _ h => h) fun w hb hs hB hkd => ?_
            exact ⟨outA_no (by rw [hjr, if_pos (by omega)]), hb⟩
           ·refine wp_skip' (to_k0 (fun _ _ h => h) (hK38 _ _ _ _ _ ?_))
            clear hK38
            refine wp_seq' fun K43 hK43 => ?_
            refine wp_seq' fun K44 hK44 => ?_
            refine wp_reg ?_
            refine ol_r (r_lda (id := 7) (n := 6) rfl rfl rfl ag26) rfl ?_
            refine ol_call rfl rfl cb40 rfl (fun w1 hb1 hs1 hB1 => Calls.mono (record_Check ⟨A.name, A.sport, A.start, oa, on, oc, ja, ln + j, jc, a113, (tagR A.ts D.ts).length, c113, joinK A.ss D.ss (D.start - A.start) k, A.ls ++ fwdL (D.start - A.start) (D.ls.take j), tagR A.ts D.ts⟩ _ ⟨Sat.rd hs1 (id := 1001) rfl rfl, Sat.rd hs1 (id := 1002) rfl rfl, Sat.rd hs1 (id := 1003) rfl rfl, hA.nm, by rw [hjj]; exact join_names hA.lm hD.lm, join_tags hA.tm hD.tm, join_lo hg hgd k⟩) ?_)
            rintro e w2 ⟨rfl, hb2⟩
            refine After.below rfl hb1 hs1 hB1 hb2 ?_
            clear hb2 hB1 hs1 hb1 w2 w1
            refine ol_r (r_assign rfl) rfl ?_
            refine ol_nil (to_k0 (fun _ _ h => h) (hK44 _ _ _ _ _ ?_))
            clear hK44
            refine wp_seq' fun K45 hK45 => ?_
            refine wp_reg ?_
            refine ol_r (r_move rfl) rfl ?_
            refine ol_r (r_neq rfl rfl) rfl ?_
            refine ol_nil (to_k0 (fun _ _ h => h) (hK45 _ _ _ _ _ ?_))
            clear hK45
            first | refine wp_condD rfl (fun hc142 => ?_) (fun hc142 => ?_) | refine wp_condN rfl (fun hc142 => ?_) (fun hc142 => ?_) | refine wp_condNB rfl (fun hc142 => ?_) (fun hc142 => ?_) | refine wp_cond' rfl (fun hc142 => ?_) (fun hc142 => ?_)
            ·refine wp_seq' fun K46 hK46 => ?_
             refine wp_reg ?_
             refine ol_r (r_build rfl (fun _ => bd26 _)) rfl ?_
             refine ol_r (r_move rfl) rfl ?_
             refine ol_store (id := 4) rfl rfl rfl rfl sz26 rfl rfl (by first | decide | exact Nat.zero_lt_succ _ | simp) ?_
             refine ol_r (r_assign rfl) rfl ?_
             refine ol_nil (to_k0 (fun _ _ h => h) (hK46 _ _ _ _ _ ?_))
             clear hK46
             refine hQ.ret (rvs2 (rv_c (id := 4) (n := 6) rfl rfl ag26 rfl) (rv_t rfl)) (fun _ _ h => h) fun w hb hs hB hkd => ?_
             have hck : chkA (⟨A.name, A.sport, A.start, joinK A.ss D.ss (D.start - A.start) k, A.ls ++ fwdL (D.start - A.start) (D.ls.take j), tagR A.ts D.ts⟩ : ActD) ≠ 0 := hc142
             exact ⟨outA_no (by rw [hjr, if_neg (by omega), if_pos hck]; rfl), hb⟩
            ·refine wp_skip' (to_k0 (fun _ _ h => h) (hK43 _ _ _ _ _ ?_))
             clear hK43
             refine wp_seq' fun K47 hK47 => ?_
             refine wp_reg ?_
             refine ol_r (r_lda (id := 7) (n := 6) rfl rfl rfl ag26) rfl ?_
             refine ol_store (id := 4) rfl rfl rfl rfl sz26 rfl rfl (by first | decide | exact Nat.zero_lt_succ _ | simp) ?_
             refine ol_r (r_assign rfl) rfl ?_
             refine ol_nil (to_k0 (fun _ _ h => h) (hK47 _ _ _ _ _ ?_))
             clear hK47
             refine hQ.ret (rvs2 (rv_c (id := 4) (n := 6) rfl rfl ag26 rfl) (rv_t rfl)) (fun _ _ h => h) fun w hb hs hB hkd => ?_
             refine ⟨?_, hb⟩
             have hck : ¬chkA (⟨A.name, A.sport, A.start, joinK A.ss D.ss (D.start - A.start) k, A.ls ++ fwdL (D.start - A.start) (D.ls.take j), tagR A.ts D.ts⟩ : ActD) ≠ 0 := hc142
             rw [hjr, if_neg (by omega), if_neg hck]
             exact ⟨oa, on, oc, ja, ln + j, jc, a113, _, c113, rfl, hs.three 1001 1002 1003 1001 1002 1003 (by decide) (by decide) (by decide) rfl rfl rfl (Ent.le_refl _) (Ent.le_refl _) (Ent.le_refl _)⟩
end Go.Proofs.Ytogcclagmobkiaa
