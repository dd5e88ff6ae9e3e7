/-
  Join: the reference.
-/
import Derived.Test.YtogcclagmobkiaaJoinH
import Derived.Test.YtogcclagmobkiaaTags
namespace Go.Proofs.Ytogcclagmobkiaa
open Go Go.RowKit Hx
set_option linter.unusedVariables false
set_option linter.unusedSimpArgs false
set_option maxRecDepth 8000
theorem ref3_Join (A D : ActV) (w : World) (hA : A.Ok w.heap.size w) (hD : D.Ok w.heap.size w) :
    Calls Try.prog 26 #[.agg #[.string A.name, .int .i64 A.sport, .int .i64 A.start, .slice A.sa A.sn A.sc, .slice A.la A.ln A.lc, .slice A.ta A.tn A.tc], .agg #[.string D.name, .int .i64 D.sport, .int .i64 D.start, .slice D.sa D.sn D.sc, .slice D.la D.ln D.lc, .slice D.ta D.tn D.tc]] w fun e w' => OutA w.heap.size w' (joinR A.d D.d) e ∧ Below w.heap.size w w' := by
  have hsn := hA.s.len
  have hln := hA.l.len
  have htn := hA.t.len
  have hsm := hD.s.len
  have hlm := hD.l.len
  have htm := hD.t.len
  refine enterQ (N := 131) (C := fun _ => True) (H := []) (B := w.heap.size) (args := [_, _]) Try.func26 rfl rfl rfl (Nat.le_refl _) (Sat.nil _ _) fun Q hQ => ?_
  refine wp_seq' fun K1 hK1 => ?_
  refine wp_reg ?_
  refine ol_box 2 rfl rfl rfl fun b2 => ?_
  refine ol_box 3 rfl rfl rfl fun b3 => ?_
  refine ol_alloc 4 z26 rfl fun b4 => ?_
  refine ol_r (r_assign rfl) rfl ?_
  refine ol_nil (to_k0 (fun _ _ h => h) (hK1 _ _ _ _ _ ?_))
  clear hK1
  refine wp_seq' fun K2 hK2 => ?_
  refine wp_seq' fun K3 hK3 => ?_
  refine wp_reg ?_
  refine ol_r (r_lda (id := 2) (n := 6) rfl rfl rfl ag26) rfl ?_
  refine ol_call rfl rfl cb44 rfl (fun w1 hb1 hs1 hB1 => Calls.mono (ref2_Check A _ (hA.at hb1 hB1)) ?_)
  rintro e w2 ⟨rfl, hb2⟩
  refine After.below rfl hb1 hs1 hB1 hb2 ?_
  clear hb2 hB1 hs1 hb1 w2 w1
  refine ol_r (r_assign rfl) rfl ?_
  refine ol_nil (to_k0 (fun _ _ h => h) (hK3 _ _ _ _ _ ?_))
  clear hK3
  refine wp_seq' fun K4 hK4 => ?_
  refine wp_reg ?_
  refine ol_r (r_move rfl) rfl ?_
  refine ol_r (r_neq rfl rfl) rfl ?_
  refine ol_nil (to_k0 (fun _ _ h => h) (hK4 _ _ _ _ _ ?_))
  clear hK4
  first | refine wp_condD rfl (fun hc18 => ?_) (fun hc18 => ?_) | refine wp_condN rfl (fun hc18 => ?_) (fun hc18 => ?_) | refine wp_condNB rfl (fun hc18 => ?_) (fun hc18 => ?_) | refine wp_cond' rfl (fun hc18 => ?_) (fun hc18 => ?_)
  ·refine wp_seq' fun K5 hK5 => ?_
   refine wp_reg ?_
   refine ol_r (r_build rfl (fun _ => bd26 _)) rfl ?_
   refine ol_r (r_move rfl) rfl ?_
   refine ol_store (id := 4) rfl rfl rfl rfl sz26 rfl rfl (by first | decide | exact Nat.zero_lt_succ _ | simp) ?_
   refine ol_r (r_assign rfl) rfl ?_
   refine ol_nil (to_k0 (fun _ _ h => h) (hK5 _ _ _ _ _ ?_))
   clear hK5
   refine hQ.ret (rvs2 (rv_c (id := 4) (n := 6) rfl rfl ag26 rfl) (rv_t rfl)) (fun _ _ h => h) fun w hb hs hB hkd => ?_
   exact ⟨outA_no (joinR_a hc18), hb⟩
  ·refine wp_skip' (to_k0 (fun _ _ h => h) (hK2 _ _ _ _ _ ?_))
   clear hK2
   refine wp_seq' fun K6 hK6 => ?_
   refine wp_seq' fun K7 hK7 => ?_
   refine wp_reg ?_
   refine ol_r (r_lda (id := 3) (n := 6) rfl rfl rfl ag26) rfl ?_
   refine ol_call rfl rfl cb44 rfl (fun w1 hb1 hs1 hB1 => Calls.mono (ref2_Check D _ (hD.at hb1 hB1)) ?_)
   rintro e w2 ⟨rfl, hb2⟩
   refine After.below rfl hb1 hs1 hB1 hb2 ?_
   clear hb2 hB1 hs1 hb1 w2 w1
   refine ol_r (r_assign rfl) rfl ?_
   refine ol_nil (to_k0 (fun _ _ h => h) (hK7 _ _ _ _ _ ?_))
   clear hK7
   refine wp_seq' fun K8 hK8 => ?_
   refine wp_reg ?_
   refine ol_r (r_move rfl) rfl ?_
   refine ol_r (r_neq rfl rfl) rfl ?_
   refine ol_nil (to_k0 (fun _ _ h => h) (hK8 _ _ _ _ _ ?_))
   clear hK8
   first | refine wp_condD rfl (fun hc24 => ?_) (fun hc24 => ?_) | refine wp_condN rfl (fun hc24 => ?_) (fun hc24 => ?_) | refine wp_condNB rfl (fun hc24 => ?_) (fun hc24 => ?_) | refine wp_cond' rfl (fun hc24 => ?_) (fun hc24 => ?_)
   ·refine wp_seq' fun K9 hK9 => ?_
    refine wp_reg ?_
    refine ol_r (r_build rfl (fun _ => bd26 _)) rfl ?_
    refine ol_r (r_move rfl) rfl ?_
    refine ol_store (id := 4) rfl rfl rfl rfl sz26 rfl rfl (by first | decide | exact Nat.zero_lt_succ _ | simp) ?_
    refine ol_r (r_assign rfl) rfl ?_
    refine ol_nil (to_k0 (fun _ _ h => h) (hK9 _ _ _ _ _ ?_))
    clear hK9
    refine hQ.ret (rvs2 (rv_c (id := 4) (n := 6) rfl rfl ag26 rfl) (rv_t rfl)) (fun _ _ h => h) fun w hb hs hB hkd => ?_
    exact ⟨outA_no (joinR_b (fun h => h (Decidable.not_not.1 hc18)) hc24), hb⟩
   ·refine wp_skip' (to_k0 (fun _ _ h => h) (hK6 _ _ _ _ _ ?_))
    clear hK6
    refine wp_seq' fun K10 hK10 => ?_
    refine wp_seq' fun K11 hK11 => ?_
    refine wp_reg ?_
    refine ol_r (r_fa (o' := 1) rfl fl26_1 rfl) rfl ?_
    refine ol_r (r_ld (id := 2) rfl rfl rfl sc3) rfl ?_
    refine ol_r (r_fa (o' := 1) rfl fl26_1 rfl) rfl ?_
    refine ol_r (r_ld (id := 3) rfl rfl rfl sc3) rfl ?_
    refine ol_r (r_neq rfl rfl) rfl ?_
    refine ol_nil (to_k0 (fun _ _ h => h) (hK11 _ _ _ _ _ ?_))
    clear hK11
    first | refine wp_condD rfl (fun hc31 => ?_) (fun hc31 => ?_) | refine wp_condN rfl (fun hc31 => ?_) (fun hc31 => ?_) | refine wp_condNB rfl (fun hc31 => ?_) (fun hc31 => ?_) | refine wp_cond' rfl (fun hc31 => ?_) (fun hc31 => ?_)
    ·refine wp_seq' fun K12 hK12 => ?_
     refine wp_reg ?_
     refine ol_r (r_build rfl (fun _ => bd26 _)) rfl ?_
     refine ol_store (id := 4) rfl rfl rfl rfl sz26 rfl rfl (by first | decide | exact Nat.zero_lt_succ _ | simp) ?_
     refine ol_r (r_assign rfl) rfl ?_
     refine ol_nil (to_k0 (fun _ _ h => h) (hK12 _ _ _ _ _ ?_))
     clear hK12
     refine hQ.ret (rvs2 (rv_c (id := 4) (n := 6) rfl rfl ag26 rfl) (rv_t rfl)) (fun _ _ h => h) fun w hb hs hB hkd => ?_
     exact ⟨outA_no (joinR_7 (fun h => h (Decidable.not_not.1 hc18)) (fun h => h (Decidable.not_not.1 hc24)) hc31), hb⟩
    ·refine wp_skip' (to_k0 (fun _ _ h => h) (hK10 _ _ _ _ _ ?_))
     clear hK10
     refine wp_seq' fun K13 hK13 => ?_
     refine wp_reg ?_
     have h0 : chkA A.d = 0 := Decidable.not_not.1 hc18
     have h1 : chkA D.d = 0 := Decidable.not_not.1 hc24
     have hg := goodA h0
     have hgd := goodA h1
     have hok : SmpOk A.start A.ss := hg.smp
     have hokd : SmpOk D.start D.ss := hgd.smp
     have hsp := hok.span
     have hst := inB_iff.1 hg.head.2.2.1
     have hstd := inB_iff.1 hgd.head.2.2.1
     obtain ⟨g4, g5, g6⟩ := hg.head.2.2.2
     obtain ⟨d4, d5, d6⟩ := hgd.head.2.2.2
     have hlb := lap_bd hgd
     have hspd := hokd.span
     dsimp only [ActV.d] at hst hstd g4 g5 g6 d4 d5 d6 hlb
     refine ol_r (r_fa (o' := 2) rfl fl26_2 rfl) rfl ?_
     refine ol_r (r_ld (id := 3) rfl rfl rfl sc3) rfl ?_
     refine ol_r (r_fa (o' := 2) rfl fl26_2 rfl) rfl ?_
     refine ol_r (r_ld (id := 2) rfl rfl rfl sc3) rfl ?_
     refine ol_r (r_sub rfl rfl (by omega)) rfl ?_
     refine ol_r (r_assign rfl) rfl ?_
     refine ol_nil (to_k0 (fun _ _ h => h) (hK13 _ _ _ _ _ ?_))
     clear hK13
     refine wp_seq' fun K14 hK14 => ?_
     refine wp_reg ?_
     refine ol_r (r_lda (id := 2) (n := 6) rfl rfl rfl ag26) rfl ?_
     refine ol_call rfl rfl cb46 rfl (fun w1 hb1 hs1 hB1 => Calls.mono (ref2_SpanOf A _ (hA.at hb1 hB1)) ?_)
     rintro e w2 ⟨rfl, hb2⟩
     refine After.below rfl hb1 hs1 hB1 hb2 ?_
     clear hb2 hB1 hs1 hb1 w2 w1
     refine ol_r (r_assign rfl) rfl ?_
     refine ol_nil (to_k0 (fun _ _ h => h) (hK14 _ _ _ _ _ ?_))
     clear hK14
     refine wp_seq' fun K15 hK15 => ?_
     refine wp_seq' fun K16 hK16 => ?_
     refine wp_reg ?_
     refine ol_r (r_move rfl) rfl ?_
     refine ol_r (r_move rfl) rfl ?_
     refine ol_r (r_lss rfl rfl) rfl ?_
     refine ol_nil (to_k0 (fun _ _ h => h) (hK16 _ _ _ _ _ ?_))
     clear hK16
     first | refine wp_condD rfl (fun hc42 => ?_) (fun hc42 => ?_) | refine wp_condN rfl (fun hc42 => ?_) (fun hc42 => ?_) | refine wp_condNB rfl (fun hc42 => ?_) (fun hc42 => ?_) | refine wp_cond' rfl (fun hc42 => ?_) (fun hc42 => ?_)
     ·refine wp_seq' fun K17 hK17 => ?_
      refine wp_reg ?_
      refine ol_r (r_build rfl (fun _ => bd26 _)) rfl ?_
      refine ol_store (id := 4) rfl rfl rfl rfl sz26 rfl rfl (by first | decide | exact Nat.zero_lt_succ _ | simp) ?_
      refine ol_r (r_assign rfl) rfl ?_
      refine ol_nil (to_k0 (fun _ _ h => h) (hK17 _ _ _ _ _ ?_))
      clear hK17
      refine hQ.ret (rvs2 (rv_c (id := 4) (n := 6) rfl rfl ag26 rfl) (rv_t rfl)) (fun _ _ h => h) fun w hb hs hB hkd => ?_
      exact ⟨outA_no (joinR_11 (fun h => h h0) (fun h => h h1) hc31 (by show D.start - A.start < spanL A.ss; omega)), hb⟩
     ·refine wp_skip' (to_k0 (fun _ _ h => h) (hK15 _ _ _ _ _ ?_))
      clear hK15
      refine wp_seq' fun K18 hK18 => ?_
      refine wp_reg ?_
      refine ol_r (r_lda (id := 2) (n := 6) rfl rfl rfl ag26) rfl ?_
      refine ol_call rfl rfl cb49 rfl (fun w1 hb1 hs1 hB1 => ?_)
      refine Calls.mono (ref3_copied A _ (hA.at hb1 hB1) (by omega) (by omega) (by omega)) ?_
      rintro e w2 ⟨sa, sc, la, lc, ta, tc, rfl, hb2, hs2⟩
      refine After.more rfl hb1 hs1 hB1 hb2 hs2 ?_
      clear hs2 hb2 hB1 hs1 hb1 w2 w1
      refine ol_alloc 10 z26 rfl fun b10 => ?_
      refine ol_store (id := 10) rfl rfl rfl rfl sz26 rfl rfl (by first | decide | exact Nat.zero_lt_succ _ | simp) ?_
      refine ol_nil (to_k0 (fun _ _ h => h) (hK18 _ _ _ _ _ ?_))
      clear hK18
      refine wp_seq' fun K19 hK19 => ?_
      refine wp_seq' fun K20 hK20 => ?_
      refine wp_reg ?_
      refine ol_r (r_fa (o' := 3) rfl fl26_3 rfl) rfl ?_
      refine ol_r (r_ld (id := 3) rfl rfl rfl sc22) rfl ?_
      refine ol_r (r_len rfl sl22) rfl ?_
      refine ol_r (r_move rfl) rfl ?_
      refine ol_nil (to_k0 (fun _ _ h => h) (hK20 _ _ _ _ _ ?_))
      clear hK20
      refine wp_block' ?_
      apply wp_loopM (σ := Nat × Option Addr × Nat × Nat) (fun s => s.1 ≤ D.ss.length ∧ (joinK A.ss D.ss (D.start - A.start) s.1).length = s.2.2.1) (fun s => [(49, .int .i64 s.1)]) [(2, _), (3, _), (4, _), (5, _), (8, _), (9, _), (10, _), (47, _), (48, _)] (fun s => [(10, .blk b10 [(0, .string A.name), (1, .int .i64 A.sport), (2, .int .i64 A.start), (3, .slice s.2.1 s.2.2.1 s.2.2.2), (4, .slice la A.ln lc), (5, .slice ta A.tn tc)] 26), (1001, .row s.2.1 s.2.2.1 s.2.2.2 (encSmp.enc (joinK A.ss D.ss (D.start - A.start) s.1)) 28 7)]) [(2, _), (3, _), (4, _), (1002, _), (1003, _)] (fun s => D.ss.length - s.1) ((0, sa, A.sn, sc))
      ·try dsimp only
       exact ⟨Nat.zero_le _, hsn⟩
      ·exact (sub_cons rfl sub_nil)
      ·exact (sub_cons rfl (sub_cons rfl (sub_cons rfl (sub_cons rfl (sub_cons rfl (sub_cons rfl (sub_cons rfl (sub_cons rfl (sub_cons rfl sub_nil)))))))))
      ·exact (subH_blk rfl (sub_cons rfl (sub_cons rfl (sub_cons rfl (sub_cons rfl (sub_cons rfl (sub_cons rfl sub_nil)))))) (subH_row rfl (by first | (dsimp only; rfl; done) | (rfl; done) | (dsimp only; done)) subH_nil))
      ·exact (subH_same rfl (subH_same rfl (subH_same rfl (subH_same rfl (subH_same rfl subH_nil)))))
      ·rintro ⟨k, oa, on, oc⟩ ⟨hk, hon⟩
       dsimp only at hk hon ⊢
       have hjl := joinK_len A.ss D.ss (D.start - A.start) k
       intro K21 hK21
       refine wp_seq' fun K22 hK22 => ?_
       refine wp_reg ?_
       refine ol_r (r_lss rfl rfl) rfl ?_
       refine ol_nil (to_k0 (fun _ _ h => h) (hK22 _ _ _ _ _ ?_))
       clear hK22
       refine wp_seq' fun K23 hK23 => ?_
       first | refine wp_condD rfl (fun hc50 => ?_) (fun hc50 => ?_) | refine wp_condN rfl (fun hc50 => ?_) (fun hc50 => ?_) | refine wp_condNB rfl (fun hc50 => ?_) (fun hc50 => ?_) | refine wp_cond' rfl (fun hc50 => ?_) (fun hc50 => ?_)
       ·refine wp_skip' (to_k0 (fun _ _ h => h) (hK23 _ _ _ _ _ ?_))
        clear hK23
        refine wp_seq' fun K24 hK24 => ?_
        refine wp_block' ?_
        refine wp_seq' fun K25 hK25 => ?_
        refine wp_reg ?_
        refine ol_r (r_move rfl) rfl ?_
        refine ol_ixr hD.s rfl rfl sl22 (by omega) rfl fun x52 hx52 => ?_
        try simp only [Int.toNat_natCast] at hx52
        refine ol_r (r_ldw rfl (fun w1 hb1 hs1 hB1 => Rd.loads hD.s ty28 hx52 hb1)) rfl ?_
        refine ol_alloc 12 z28 rfl fun b12 => ?_
        refine ol_r (r_assign rfl) rfl ?_
        refine ol_store (id := 12) rfl rfl rfl rfl sz28 rfl rfl (by first | decide | exact Nat.zero_lt_succ _ | simp) ?_
        refine ol_nil (to_k0 (fun _ _ h => h) (hK25 _ _ _ _ _ ?_))
        clear hK25
        refine wp_seq' fun K26 hK26 => ?_
        refine wp_reg ?_
        refine ol_r (r_fa (o' := 0) rfl fl28_0 rfl) rfl ?_
        refine ol_r (r_ld (id := 12) rfl rfl rfl sc3) rfl ?_
        refine ol_r (r_move rfl) rfl ?_
        have hbx := hokd.bd _ (List.mem_of_getElem? hx52)
        refine ol_r (r_add rfl rfl (by omega)) rfl ?_
        refine ol_r (r_fa (o' := 0) rfl fl28_0 rfl) rfl ?_
        refine ol_store (id := 12) rfl rfl rfl rfl sz3 rfl rfl (by first | decide | exact Nat.zero_lt_succ _ | simp) ?_
        refine ol_nil (to_k0 (fun _ _ h => h) (hK26 _ _ _ _ _ ?_))
        clear hK26
        refine wp_seq' fun K27 hK27 => ?_
        refine wp_reg ?_
        refine ol_r (r_move rfl) rfl ?_
        refine ol_r (r_gtr rfl rfl) rfl ?_
        refine ol_r (r_move rfl) rfl ?_
        refine ol_split (d := 61) rfl (fun hs61 => ?_) (fun hs61 => ?_)
        ·have phs61 := hs61; try simp only [decide_eq_true_eq, decide_eq_false_iff_not, Bool.not_eq_true', Bool.not_eq_false', Bool.not_true, Bool.not_false] at phs61
         refine ol_s rfl rfl hs61 rfl ?_
         refine ol_s rfl rfl hs61 rfl ?_
         refine ol_s rfl rfl hs61 rfl ?_
         refine ol_s rfl rfl hs61 rfl ?_
         refine ol_r (r_pickT rfl hs61 rfl) rfl ?_
         refine ol_r (r_move rfl) rfl ?_
         refine ol_s rfl rfl rfl rfl ?_
         refine ol_s rfl rfl rfl rfl ?_
         refine ol_s rfl rfl rfl rfl ?_
         refine ol_s rfl rfl rfl rfl ?_
         refine ol_r (r_pickT rfl rfl rfl) rfl ?_
         refine ol_nil (to_k0 (fun _ _ h => h) (hK27 _ _ _ _ _ ?_))
         clear hK27
         refine wp_condT rfl ?_
         refine wp_reg ?_
         have hyes : 0 < k ∨ A.ss.length = 0 ∨ spanL A.ss < x52.at_ + (D.start - A.start) := by omega
         refine ol_r (r_fa (o' := 3) rfl fl26_3 rfl) rfl ?_
         refine ol_r (r_ld (id := 10) rfl rfl rfl sc22) rfl ?_
         refine ol_r (r_lda (id := 12) (n := 7) rfl rfl rfl ag28) rfl ?_
         refine ol_bs1 76 rfl rfl rw22 rfl rfl rfl fun a76 => ?_
         refine ol_append1 (id := 1001) (id2 := 76) rfl rfl rfl rfl rfl rw22 (by omega) rfl fun a77 c77 => ?_
         refine ol_r (r_fa (o' := 3) rfl fl26_3 rfl) rfl ?_
         refine ol_store (id := 10) rfl rfl rfl rfl sz22 rfl rfl (by first | decide | exact Nat.zero_lt_succ _ | simp) ?_
         refine ol_nil (to_k0 (fun _ _ h => h) (hK24 _ _ _ _ _ ?_))
         clear hK24
         refine wp_reg ?_
         first
           | (change _ at hyes; skip)
           | (have hno : ¬(0 < k ∨ A.ss.length = 0 ∨ spanL A.ss < x52.at_ + (D.start - A.start)) := by omega
              skip)
         refine ol_r (r_add rfl rfl (by omega)) rfl ?_
         refine ol_r (r_move rfl) rfl ?_
         refine ol_nil (to_k0 (fun _ _ h => h) (hK21 ((k + 1, _, _, _)) _ _ ?_ ?_ (sub_cons rfl sub_nil) (sub_cons rfl (sub_cons rfl (sub_cons rfl (sub_cons rfl (sub_cons rfl (sub_cons rfl (sub_cons rfl (sub_cons rfl (sub_cons rfl sub_nil))))))))) (by exact (subH_blk rfl (sub_cons rfl (sub_cons rfl (sub_cons rfl (sub_cons rfl (sub_cons rfl (sub_cons rfl sub_nil)))))) (subH_row rfl (by first | (dsimp only; first | (change _ at hyes; rw [joinK_yes hx52 hyes, Enc.enc_append]; rfl) | (change _ at hno; rw [joinK_no hx52 hno]); done) | (first | (change _ at hyes; rw [joinK_yes hx52 hyes, Enc.enc_append]; rfl) | (change _ at hno; rw [joinK_no hx52 hno]); done) | (dsimp only; done)) subH_nil))) (subH_same rfl (subH_same rfl (subH_same rfl (subH_same rfl (subH_same rfl subH_nil)))))))
         ·try dsimp only
          first
            | (change _ at hyes
               exact ⟨by omega, by rw [joinK_yes hx52 hyes, List.length_append, hon]; rfl⟩)
            | (change _ at hno
               exact ⟨by omega, by rw [joinK_no hx52 hno]; exact hon⟩)
         ·try dsimp only
          omega
        ·have phs61 := hs61; try simp only [decide_eq_true_eq, decide_eq_false_iff_not, Bool.not_eq_true', Bool.not_eq_false', Bool.not_true, Bool.not_false] at phs61
         refine ol_g rfl rfl hs61 ?_
         refine ol_r (r_fa (o' := 3) rfl fl26_3 rfl) rfl ?_
         refine ol_g rfl rfl hs61 ?_
         refine ol_r (r_ld (id := 2) rfl rfl rfl sc22) rfl ?_
         refine ol_g rfl rfl hs61 ?_
         refine ol_r (r_len rfl sl22) rfl ?_
         refine ol_g rfl rfl hs61 ?_
         refine ol_r (r_eql rfl rfl) rfl ?_
         refine ol_r (r_pickF rfl hs61 rfl) rfl ?_
         refine ol_r (r_move rfl) rfl ?_
         refine ol_split (d := 67) rfl (fun hs67 => ?_) (fun hs67 => ?_)
         ·have phs67 := hs67; try simp only [decide_eq_true_eq, decide_eq_false_iff_not, Bool.not_eq_true', Bool.not_eq_false', Bool.not_true, Bool.not_false] at phs67
          refine ol_s rfl rfl hs67 rfl ?_
          refine ol_s rfl rfl hs67 rfl ?_
          refine ol_s rfl rfl hs67 rfl ?_
          refine ol_s rfl rfl hs67 rfl ?_
          refine ol_r (r_pickT rfl hs67 rfl) rfl ?_
          refine ol_nil (to_k0 (fun _ _ h => h) (hK27 _ _ _ _ _ ?_))
          clear hK27
          refine wp_condT rfl ?_
          refine wp_reg ?_
          have hyes : 0 < k ∨ A.ss.length = 0 ∨ spanL A.ss < x52.at_ + (D.start - A.start) := by omega
          refine ol_r (r_fa (o' := 3) rfl fl26_3 rfl) rfl ?_
          refine ol_r (r_ld (id := 10) rfl rfl rfl sc22) rfl ?_
          refine ol_r (r_lda (id := 12) (n := 7) rfl rfl rfl ag28) rfl ?_
          refine ol_bs1 76 rfl rfl rw22 rfl rfl rfl fun a76 => ?_
          refine ol_append1 (id := 1001) (id2 := 76) rfl rfl rfl rfl rfl rw22 (by omega) rfl fun a77 c77 => ?_
          refine ol_r (r_fa (o' := 3) rfl fl26_3 rfl) rfl ?_
          refine ol_store (id := 10) rfl rfl rfl rfl sz22 rfl rfl (by first | decide | exact Nat.zero_lt_succ _ | simp) ?_
          refine ol_nil (to_k0 (fun _ _ h => h) (hK24 _ _ _ _ _ ?_))
          clear hK24
          refine wp_reg ?_
          first
            | (change _ at hyes; skip)
            | (have hno : ¬(0 < k ∨ A.ss.length = 0 ∨ spanL A.ss < x52.at_ + (D.start - A.start)) := by omega
               skip)
          refine ol_r (r_add rfl rfl (by omega)) rfl ?_
          refine ol_r (r_move rfl) rfl ?_
          refine ol_nil (to_k0 (fun _ _ h => h) (hK21 ((k + 1, _, _, _)) _ _ ?_ ?_ (sub_cons rfl sub_nil) (sub_cons rfl (sub_cons rfl (sub_cons rfl (sub_cons rfl (sub_cons rfl (sub_cons rfl (sub_cons rfl (sub_cons rfl (sub_cons rfl sub_nil))))))))) (by exact (subH_blk rfl (sub_cons rfl (sub_cons rfl (sub_cons rfl (sub_cons rfl (sub_cons rfl (sub_cons rfl sub_nil)))))) (subH_row rfl (by first | (dsimp only; first | (change _ at hyes; rw [joinK_yes hx52 hyes, Enc.enc_append]; rfl) | (change _ at hno; rw [joinK_no hx52 hno]); done) | (first | (change _ at hyes; rw [joinK_yes hx52 hyes, Enc.enc_append]; rfl) | (change _ at hno; rw [joinK_no hx52 hno]); done) | (dsimp only; done)) subH_nil))) (subH_same rfl (subH_same rfl (subH_same rfl (subH_same rfl (subH_same rfl subH_nil)))))))
          ·try dsimp only
           first
             | (change _ at hyes
                exact ⟨by omega, by rw [joinK_yes hx52 hyes, List.length_append, hon]; rfl⟩)
             | (change _ at hno
                exact ⟨by omega, by rw [joinK_no hx52 hno]; exact hon⟩)
          ·try dsimp only
           omega
         ·have phs67 := hs67; try simp only [decide_eq_true_eq, decide_eq_false_iff_not, Bool.not_eq_true', Bool.not_eq_false', Bool.not_true, Bool.not_false] at phs67
          refine ol_g rfl rfl hs67 ?_
          refine ol_r (r_fa (o' := 0) rfl fl28_0 rfl) rfl ?_
          refine ol_g rfl rfl hs67 ?_
          refine ol_r (r_ld (id := 12) rfl rfl rfl sc3) rfl ?_
          refine ol_g rfl rfl hs67 ?_
          refine ol_r (r_move rfl) rfl ?_
          refine ol_g rfl rfl hs67 ?_
          refine ol_r (r_gtr rfl rfl) rfl ?_
          refine ol_r (r_pickF rfl hs67 rfl) rfl ?_
          refine ol_nil (to_k0 (fun _ _ h => h) (hK27 _ _ _ _ _ ?_))
          clear hK27
          first | refine wp_condD rfl (fun hc72 => ?_) (fun hc72 => ?_) | refine wp_condN rfl (fun hc72 => ?_) (fun hc72 => ?_) | refine wp_condNB rfl (fun hc72 => ?_) (fun hc72 => ?_) | refine wp_cond' rfl (fun hc72 => ?_) (fun hc72 => ?_)
          ·refine wp_reg ?_
           have hyes : 0 < k ∨ A.ss.length = 0 ∨ spanL A.ss < x52.at_ + (D.start - A.start) := by omega
           refine ol_r (r_fa (o' := 3) rfl fl26_3 rfl) rfl ?_
           refine ol_r (r_ld (id := 10) rfl rfl rfl sc22) rfl ?_
           refine ol_r (r_lda (id := 12) (n := 7) rfl rfl rfl ag28) rfl ?_
           refine ol_bs1 76 rfl rfl rw22 rfl rfl rfl fun a76 => ?_
           refine ol_append1 (id := 1001) (id2 := 76) rfl rfl rfl rfl rfl rw22 (by omega) rfl fun a77 c77 => ?_
           refine ol_r (r_fa (o' := 3) rfl fl26_3 rfl) rfl ?_
           refine ol_store (id := 10) rfl rfl rfl rfl sz22 rfl rfl (by first | decide | exact Nat.zero_lt_succ _ | simp) ?_
           refine ol_nil (to_k0 (fun _ _ h => h) (hK24 _ _ _ _ _ ?_))
           clear hK24
           refine wp_reg ?_
           first
             | (change _ at hyes; skip)
             | (have hno : ¬(0 < k ∨ A.ss.length = 0 ∨ spanL A.ss < x52.at_ + (D.start - A.start)) := by omega
                skip)
           refine ol_r (r_add rfl rfl (by omega)) rfl ?_
           refine ol_r (r_move rfl) rfl ?_
           refine ol_nil (to_k0 (fun _ _ h => h) (hK21 ((k + 1, _, _, _)) _ _ ?_ ?_ (sub_cons rfl sub_nil) (sub_cons rfl (sub_cons rfl (sub_cons rfl (sub_cons rfl (sub_cons rfl (sub_cons rfl (sub_cons rfl (sub_cons rfl (sub_cons rfl sub_nil))))))))) (by exact (subH_blk rfl (sub_cons rfl (sub_cons rfl (sub_cons rfl (sub_cons rfl (sub_cons rfl (sub_cons rfl sub_nil)))))) (subH_row rfl (by first | (dsimp only; first | (change _ at hyes; rw [joinK_yes hx52 hyes, Enc.enc_append]; rfl) | (change _ at hno; rw [joinK_no hx52 hno]); done) | (first | (change _ at hyes; rw [joinK_yes hx52 hyes, Enc.enc_append]; rfl) | (change _ at hno; rw [joinK_no hx52 hno]); done) | (dsimp only; done)) subH_nil))) (subH_same rfl (subH_same rfl (subH_same rfl (subH_same rfl (subH_same rfl subH_nil)))))))
           ·try dsimp only
            first
              | (change _ at hyes
                 exact ⟨by omega, by rw [joinK_yes hx52 hyes, List.length_append, hon]; rfl⟩)
              | (change _ at hno
                 exact ⟨by omega, by rw [joinK_no hx52 hno]; exact hon⟩)
           ·try dsimp only
            omega
          ·refine wp_skip' (to_k0 (fun _ _ h => h) (hK24 _ _ _ _ _ ?_))
           clear hK24
           refine wp_reg ?_
           first
             | (change _ at hyes; skip)
             | (have hno : ¬(0 < k ∨ A.ss.length = 0 ∨ spanL A.ss < x52.at_ + (D.start - A.start)) := by omega
                skip)
           refine ol_r (r_add rfl rfl (by omega)) rfl ?_
           refine ol_r (r_move rfl) rfl ?_
           refine ol_nil (to_k0 (fun _ _ h => h) (hK21 ((k + 1, _, _, _)) _ _ ?_ ?_ (sub_cons rfl sub_nil) (sub_cons rfl (sub_cons rfl (sub_cons rfl (sub_cons rfl (sub_cons rfl (sub_cons rfl (sub_cons rfl (sub_cons rfl (sub_cons rfl sub_nil))))))))) (by exact (subH_blk rfl (sub_cons rfl (sub_cons rfl (sub_cons rfl (sub_cons rfl (sub_cons rfl (sub_cons rfl sub_nil)))))) (subH_row rfl (by first | (dsimp only; first | (change _ at hyes; rw [joinK_yes hx52 hyes, Enc.enc_append]; rfl) | (change _ at hno; rw [joinK_no hx52 hno]); done) | (first | (change _ at hyes; rw [joinK_yes hx52 hyes, Enc.enc_append]; rfl) | (change _ at hno; rw [joinK_no hx52 hno]); done) | (dsimp only; done)) subH_nil))) (subH_same rfl (subH_same rfl (subH_same rfl (subH_same rfl (subH_same rfl subH_nil)))))))
           ·try dsimp only
            first
              | (change _ at hyes
                 exact ⟨by omega, by rw [joinK_yes hx52 hyes, List.length_append, hon]; rfl⟩)
              | (change _ at hno
                 exact ⟨by omega, by rw [joinK_no hx52 hno]; exact hon⟩)
           ·try dsimp only
            omega
       ·refine wp_exit' (to_k0 (fun _ _ h => h) (hK19 _ _ _ _ _ ?_))
        clear hK19
        refine wp_seq' fun K28 hK28 => ?_
        refine wp_seq' fun K29 hK29 => ?_
        refine wp_reg ?_
        refine ol_r (r_fa (o' := 4) rfl fl26_4 rfl) rfl ?_
        refine ol_r (r_ld (id := 3) rfl rfl rfl sc23) rfl ?_
        refine ol_r (r_len rfl sl23) rfl ?_
        refine ol_r (r_move rfl) rfl ?_
        refine ol_nil (to_k0 (fun _ _ h => h) (hK29 _ _ _ _ _ ?_))
        clear hK29
        refine wp_block' ?_
        apply wp_loopM (σ := Nat × Option Addr × Nat) (fun s => s.1 ≤ D.ls.length) (fun s => [(83, .int .i64 s.1)]) [(2, _), (3, _), (4, _), (5, _), (8, _), (10, _), (81, _), (82, _)] (fun s => [(10, .blk b10 [(0, .string A.name), (1, .int .i64 A.sport), (2, .int .i64 A.start), (3, .slice oa on oc), (4, .slice s.2.1 (A.ln + s.1) s.2.2), (5, .slice ta A.tn tc)] 26), (1002, .row s.2.1 (A.ln + s.1) s.2.2 (encLap.enc (A.ls ++ fwdL (D.start - A.start) (D.ls.take s.1))) 66 3)]) [(2, _), (3, _), (4, _), (1001, _), (1003, _)] (fun s => D.ls.length - s.1) ((0, la, lc))
        ·try dsimp only
         exact Nat.zero_le _
        ·exact (sub_cons rfl sub_nil)
        ·exact (sub_cons rfl (sub_cons rfl (sub_cons rfl (sub_cons rfl (sub_cons rfl (sub_cons rfl (sub_cons rfl (sub_cons rfl sub_nil))))))))
        ·exact (subH_blk rfl (sub_cons rfl (sub_cons rfl (sub_cons rfl (sub_cons rfl (sub_cons rfl (sub_cons rfl sub_nil)))))) (subH_row rfl (by first | (dsimp only; first | rfl | (simp [fwdL]); done) | (first | rfl | (simp [fwdL]); done) | (dsimp only; done)) subH_nil))
        ·exact (subH_same rfl (subH_same rfl (subH_same rfl (subH_same rfl (subH_same rfl subH_nil)))))
        ·rintro ⟨j, ja, jc⟩ hj
         dsimp only at hj ⊢
         intro K30 hK30
         refine wp_seq' fun K31 hK31 => ?_
         refine wp_reg ?_
         refine ol_r (r_lss rfl rfl) rfl ?_
         refine ol_nil (to_k0 (fun _ _ h => h) (hK31 _ _ _ _ _ ?_))
         clear hK31
         refine wp_seq' fun K32 hK32 => ?_
         first | refine wp_condD rfl (fun hc84 => ?_) (fun hc84 => ?_) | refine wp_condN rfl (fun hc84 => ?_) (fun hc84 => ?_) | refine wp_condNB rfl (fun hc84 => ?_) (fun hc84 => ?_) | refine wp_cond' rfl (fun hc84 => ?_) (fun hc84 => ?_)
         ·refine wp_skip' (to_k0 (fun _ _ h => h) (hK32 _ _ _ _ _ ?_))
          clear hK32
          refine wp_seq' fun K33 hK33 => ?_
          refine wp_block' ?_
          refine wp_seq' fun K34 hK34 => ?_
          refine wp_reg ?_
          refine ol_ixr hD.l rfl rfl sl23 (by omega) rfl fun x85 hx85 => ?_
          try simp only [Int.toNat_natCast] at hx85
          refine ol_r (r_ldw rfl (fun w1 hb1 hs1 hB1 => Rd.loads hD.l ty66 hx85 hb1)) rfl ?_
          refine ol_alloc 14 z66 rfl fun b14 => ?_
          refine ol_store (id := 14) rfl rfl rfl rfl sz66 rfl rfl (by first | decide | exact Nat.zero_lt_succ _ | simp) ?_
          refine ol_nil (to_k0 (fun _ _ h => h) (hK34 _ _ _ _ _ ?_))
          clear hK34
          refine wp_reg ?_
          refine ol_r (r_fa (o' := 4) rfl fl26_4 rfl) rfl ?_
          refine ol_r (r_ld (id := 10) rfl rfl rfl sc23) rfl ?_
          refine ol_r (r_fa (o' := 0) rfl fl66_0 rfl) rfl ?_
          refine ol_r (r_ld (id := 14) rfl rfl rfl sc3) rfl ?_
          refine ol_r (r_move rfl) rfl ?_
          have hbl := hlb _ (List.mem_of_getElem? hx85)
          refine ol_r (r_add rfl rfl (by omega)) rfl ?_
          refine ol_r (r_fa (o' := 1) rfl fl66_1 rfl) rfl ?_
          refine ol_r (r_ld (id := 14) rfl rfl rfl sc3) rfl ?_
          refine ol_r (r_move rfl) rfl ?_
          refine ol_r (r_add rfl rfl (by omega)) rfl ?_
          refine ol_r (r_fa (o' := 2) rfl fl66_2 rfl) rfl ?_
          refine ol_r (r_ld (id := 14) rfl rfl rfl sc9) rfl ?_
          refine ol_r (r_build rfl (fun _ => bd66_0_1_2 _ _ _ _)) rfl ?_
          refine ol_bs1 100 rfl rfl rw23 rfl rfl rfl fun a100 => ?_
          refine ol_append1 (id := 1002) (id2 := 100) rfl rfl rfl rfl rfl rw23 (by omega) rfl fun a101 c101 => ?_
          refine ol_r (r_fa (o' := 4) rfl fl26_4 rfl) rfl ?_
          refine ol_store (id := 10) rfl rfl rfl rfl sz23 rfl rfl (by first | decide | exact Nat.zero_lt_succ _ | simp) ?_
          refine ol_nil (to_k0 (fun _ _ h => h) (hK33 _ _ _ _ _ ?_))
          clear hK33
          refine wp_reg ?_
          refine ol_r (r_add rfl rfl (by omega)) rfl ?_
          refine ol_r (r_move rfl) rfl ?_
          refine ol_nil (to_k0 (fun _ _ h => h) (hK30 ((j + 1, _, _)) _ _ ?_ ?_ (sub_cons rfl sub_nil) (sub_cons rfl (sub_cons rfl (sub_cons rfl (sub_cons rfl (sub_cons rfl (sub_cons rfl (sub_cons rfl (sub_cons rfl sub_nil)))))))) (by exact (subH_blk rfl (sub_cons rfl (sub_cons rfl (sub_cons rfl (sub_cons rfl (sub_cons rfl (sub_cons rfl sub_nil)))))) (subH_row rfl (by first | (dsimp only; rw [fwdL_succ hx85, ← List.append_assoc, Enc.enc_append]; rfl; done) | (rw [fwdL_succ hx85, ← List.append_assoc, Enc.enc_append]; rfl; done) | (dsimp only; done)) subH_nil))) (subH_same rfl (subH_same rfl (subH_same rfl (subH_same rfl (subH_same rfl subH_nil)))))))
          ·try dsimp only
           omega
          ·try dsimp only
           omega
         ·refine wp_exit' (to_k0 (fun _ _ h => h) (hK28 _ _ _ _ _ ?_))
          clear hK28
          refine wp_seq' fun K35 hK35 => ?_
          refine wp_reg ?_
          refine ol_r (r_fa (o' := 5) rfl fl26_5 rfl) rfl ?_
          refine ol_r (r_ld (id := 2) rfl rfl rfl sc24) rfl ?_
          refine ol_r (r_fa (o' := 5) rfl fl26_5 rfl) rfl ?_
          refine ol_r (r_ld (id := 3) rfl rfl rfl sc24) rfl ?_
          refine ol_call rfl rfl cb70 rfl (fun w1 hb1 hs1 hB1 => Calls.mono (ref3_Tags _ _ _ _ _ _ A.ts D.ts _ (hA.t.at hb1 hB1) (hD.t.at hb1 hB1) (by omega) (by omega)) ?_)
          rintro e w2 ⟨a108, n108, c108, rfl, hf108⟩
          refine After.fresh (id := 108) rfl hb1 hs1 hB1 hf108 ?_
          have hl108 := hf108.len; clear hf108 hB1 hs1 hb1 w2 w1
          refine ol_r (r_fa (o' := 5) rfl fl26_5 rfl) rfl ?_
          refine ol_store (id := 10) rfl rfl rfl rfl sz24 rfl rfl (by first | decide | exact Nat.zero_lt_succ _ | simp) ?_
          refine ol_nil (to_k0 (fun _ _ h => h) (hK35 _ _ _ _ _ ?_))
          clear hK35
          refine wp_seq' fun K36 hK36 => ?_
          refine wp_seq' fun K37 hK37 => ?_
          refine wp_reg ?_
          refine ol_r (r_fa (o' := 3) rfl fl26_3 rfl) rfl ?_
          refine ol_r (r_ld (id := 10) rfl rfl rfl sc22) rfl ?_
          refine ol_r (r_len rfl sl22) rfl ?_
          have hkk : k = D.ss.length := by omega
          have hjj : D.ls.take j = D.ls := List.take_of_length_le (by omega)
          have hls : (A.ls ++ fwdL (D.start - A.start) (D.ls.take j)).length = A.ln + j := by rw [List.length_append, fwdL, List.length_map, List.length_take]; omega
          have hdd : joinD A.d D.d = ⟨A.name, A.sport, A.start, joinK A.ss D.ss (D.start - A.start) k, A.ls ++ fwdL (D.start - A.start) (D.ls.take j), tagR A.ts D.ts⟩ := by rw [hjj, hkk]; rfl
          have hjr := joinR_d (a := A.d) (b := D.d) (fun h => h h0) (fun h => h h1) hc31 (by show ¬D.start - A.start < spanL A.ss; omega)
          rw [hdd] at hjr
          dsimp only at hjr
          rw [hon, hls, hl108] at hjr
          refine ol_r (r_gtr rfl rfl) rfl ?_
          refine ol_r (r_move rfl) rfl ?_
          refine ol_split (d := 114) rfl (fun hs114 => ?_) (fun hs114 => ?_)
          ·have phs114 := hs114; try simp only [decide_eq_true_eq, decide_eq_false_iff_not, Bool.not_eq_true', Bool.not_eq_false', Bool.not_true, Bool.not_false] at phs114
           refine ol_s rfl rfl hs114 rfl ?_
           refine ol_s rfl rfl hs114 rfl ?_
           refine ol_s rfl rfl hs114 rfl ?_
           refine ol_s rfl rfl hs114 rfl ?_
           refine ol_r (r_pickT rfl hs114 rfl) rfl ?_
           refine ol_r (r_move rfl) rfl ?_
           refine ol_s rfl rfl rfl rfl ?_
           refine ol_s rfl rfl rfl rfl ?_
           refine ol_s rfl rfl rfl rfl ?_
           refine ol_s rfl rfl rfl rfl ?_
           refine ol_r (r_pickT rfl rfl rfl) rfl ?_
           refine ol_nil (to_k0 (fun _ _ h => h) (hK37 _ _ _ _ _ ?_))
           clear hK37
           refine wp_condT rfl ?_
           refine wp_seq' fun K38 hK38 => ?_
           refine wp_reg ?_
           refine ol_r (r_build rfl (fun _ => bd26 _)) rfl ?_
           refine ol_store (id := 4) rfl rfl rfl rfl sz26 rfl rfl (by first | decide | exact Nat.zero_lt_succ _ | simp) ?_
           refine ol_r (r_assign rfl) rfl ?_
           refine ol_nil (to_k0 (fun _ _ h => h) (hK38 _ _ _ _ _ ?_))
           clear hK38
           refine hQ.ret (rvs2 (rv_c (id := 4) (n := 6) rfl rfl ag26 rfl) (rv_t rfl)) (fun _ _ h => h) fun w hb hs hB hkd => ?_
           exact ⟨outA_no (by rw [hjr, if_pos (by omega)]), hb⟩
          ·have phs114 := hs114; try simp only [decide_eq_true_eq, decide_eq_false_iff_not, Bool.not_eq_true', Bool.not_eq_false', Bool.not_true, Bool.not_false] at phs114
           refine ol_g rfl rfl hs114 ?_
           refine ol_r (r_fa (o' := 4) rfl fl26_4 rfl) rfl ?_
           refine ol_g rfl rfl hs114 ?_
           refine ol_r (r_ld (id := 10) rfl rfl rfl sc23) rfl ?_
           refine ol_g rfl rfl hs114 ?_
           refine ol_r (r_len rfl sl23) rfl ?_
           refine ol_g rfl rfl hs114 ?_
           refine ol_r (r_gtr rfl rfl) rfl ?_
           refine ol_r (r_pickF rfl hs114 rfl) rfl ?_
           refine ol_r (r_move rfl) rfl ?_
           refine ol_split (d := 120) rfl (fun hs120 => ?_) (fun hs120 => ?_)
           ·have phs120 := hs120; try simp only [decide_eq_true_eq, decide_eq_false_iff_not, Bool.not_eq_true', Bool.not_eq_false', Bool.not_true, Bool.not_false] at phs120
            refine ol_s rfl rfl hs120 rfl ?_
            refine ol_s rfl rfl hs120 rfl ?_
            refine ol_s rfl rfl hs120 rfl ?_
            refine ol_s rfl rfl hs120 rfl ?_
            refine ol_r (r_pickT rfl hs120 rfl) rfl ?_
            refine ol_nil (to_k0 (fun _ _ h => h) (hK37 _ _ _ _ _ ?_))
            clear hK37
            refine wp_condT rfl ?_
            refine wp_seq' fun K39 hK39 => ?_
            refine wp_reg ?_
            refine ol_r (r_build rfl (fun _ => bd26 _)) rfl ?_
            refine ol_store (id := 4) rfl rfl rfl rfl sz26 rfl rfl (by first | decide | exact Nat.zero_lt_succ _ | simp) ?_
            refine ol_r (r_assign rfl) rfl ?_
            refine ol_nil (to_k0 (fun _ _ h => h) (hK39 _ _ _ _ _ ?_))
            clear hK39
            refine hQ.ret (rvs2 (rv_c (id := 4) (n := 6) rfl rfl ag26 rfl) (rv_t rfl)) (fun _ _ h => h) fun w hb hs hB hkd => ?_
            exact ⟨outA_no (by rw [hjr, if_pos (by omega)]), hb⟩
           ·have phs120 := hs120; try simp only [decide_eq_true_eq, decide_eq_false_iff_not, Bool.not_eq_true', Bool.not_eq_false', Bool.not_true, Bool.not_false] at phs120
            refine ol_g rfl rfl hs120 ?_
            refine ol_r (r_fa (o' := 5) rfl fl26_5 rfl) rfl ?_
            refine ol_g rfl rfl hs120 ?_
            refine ol_r (r_ld (id := 10) rfl rfl rfl sc24) rfl ?_
            refine ol_g rfl rfl hs120 ?_
            refine ol_r (r_len rfl sl24) rfl ?_
            refine ol_g rfl rfl hs120 ?_
            refine ol_r (r_gtr rfl rfl) rfl ?_
            refine ol_r (r_pickF rfl hs120 rfl) rfl ?_
            refine ol_nil (to_k0 (fun _ _ h => h) (hK37 _ _ _ _ _ ?_))
            clear hK37
            first | refine wp_condD rfl (fun hc125 => ?_) (fun hc125 => ?_) | refine wp_condN rfl (fun hc125 => ?_) (fun hc125 => ?_) | refine wp_condNB rfl (fun hc125 => ?_) (fun hc125 => ?_) | refine wp_cond' rfl (fun hc125 => ?_) (fun hc125 => ?_)
            ·refine wp_seq' fun K40 hK40 => ?_
             refine wp_reg ?_
             refine ol_r (r_build rfl (fun _ => bd26 _)) rfl ?_
             refine ol_store (id := 4) rfl rfl rfl rfl sz26 rfl rfl (by first | decide | exact Nat.zero_lt_succ _ | simp) ?_
             refine ol_r (r_assign rfl) rfl ?_
             refine ol_nil (to_k0 (fun _ _ h => h) (hK40 _ _ _ _ _ ?_))
             clear hK40
             refine hQ.ret (rvs2 (rv_c (id := 4) (n := 6) rfl rfl ag26 rfl) (rv_t rfl)) (fun _ _ h => h) fun w hb hs hB hkd => ?_
             exact ⟨outA_no (by rw [hjr, if_pos (by omega)]), hb⟩
            ·refine wp_skip' (to_k0 (fun _ _ h => h) (hK36 _ _ _ _ _ ?_))
             clear hK36
             refine wp_seq' fun K41 hK41 => ?_
             refine wp_reg ?_
             refine ol_r (r_lda (id := 10) (n := 6) rfl rfl rfl ag26) rfl ?_
             refine ol_call rfl rfl cb65 rfl (fun w1 hb1 hs1 hB1 => ?_)
             refine Calls.mono (ref3_checked ⟨A.name, A.sport, A.start, oa, on, oc, ja, A.ln + j, jc, a108, n108, c108, joinK A.ss D.ss (D.start - A.start) k, A.ls ++ fwdL (D.start - A.start) (D.ls.take j), tagR A.ts D.ts⟩ _ ⟨Sat.rd hs1 (id := 1001) rfl rfl, Sat.rd hs1 (id := 1002) rfl rfl, Sat.rd hs1 (id := 108) rfl rfl, hA.nm, by rw [hjj]; exact join_names hA.lm hD.lm, join_tags hA.tm hD.tm, join_lo hg hgd k⟩) ?_
             rintro e w2 ⟨⟨nm, sp, st, za, zn, zc, ma, mn, mc, ua, un, uc, rfl, hC⟩, hb2⟩
             refine After.below rfl hb1 hs1 hB1 hb2 ?_
             clear hb2 hB1 hs1 hb1 w2 w1
             refine ol_r (r_extract rfl rfl) rfl ?_
             refine ol_r (r_extract rfl rfl) rfl ?_
             refine ol_store (id := 4) rfl rfl rfl rfl sz26 rfl rfl (by first | decide | exact Nat.zero_lt_succ _ | simp) ?_
             refine ol_r (r_assign rfl) rfl ?_
             refine ol_nil (to_k0 (fun _ _ h => h) (hK41 _ _ _ _ _ ?_))
             clear hK41
             refine hQ.ret (rvs2 (rv_c (id := 4) (n := 6) rfl rfl ag26 rfl) (rv_t rfl)) (fun _ _ h => h) fun w hb hs hB hkd => ?_
             rw [if_neg (by omega)] at hjr
             rcases hC with ⟨hne, rfl, rfl, rfl, ⟨rfl, rfl, rfl⟩, ⟨rfl, rfl, rfl⟩, ⟨rfl, rfl, rfl⟩⟩ | ⟨h00, rfl, rfl, rfl, ⟨rfl, rfl, rfl⟩, ⟨rfl, rfl, rfl⟩, ⟨rfl, rfl, rfl⟩⟩
             · exact ⟨outA_no (hjr.trans (if_pos hne)), hb⟩
             · refine ⟨?_, hb⟩
               rw [hjr.trans (if_neg (fun h3 => h3 h00))]
               exact ⟨za, zn, zc, ma, A.ln + j, mc, ua, un, uc, by rw [h00], hs.three 1001 1002 108 1001 1002 1003 (by decide) (by decide) (by decide) rfl rfl rfl (Ent.le_refl _) (Ent.le_refl _) (Ent.le_refl _)⟩
end Go.Proofs.Ytogcclagmobkiaa
