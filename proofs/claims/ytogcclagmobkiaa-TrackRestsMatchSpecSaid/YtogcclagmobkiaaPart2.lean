/-
  Activities with other samples: the reference.
-/
import Derived.Test.YtogcclagmobkiaaPart
import Derived.Test.YtogcclagmobkiaaHw
namespace Go.Proofs.Ytogcclagmobkiaa
open Go Go.RowKit Hx
set_option linter.unusedVariables false
set_option linter.unusedSimpArgs false
set_option maxRecDepth 8000
theorem ref3_copied (A : ActV) (w : World) (hA : A.Ok w.heap.size w) (h1 : A.sn ≤ 1000000) (h2 : A.ln ≤ 1000000) (h3 : A.tn ≤ 1000000) :
    Calls Try.prog 49 #[.agg #[.string A.name, .int .i64 A.sport, .int .i64 A.start, .slice A.sa A.sn A.sc, .slice A.la A.ln A.lc, .slice A.ta A.tn A.tc]] w fun e w' => ∃ sa sc la lc ta tc, e = .returned (.agg #[.string A.name, .int .i64 A.sport, .int .i64 A.start, .slice sa A.sn sc, .slice la A.ln lc, .slice ta A.tn tc]) ∧ Below w.heap.size w w' ∧
      Sat w.heap.size w' [(1001, .row sa A.sn sc (encSmp.enc A.ss) 28 7), (1002, .row la A.ln lc (encLap.enc A.ls) 66 3), (1003, .row ta A.tn tc (encStr.enc A.ts) 9 1)] := by
  refine enterQ (N := 16) (C := fun _ => True) (H := []) (B := w.heap.size) (args := [_]) Try.func49 rfl rfl rfl (Nat.le_refl _) (Sat.nil _ _) fun Q hQ => ?_
  refine wp_seq' fun K1 hK1 => ?_
  refine wp_reg ?_
  refine ol_box 1 rfl rfl rfl fun b1 => ?_
  refine ol_alloc 2 z26 rfl fun b2 => ?_
  refine ol_nil (to_k0 (fun _ _ h => h) (hK1 _ _ _ _ _ ?_))
  clear hK1
  refine wp_seq' fun K2 hK2 => ?_
  refine wp_reg ?_
  refine ol_r (r_fa (o' := 3) rfl fl26_3 rfl) rfl ?_
  refine ol_r (r_ld (id := 1) rfl rfl rfl sc22) rfl ?_
  refine ol_appendN encSmp 61 rfl rfl hA.s rfl rw22 (by omega) rfl fun a5 c5 => ?_
  refine ol_r (r_fa (o' := 3) rfl fl26_3 rfl) rfl ?_
  refine ol_store (id := 1) rfl rfl rfl rfl sz22 rfl rfl (by first | decide | exact Nat.zero_lt_succ _ | simp) ?_
  refine ol_nil (to_k0 (fun _ _ h => h) (hK2 _ _ _ _ _ ?_))
  clear hK2
  refine wp_seq' fun K3 hK3 => ?_
  refine wp_reg ?_
  refine ol_r (r_fa (o' := 4) rfl fl26_4 rfl) rfl ?_
  refine ol_r (r_ld (id := 1) rfl rfl rfl sc23) rfl ?_
  refine ol_appendN encLap 62 rfl rfl hA.l rfl rw23 (by omega) rfl fun a9 c9 => ?_
  refine ol_r (r_fa (o' := 4) rfl fl26_4 rfl) rfl ?_
  refine ol_store (id := 1) rfl rfl rfl rfl sz23 rfl rfl (by first | decide | exact Nat.zero_lt_succ _ | simp) ?_
  refine ol_nil (to_k0 (fun _ _ h => h) (hK3 _ _ _ _ _ ?_))
  clear hK3
  refine wp_seq' fun K4 hK4 => ?_
  refine wp_reg ?_
  refine ol_r (r_fa (o' := 5) rfl fl26_5 rfl) rfl ?_
  refine ol_r (r_ld (id := 1) rfl rfl rfl sc24) rfl ?_
  refine ol_appendN encStr 63 rfl rfl hA.t rfl rw24 (by omega) rfl fun a13 c13 => ?_
  refine ol_r (r_fa (o' := 5) rfl fl26_5 rfl) rfl ?_
  refine ol_store (id := 1) rfl rfl rfl rfl sz24 rfl rfl (by first | decide | exact Nat.zero_lt_succ _ | simp) ?_
  refine ol_nil (to_k0 (fun _ _ h => h) (hK4 _ _ _ _ _ ?_))
  clear hK4
  refine wp_seq' fun K5 hK5 => ?_
  refine wp_reg ?_
  refine ol_r (r_lda (id := 1) (n := 6) rfl rfl rfl ag26) rfl ?_
  refine ol_store (id := 2) rfl rfl rfl rfl sz26 rfl rfl (by first | decide | exact Nat.zero_lt_succ _ | simp) ?_
  refine ol_nil (to_k0 (fun _ _ h => h) (hK5 _ _ _ _ _ ?_))
  clear hK5
  refine hQ.ret (rvs1 (rv_c (id := 2) (n := 6) rfl rfl ag26 rfl)) (fun _ _ h => h) fun w hb hs hB hkd => ?_
  exact ⟨a5, c5, a9, c9, a13, c13, rfl, hb, hs.three 61 62 63 1001 1002 1003 (by decide) (by decide) (by decide) rfl rfl rfl (Ent.le_refl _) (Ent.le_refl _) (Ent.le_refl _)⟩
theorem ref3_moved (A : ActV) (a : Option Addr) (n c : Nat) (l : List SmpR) (b : Int) (w : World) (hA : A.Ok w.heap.size w) (hl : Rd encSmp w.heap.size w a n c l) (hg : GoodA A.d) (hn : n ≤ 1000000) (hat : ∀ x ∈ l, -1000000000 ≤ x.at_ ∧ x.at_ ≤ 1000000000) (hby : -1000000000 ≤ b ∧ b ≤ 1000000000) :
    Calls Try.prog 66 #[.agg #[.string A.name, .int .i64 A.sport, .int .i64 A.start, .slice A.sa A.sn A.sc, .slice A.la A.ln A.lc, .slice A.ta A.tn A.tc], .slice a n c, .int .i64 b] w fun e w' => ∃ sa sn sc la ln lc ta tn tc, e = .returned (.agg #[.string A.name, .int .i64 A.sport, .int .i64 (A.start + b), .slice sa sn sc, .slice la ln lc, .slice ta tn tc]) ∧ Below w.heap.size w w' ∧
      Sat w.heap.size w' [(1001, .row sa sn sc (encSmp.enc (backS b l)) 28 7), (1002, .row la ln lc (encLap.enc (backL b (spanL (backS b l)) A.ls)) 66 3), (1003, .row ta tn tc (encStr.enc A.ts) 9 1)] := by
  have hsn := hA.s.len
  have hln := hA.l.len
  have htn := hA.t.len
  have hnn := hl.len
  have hsp := hg.smp.span
  have hlb := lap_bd hg
  have hst := inB_iff.1 hg.head.2.2.1
  obtain ⟨g4, g5, g6⟩ := hg.head.2.2.2
  dsimp only [ActV.d] at hlb hst g4 g5 g6 hsp
  have hlo := back_lo hat hby
  refine enterQ (N := 79) (C := fun _ => True) (H := []) (B := w.heap.size) (args := [_, _, _]) Try.func66 rfl rfl rfl (Nat.le_refl _) (Sat.nil _ _) fun Q hQ => ?_
  refine wp_seq' fun K1 hK1 => ?_
  refine wp_reg ?_
  refine ol_box 3 rfl rfl rfl fun b3 => ?_
  refine ol_alloc 6 z26 rfl fun b6 => ?_
  refine ol_nil (to_k0 (fun _ _ h => h) (hK1 _ _ _ _ _ ?_))
  clear hK1
  refine wp_seq' fun K2 hK2 => ?_
  refine wp_reg ?_
  refine ol_r (r_lda (id := 3) (n := 6) rfl rfl rfl ag26) rfl ?_
  refine ol_call rfl rfl cb49 rfl (fun w1 hb1 hs1 hB1 => ?_)
  refine Calls.mono (ref3_copied A _ (hA.at hb1 hB1) (by omega) (by omega) (by omega)) ?_
  rintro e w2 ⟨sa, sc, la, lc, ta, tc, rfl, hb2, hs2⟩
  refine After.more rfl hb1 hs1 hB1 hb2 hs2 ?_
  clear hs2 hb2 hB1 hs1 hb1 w2 w1
  refine ol_store (id := 3) rfl rfl rfl rfl sz26 rfl rfl (by first | decide | exact Nat.zero_lt_succ _ | simp) ?_
  refine ol_nil (to_k0 (fun _ _ h => h) (hK2 _ _ _ _ _ ?_))
  clear hK2
  refine wp_seq' fun K3 hK3 => ?_
  refine wp_reg ?_
  refine ol_r (r_fa (o' := 2) rfl fl26_2 rfl) rfl ?_
  refine ol_r (r_ld (id := 3) rfl rfl rfl sc3) rfl ?_
  refine ol_r (r_move rfl) rfl ?_
  refine ol_r (r_add rfl rfl (by omega)) rfl ?_
  refine ol_r (r_fa (o' := 2) rfl fl26_2 rfl) rfl ?_
  refine ol_store (id := 3) rfl rfl rfl rfl sz3 rfl rfl (by first | decide | exact Nat.zero_lt_succ _ | simp) ?_
  refine ol_nil (to_k0 (fun _ _ h => h) (hK3 _ _ _ _ _ ?_))
  clear hK3
  refine wp_seq' fun K4 hK4 => ?_
  refine wp_reg ?_
  refine ol_nilrow 60 28 7 ?_
  refine ol_r (r_fa (o' := 3) rfl fl26_3 rfl) rfl ?_
  refine ol_store (id := 3) rfl rfl rfl rfl sz22 rfl rfl (by first | decide | exact Nat.zero_lt_succ _ | simp) ?_
  refine ol_nil (to_k0 (fun _ _ h => h) (hK4 _ _ _ _ _ ?_))
  clear hK4
  refine wp_seq' fun K5 hK5 => ?_
  refine wp_seq' fun K6 hK6 => ?_
  refine wp_reg ?_
  refine ol_r (r_move rfl) rfl ?_
  refine ol_r (r_len rfl sl22) rfl ?_
  refine ol_r (r_move rfl) rfl ?_
  refine ol_nil (to_k0 (fun _ _ h => h) (hK6 _ _ _ _ _ ?_))
  clear hK6
  refine wp_block' ?_
  apply wp_loopM (σ := Nat × Option Addr × Nat) (fun s => s.1 ≤ l.length) (fun s => [(23, .int .i64 s.1)]) [(2, _), (3, _), (6, _), (21, _), (22, _)] (fun s => [(3, .blk b3 [(0, .string A.name), (1, .int .i64 A.sport), (2, .int .i64 (A.start + b)), (3, .slice s.2.1 s.1 s.2.2), (4, .slice la A.ln lc), (5, .slice ta A.tn tc)] 26), (60, .row s.2.1 s.1 s.2.2 (encSmp.enc (backS b (l.take s.1))) 28 7)]) [(6, _), (1001, _), (1002, _), (1003, _)] (fun s => l.length - s.1) ((0, none, 0))
  ·try dsimp only
   exact Nat.zero_le _
  ·exact (sub_cons rfl sub_nil)
  ·exact (sub_cons rfl (sub_cons rfl (sub_cons rfl (sub_cons rfl (sub_cons rfl sub_nil)))))
  ·exact (subH_blk rfl (sub_cons rfl (sub_cons rfl (sub_cons rfl (sub_cons rfl (sub_cons rfl (sub_cons rfl sub_nil)))))) (subH_row rfl (by dsimp only; rfl) subH_nil))
  ·exact (subH_same rfl (subH_same rfl (subH_same rfl (subH_same rfl subH_nil))))
  ·rintro ⟨k, oa, oc⟩ hk
   dsimp only at hk ⊢
   intro K7 hK7
   refine wp_seq' fun K8 hK8 => ?_
   refine wp_reg ?_
   refine ol_r (r_lss rfl rfl) rfl ?_
   refine ol_nil (to_k0 (fun _ _ h => h) (hK8 _ _ _ _ _ ?_))
   clear hK8
   refine wp_seq' fun K9 hK9 => ?_
   refine wp_condD rfl (fun hc24 => ?_) (fun hc24 => ?_)
   ·refine wp_skip' (to_k0 (fun _ _ h => h) (hK9 _ _ _ _ _ ?_))
    clear hK9
    refine wp_seq' fun K10 hK10 => ?_
    refine wp_block' ?_
    refine wp_seq' fun K11 hK11 => ?_
    refine wp_reg ?_
    refine ol_ixr hl rfl rfl sl22 (by omega) rfl fun x25 hx25 => ?_
    try simp only [Int.toNat_natCast] at hx25
    refine ol_r (r_ldw rfl (fun w1 hb1 hs1 hB1 => Rd.loads hl ty28 hx25 hb1)) rfl ?_
    refine ol_alloc 8 z28 rfl fun b8 => ?_
    refine ol_store (id := 8) rfl rfl rfl rfl sz28 rfl rfl (by first | decide | exact Nat.zero_lt_succ _ | simp) ?_
    refine ol_nil (to_k0 (fun _ _ h => h) (hK11 _ _ _ _ _ ?_))
    clear hK11
    refine wp_seq' fun K12 hK12 => ?_
    refine wp_reg ?_
    refine ol_r (r_fa (o' := 0) rfl fl28_0 rfl) rfl ?_
    refine ol_r (r_ld (id := 8) rfl rfl rfl sc3) rfl ?_
    refine ol_r (r_move rfl) rfl ?_
    have hxa := hat _ (List.mem_of_getElem? hx25)
    refine ol_r (r_sub rfl rfl (by omega)) rfl ?_
    refine ol_r (r_fa (o' := 0) rfl fl28_0 rfl) rfl ?_
    refine ol_store (id := 8) rfl rfl rfl rfl sz3 rfl rfl (by first | decide | exact Nat.zero_lt_succ _ | simp) ?_
    refine ol_nil (to_k0 (fun _ _ h => h) (hK12 _ _ _ _ _ ?_))
    clear hK12
    refine wp_reg ?_
    refine ol_r (r_fa (o' := 3) rfl fl26_3 rfl) rfl ?_
    refine ol_r (r_ld (id := 3) rfl rfl rfl sc22) rfl ?_
    refine ol_r (r_lda (id := 8) (n := 7) rfl rfl rfl ag28) rfl ?_
    refine ol_bs1 35 rfl rfl rw22 rfl rfl rfl fun a35 => ?_
    refine ol_append1 (id := 60) (id2 := 35) rfl rfl rfl rfl rfl rw22 (by omega) rfl fun a36 c36 => ?_
    refine ol_r (r_fa (o' := 3) rfl fl26_3 rfl) rfl ?_
    refine ol_store (id := 3) rfl rfl rfl rfl sz22 rfl rfl (by first | decide | exact Nat.zero_lt_succ _ | simp) ?_
    refine ol_nil (to_k0 (fun _ _ h => h) (hK10 _ _ _ _ _ ?_))
    clear hK10
    refine wp_reg ?_
    refine ol_r (r_add rfl rfl (by omega)) rfl ?_
    refine ol_r (r_move rfl) rfl ?_
    refine ol_nil (to_k0 (fun _ _ h => h) (hK7 ((k + 1, _, _)) _ _ ?_ ?_ (sub_cons rfl sub_nil) (sub_cons rfl (sub_cons rfl (sub_cons rfl (sub_cons rfl (sub_cons rfl sub_nil))))) (by exact (subH_blk rfl (sub_cons rfl (sub_cons rfl (sub_cons rfl (sub_cons rfl (sub_cons rfl (sub_cons rfl sub_nil)))))) (subH_row rfl (by dsimp only; (rw [backS_succ hx25, Enc.enc_append]; rfl)) subH_nil))) (subH_same rfl (subH_same rfl (subH_same rfl (subH_same rfl subH_nil))))))
    ·try dsimp only
     omega
    ·try dsimp only
     omega
   ·refine wp_exit' (to_k0 (fun _ _ h => h) (hK5 _ _ _ _ _ ?_))
    clear hK5
    refine wp_seq' fun K13 hK13 => ?_
    refine wp_reg ?_
    have hkl : k = l.length := by omega
    subst hkl
    rw [List.take_of_length_le (Nat.le_refl _)]
    refine ol_r (r_lda (id := 3) (n := 6) rfl rfl rfl ag26) rfl ?_
    refine ol_call rfl rfl cb46 rfl (fun w1 hb1 hs1 hB1 => Calls.mono (ref2_SpanOf ⟨A.name, A.sport, A.start + b, oa, l.length, oc, la, A.ln, lc, ta, A.tn, tc, backS b l, A.ls, A.ts⟩ _ ⟨Sat.rd hs1 (id := 60) rfl rfl, Sat.rd hs1 (id := 1002) rfl rfl, Sat.rd hs1 (id := 1003) rfl rfl, hA.nm, hA.lm, hA.tm, hlo⟩) ?_)
    rintro e w2 ⟨rfl, hb2⟩
    refine After.below rfl hb1 hs1 hB1 hb2 ?_
    clear hb2 hB1 hs1 hb1 w2 w1
    refine ol_r (r_assign rfl) rfl ?_
    refine ol_nil (to_k0 (fun _ _ h => h) (hK13 _ _ _ _ _ ?_))
    clear hK13
    refine wp_seq' fun K14 hK14 => ?_
    refine wp_reg ?_
    refine ol_r (r_fa (o' := 4) rfl fl26_4 rfl) rfl ?_
    refine ol_r (r_ld (id := 3) rfl rfl rfl sc23) rfl ?_
    refine ol_r (r_assign rfl) rfl ?_
    refine ol_nil (to_k0 (fun _ _ h => h) (hK14 _ _ _ _ _ ?_))
    clear hK14
    refine wp_seq' fun K15 hK15 => ?_
    refine wp_reg ?_
    refine ol_nilrow 65 66 3 ?_
    refine ol_r (r_fa (o' := 4) rfl fl26_4 rfl) rfl ?_
    refine ol_store (id := 3) rfl rfl rfl rfl sz23 rfl rfl (by first | decide | exact Nat.zero_lt_succ _ | simp) ?_
    refine ol_nil (to_k0 (fun _ _ h => h) (hK15 _ _ _ _ _ ?_))
    clear hK15
    refine wp_seq' fun K16 hK16 => ?_
    refine wp_seq' fun K17 hK17 => ?_
    refine wp_reg ?_
    refine ol_r (r_move rfl) rfl ?_
    refine ol_r (r_len rfl sl23) rfl ?_
    refine ol_r (r_move rfl) rfl ?_
    refine ol_nil (to_k0 (fun _ _ h => h) (hK17 _ _ _ _ _ ?_))
    clear hK17
    refine wp_block' ?_
    apply wp_loopM (σ := Nat × Option Addr × Nat × Nat) (fun s => s.1 ≤ A.ls.length ∧ s.2.2.1 ≤ s.1) (fun s => [(46, .int .i64 s.1)]) [(2, _), (3, _), (6, _), (9, _), (44, _), (45, _)] (fun s => [(3, .blk b3 [(0, .string A.name), (1, .int .i64 A.sport), (2, .int .i64 (A.start + b)), (3, .slice oa l.length oc), (4, .slice s.2.1 s.2.2.1 s.2.2.2), (5, .slice ta A.tn tc)] 26), (65, .row s.2.1 s.2.2.1 s.2.2.2 (encLap.enc (backL b (spanL (backS b l)) (A.ls.take s.1))) 66 3), (60, .row oa l.length oc (encSmp.enc (backS b l)) 28 7)]) [(6, _), (1001, _), (1002, _), (1003, _)] (fun s => A.ls.length - s.1) ((0, none, 0, 0))
    ·try dsimp only
     exact ⟨Nat.zero_le _, Nat.le_refl _⟩
    ·exact (sub_cons rfl sub_nil)
    ·exact (sub_cons rfl (sub_cons rfl (sub_cons rfl (sub_cons rfl (sub_cons rfl (sub_cons rfl sub_nil))))))
    ·exact (subH_blk rfl (sub_cons rfl (sub_cons rfl (sub_cons rfl (sub_cons rfl (sub_cons rfl (sub_cons rfl sub_nil)))))) (subH_row rfl (by dsimp only; rfl) (subH_row rfl (by rfl) subH_nil)))
    ·exact (subH_same rfl (subH_same rfl (subH_same rfl (subH_same rfl subH_nil))))
    ·rintro ⟨j, ja, jn, jc⟩ ⟨hj, hjn⟩
     dsimp only at hj hjn ⊢
     intro K18 hK18
     refine wp_seq' fun K19 hK19 => ?_
     refine wp_reg ?_
     refine ol_r (r_lss rfl rfl) rfl ?_
     refine ol_nil (to_k0 (fun _ _ h => h) (hK19 _ _ _ _ _ ?_))
     clear hK19
     refine wp_seq' fun K20 hK20 => ?_
     refine wp_condD rfl (fun hc47 => ?_) (fun hc47 => ?_)
     ·refine wp_skip' (to_k0 (fun _ _ h => h) (hK20 _ _ _ _ _ ?_))
      clear hK20
      refine wp_seq' fun K21 hK21 => ?_
      refine wp_block' ?_
      refine wp_seq' fun K22 hK22 => ?_
      refine wp_reg ?_
      refine ol_ixo (id := 1002) encLap _ rfl rfl rfl rfl sl23 (by omega) rfl fun x48 hx48 => ?_
      try simp only [Int.toNat_natCast] at hx48
      try simp only [Int.toNat_natCast] at hx48
      refine ol_r (r_ldw rfl (fun w1 hb1 hs1 hB1 => ld_own (id := 1002) hs1 rfl rfl ty66 hx48)) rfl ?_
      refine ol_alloc 12 z66 rfl fun b12 => ?_
      refine ol_store (id := 12) rfl rfl rfl rfl sz66 rfl rfl (by first | decide | exact Nat.zero_lt_succ _ | simp) ?_
      refine ol_nil (to_k0 (fun _ _ h => h) (hK22 _ _ _ _ _ ?_))
      clear hK22
      refine wp_seq' fun K23 hK23 => ?_
      refine wp_reg ?_
      refine ol_r (r_fa (o' := 0) rfl fl66_0 rfl) rfl ?_
      refine ol_r (r_ld (id := 12) rfl rfl rfl sc3) rfl ?_
      refine ol_r (r_move rfl) rfl ?_
      have hbx := hlb _ (List.mem_of_getElem? hx48)
      refine ol_r (r_sub rfl rfl (by omega)) rfl ?_
      refine ol_r (r_max rfl rfl) rfl ?_
      refine ol_r (r_move rfl) rfl ?_
      refine ol_r (r_min rfl rfl) rfl ?_
      refine ol_r (r_fa (o' := 1) rfl fl66_1 rfl) rfl ?_
      refine ol_r (r_ld (id := 12) rfl rfl rfl sc3) rfl ?_
      refine ol_r (r_move rfl) rfl ?_
      refine ol_r (r_sub rfl rfl (by omega)) rfl ?_
      refine ol_r (r_max rfl rfl) rfl ?_
      refine ol_r (r_move rfl) rfl ?_
      refine ol_r (r_min rfl rfl) rfl ?_
      refine ol_r (r_fa (o' := 0) rfl fl66_0 rfl) rfl ?_
      refine ol_store (id := 12) rfl rfl rfl rfl sz3 rfl rfl (by first | decide | exact Nat.zero_lt_succ _ | simp) ?_
      refine ol_r (r_fa (o' := 1) rfl fl66_1 rfl) rfl ?_
      refine ol_store (id := 12) rfl rfl rfl rfl sz3 rfl rfl (by first | decide | exact Nat.zero_lt_succ _ | simp) ?_
      refine ol_nil (to_k0 (fun _ _ h => h) (hK23 _ _ _ _ _ ?_))
      clear hK23
      refine wp_seq' fun K24 hK24 => ?_
      refine wp_reg ?_
      refine ol_r (r_fa (o' := 0) rfl fl66_0 rfl) rfl ?_
      refine ol_r (r_ld (id := 12) rfl rfl rfl sc3) rfl ?_
      refine ol_r (r_fa (o' := 1) rfl fl66_1 rfl) rfl ?_
      refine ol_r (r_ld (id := 12) rfl rfl rfl sc3) rfl ?_
      refine ol_r (r_lss rfl rfl) rfl ?_
      refine ol_nil (to_k0 (fun _ _ h => h) (hK24 _ _ _ _ _ ?_))
      clear hK24
      refine wp_condD rfl (fun hc70 => ?_) (fun hc70 => ?_)
      ·refine wp_reg ?_
       refine ol_r (r_fa (o' := 4) rfl fl26_4 rfl) rfl ?_
       refine ol_r (r_ld (id := 3) rfl rfl rfl sc23) rfl ?_
       refine ol_r (r_lda (id := 12) (n := 3) rfl rfl rfl ag66) rfl ?_
       refine ol_bs1 74 rfl rfl rw23 rfl rfl rfl fun a74 => ?_
       refine ol_append1 (id := 65) (id2 := 74) rfl rfl rfl rfl rfl rw23 (by omega) rfl fun a75 c75 => ?_
       refine ol_r (r_fa (o' := 4) rfl fl26_4 rfl) rfl ?_
       refine ol_store (id := 3) rfl rfl rfl rfl sz23 rfl rfl (by first | decide | exact Nat.zero_lt_succ _ | simp) ?_
       refine ol_nil (to_k0 (fun _ _ h => h) (hK21 _ _ _ _ _ ?_))
       clear hK21
       refine wp_reg ?_
       refine ol_r (r_add rfl rfl (by omega)) rfl ?_
       refine ol_r (r_move rfl) rfl ?_
       refine ol_nil (to_k0 (fun _ _ h => h) (hK18 ((j + 1, _, _, _)) _ _ ?_ ?_ (sub_cons rfl sub_nil) (sub_cons rfl (sub_cons rfl (sub_cons rfl (sub_cons rfl (sub_cons rfl (sub_cons rfl sub_nil)))))) (by exact (subH_blk rfl (sub_cons rfl (sub_cons rfl (sub_cons rfl (sub_cons rfl (sub_cons rfl (sub_cons rfl sub_nil)))))) (subH_row rfl (by first | (dsimp only; first | rfl | (rw [backL_yes hx48 hc70, Enc.enc_append]; rfl) | (rw [backL_no hx48 hc70]); done) | (first | rfl | (rw [backL_yes hx48 hc70, Enc.enc_append]; rfl) | (rw [backL_no hx48 hc70]); done) | (dsimp only; done)) (subH_row rfl (by first | (dsimp only; first | rfl | (rw [backL_yes hx48 hc70, Enc.enc_append]; rfl) | (rw [backL_no hx48 hc70]); done) | (first | rfl | (rw [backL_yes hx48 hc70, Enc.enc_append]; rfl) | (rw [backL_no hx48 hc70]); done) | (dsimp only; done)) subH_nil)))) (subH_same rfl (subH_same rfl (subH_same rfl (subH_same rfl subH_nil))))))
       ·try dsimp only
        exact ⟨by omega, by omega⟩
       ·try dsimp only
        omega
      ·refine wp_skip' (to_k0 (fun _ _ h => h) (hK21 _ _ _ _ _ ?_))
       clear hK21
       refine wp_reg ?_
       refine ol_r (r_add rfl rfl (by omega)) rfl ?_
       refine ol_r (r_move rfl) rfl ?_
       refine ol_nil (to_k0 (fun _ _ h => h) (hK18 ((j + 1, _, _, _)) _ _ ?_ ?_ (sub_cons rfl sub_nil) (sub_cons rfl (sub_cons rfl (sub_cons rfl (sub_cons rfl (sub_cons rfl (sub_cons rfl sub_nil)))))) (by exact (subH_blk rfl (sub_cons rfl (sub_cons rfl (sub_cons rfl (sub_cons rfl (sub_cons rfl (sub_cons rfl sub_nil)))))) (subH_row rfl (by dsimp only; first | rfl | (rw [backL_yes hx48 hc70, Enc.enc_append]; rfl) | (rw [backL_no hx48 hc70])) (subH_row rfl (by first | (dsimp only; first | rfl | (rw [backL_yes hx48 hc70, Enc.enc_append]; rfl) | (rw [backL_no hx48 hc70]); done) | (first | rfl | (rw [backL_yes hx48 hc70, Enc.enc_append]; rfl) | (rw [backL_no hx48 hc70]); done) | (dsimp only; done)) subH_nil)))) (subH_same rfl (subH_same rfl (subH_same rfl (subH_same rfl subH_nil))))))
       ·try dsimp only
        exact ⟨by omega, by omega⟩
       ·try dsimp only
        omega
     ·refine wp_exit' (to_k0 (fun _ _ h => h) (hK16 _ _ _ _ _ ?_))
      clear hK16
      refine wp_seq' fun K25 hK25 => ?_
      refine wp_reg ?_
      refine ol_r (r_lda (id := 3) (n := 6) rfl rfl rfl ag26) rfl ?_
      refine ol_store (id := 6) rfl rfl rfl rfl sz26 rfl rfl (by first | decide | exact Nat.zero_lt_succ _ | simp) ?_
      refine ol_nil (to_k0 (fun _ _ h => h) (hK25 _ _ _ _ _ ?_))
      clear hK25
      refine hQ.ret (rvs1 (rv_c (id := 6) (n := 6) rfl rfl ag26 rfl)) (fun _ _ h => h) fun w hb hs hB hkd => ?_
      have h9 := hs.three 60 65 1003 1001 1002 1003 (by decide) (by decide) (by decide) rfl rfl rfl (Ent.le_refl _) (Ent.le_refl _) (Ent.le_refl _)
      rw [List.take_of_length_le (show A.ls.length ≤ j by omega)] at h9
      exact ⟨oa, l.length, oc, ja, jn, jc, ta, A.tn, tc, rfl, hb, h9⟩
/-- What is kept of an activity that was checked. -/
def Ckd (A : ActV) (nm : ByteArray) (sp st : Int) (sa : Option Addr) (sn sc : Nat) (la : Option Addr) (ln lc : Nat) (ta : Option Addr) (tn tc : Nat) : Prop :=
  (chkA A.d ≠ 0 ∧ nm = ByteArray.empty ∧ sp = 0 ∧ st = 0 ∧ (sa = none ∧ sn = 0 ∧ sc = 0) ∧ (la = none ∧ ln = 0 ∧ lc = 0) ∧ (ta = none ∧ tn = 0 ∧ tc = 0)) ∨
  (chkA A.d = 0 ∧ nm = A.name ∧ sp = A.sport ∧ st = A.start ∧ (sa = A.sa ∧ sn = A.sn ∧ sc = A.sc) ∧ (la = A.la ∧ ln = A.ln ∧ lc = A.lc) ∧ (ta = A.ta ∧ tn = A.tn ∧ tc = A.tc))
theorem ref3_checked (A : ActV) (w : World) (hA : A.Ok w.heap.size w) :
    Calls Try.prog 65 #[.agg #[.string A.name, .int .i64 A.sport, .int .i64 A.start, .slice A.sa A.sn A.sc, .slice A.la A.ln A.lc, .slice A.ta A.tn A.tc]] w fun e w' => (∃ nm sp st sa sn sc la ln lc ta tn tc, e = .returned (.tuple #[.agg #[.string nm, .int .i64 sp, .int .i64 st, .slice sa sn sc, .slice la ln lc, .slice ta tn tc], .int .i64 (chkA A.d)]) ∧ Ckd A nm sp st sa sn sc la ln lc ta tn tc) ∧ Below w.heap.size w w' := by
  refine enterQ (N := 12) (C := fun _ => True) (H := []) (B := w.heap.size) (args := [_]) Try.func65 rfl rfl rfl (Nat.le_refl _) (Sat.nil _ _) fun Q hQ => ?_
  refine wp_seq' fun K1 hK1 => ?_
  refine wp_reg ?_
  refine ol_box 1 rfl rfl rfl fun b1 => ?_
  refine ol_alloc 2 z26 rfl fun b2 => ?_
  refine ol_r (r_assign rfl) rfl ?_
  refine ol_nil (to_k0 (fun _ _ h => h) (hK1 _ _ _ _ _ ?_))
  clear hK1
  refine wp_seq' fun K2 hK2 => ?_
  refine wp_seq' fun K3 hK3 => ?_
  refine wp_reg ?_
  refine ol_r (r_lda (id := 1) (n := 6) rfl rfl rfl ag26) rfl ?_
  refine ol_call rfl rfl cb44 rfl (fun w1 hb1 hs1 hB1 => Calls.mono (ref2_Check A _ (hA.at hb1 hB1)) ?_)
  rintro e w2 ⟨rfl, hb2⟩
  refine After.below rfl hb1 hs1 hB1 hb2 ?_
  clear hb2 hB1 hs1 hb1 w2 w1
  refine ol_r (r_assign rfl) rfl ?_
  refine ol_nil (to_k0 (fun _ _ h => h) (hK3 _ _ _ _ _ ?_))
  clear hK3
  refine wp_seq' fun K4 hK4 => ?_
  refine wp_reg ?_
  refine ol_r (r_move rfl) rfl ?_
  refine ol_r (r_neq rfl rfl) rfl ?_
  refine ol_nil (to_k0 (fun _ _ h => h) (hK4 _ _ _ _ _ ?_))
  clear hK4
  refine wp_condD rfl (fun hc8 => ?_) (fun hc8 => ?_)
  ·refine wp_seq' fun K5 hK5 => ?_
   refine wp_reg ?_
   refine ol_r (r_build rfl (fun _ => bd26 _)) rfl ?_
   refine ol_r (r_move rfl) rfl ?_
   refine ol_store (id := 2) rfl rfl rfl rfl sz26 rfl rfl (by first | decide | exact Nat.zero_lt_succ _ | simp) ?_
   refine ol_r (r_assign rfl) rfl ?_
   refine ol_nil (to_k0 (fun _ _ h => h) (hK5 _ _ _ _ _ ?_))
   clear hK5
   refine hQ.ret (rvs2 (rv_c (id := 2) (n := 6) rfl rfl ag26 rfl) (rv_t rfl)) (fun _ _ h => h) fun w hb hs hB hkd => ?_
   exact ⟨⟨_, _, _, _, _, _, _, _, _, _, _, _, rfl, .inl ⟨hc8, rfl, rfl, rfl, ⟨rfl, rfl, rfl⟩, ⟨rfl, rfl, rfl⟩, ⟨rfl, rfl, rfl⟩⟩⟩, hb⟩
  ·refine wp_skip' (to_k0 (fun _ _ h => h) (hK2 _ _ _ _ _ ?_))
   clear hK2
   refine wp_seq' fun K6 hK6 => ?_
   refine wp_reg ?_
   refine ol_r (r_lda (id := 1) (n := 6) rfl rfl rfl ag26) rfl ?_
   refine ol_store (id := 2) rfl rfl rfl rfl sz26 rfl rfl (by first | decide | exact Nat.zero_lt_succ _ | simp) ?_
   refine ol_r (r_assign rfl) rfl ?_
   refine ol_nil (to_k0 (fun _ _ h => h) (hK6 _ _ _ _ _ ?_))
   clear hK6
   refine hQ.ret (rvs2 (rv_c (id := 2) (n := 6) rfl rfl ag26 rfl) (rv_t rfl)) (fun _ _ h => h) fun w hb hs hB hkd => ?_
   have h0 := Decidable.not_not.1 hc8
   exact ⟨⟨A.name, A.sport, A.start, A.sa, A.sn, A.sc, A.la, A.ln, A.lc, A.ta, A.tn, A.tc, by rw [h0], .inr ⟨h0, rfl, rfl, rfl, ⟨rfl, rfl, rfl⟩, ⟨rfl, rfl, rfl⟩, ⟨rfl, rfl, rfl⟩⟩⟩, hb⟩
theorem outA_no {B : Nat} {w' : World} {r : ActD × Int} {er : Int} (h : r = (noA, er)) : OutA B w' r (.returned (.tuple #[.agg #[.string ByteArray.empty, .int .i64 0, .int .i64 0, .slice none 0 0, .slice none 0 0, .slice none 0 0], .int .i64 er])) := by
  subst h
  exact ⟨none, 0, 0, none, 0, 0, none, 0, 0, rfl, ((((Sat.nil _ _).nilRow 1003 _ _).nilRow 1002 _ _).nilRow 1001 _ _)⟩
end Go.Proofs.Ytogcclagmobkiaa
