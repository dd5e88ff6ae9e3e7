/-
  Level: the program.
-/
import Derived.Test.YtogcclagmobkiaaMid
import Derived.Test.YtogcclagmobkiaaSort
namespace Go.Proofs.Ytogcclagmobkiaa
open Go Go.RowKit Hx
set_option linter.unusedVariables false
set_option linter.unusedSimpArgs false
set_option maxRecDepth 8000
theorem medZ_of {l : List Int} {n : Nat} {m : Int} (hn : l.length = n) (hm : (sortI l)[(((n : Nat) : Int) - 1) / 2 |>.toNat]? = some m) : m = medZ l := by
  subst hn
  unfold medZ
  have e : ((((l.length : Nat) : Int) - 1) / 2).toNat = (l.length - 1) / 2 := by omega
  rw [e] at hm
  show m = (sortI l).getD _ 0
  simp [List.getD, hm]
theorem track_Level (A : ActV) (width : Int) (w : World) (hA : A.Ok w.heap.size w) :
    Calls Try.prog 34 #[.agg #[.string A.name, .int .i64 A.sport, .int .i64 A.start, .slice A.sa A.sn A.sc, .slice A.la A.ln A.lc, .slice A.ta A.tn A.tc], .int .i64 width] w fun e w' => OutA w.heap.size w' (levelR A.d width) e ∧ Below w.heap.size w w' := by
  have hsn := hA.s.len
  have hln := hA.l.len
  have htn := hA.t.len
  refine enterQ (N := 72) (C := fun _ => True) (H := []) (B := w.heap.size) (args := [_, _]) Try.func34 rfl rfl rfl (Nat.le_refl _) (Sat.nil _ _) fun Q hQ => ?_
  refine wp_seq' fun K1 hK1 => ?_
  refine wp_reg ?_
  refine ol_box 2 rfl rfl rfl fun b2 => ?_
  refine ol_alloc 4 z26 rfl fun b4 => ?_
  refine ol_r (r_assign rfl) rfl ?_
  refine ol_nil (to_k0 (fun _ _ h => h) (hK1 _ _ _ _ _ ?_))
  clear hK1
  refine wp_seq' fun K2 hK2 => ?_
  refine wp_seq' fun K3 hK3 => ?_
  refine wp_reg ?_
  refine ol_r (r_lda (id := 2) (n := 6) rfl rfl rfl ag26) rfl ?_
  refine ol_call rfl rfl cb40 rfl (fun w1 hb1 hs1 hB1 => Calls.mono (record_Check A _ (hA.at hb1 hB1)) ?_)
  rintro e w2 ⟨rfl, hb2⟩
  refine After.below rfl hb1 hs1 hB1 hb2 ?_
  clear hb2 hB1 hs1 hb1 w2 w1
  refine ol_r (r_assign rfl) rfl ?_
  refine ol_nil (to_k0 (fun _ _ h => h) (hK3 _ _ _ _ _ ?_))
  clear hK3
  refine wp_seq' fun K4 hK4 => ?_
  refine wp_reg ?_
  refine ol_r (r_move rfl) rfl ?_
  refine ol_r (r_neq rfl rfl) rfl ?_
  refine ol_nil (to_k0 (fun _ _ h => h) (hK4 _ _ _ _ _ ?_))
  clear hK4
  first | refine wp_condD rfl (fun hc15 => ?_) (fun hc15 => ?_) | refine wp_condN rfl (fun hc15 => ?_) (fun hc15 => ?_) | refine wp_condNB rfl (fun hc15 => ?_) (fun hc15 => ?_) | refine wp_cond' rfl (fun hc15 => ?_) (fun hc15 => ?_)
  ·refine wp_seq' fun K5 hK5 => ?_
   refine wp_reg ?_
   refine ol_r (r_build rfl (fun _ => bd26 _)) rfl ?_
   refine ol_r (r_move rfl) rfl ?_
   refine ol_store (id := 4) rfl rfl rfl rfl sz26 rfl rfl (by first | decide | exact Nat.zero_lt_succ _ | simp) ?_
   refine ol_r (r_assign rfl) rfl ?_
   refine ol_nil (to_k0 (fun _ _ h => h) (hK5 _ _ _ _ _ ?_))
   clear hK5
   refine hQ.ret (rvs2 (rv_c (id := 4) (n := 6) rfl rfl ag26 rfl) (rv_t rfl)) (fun _ _ h => h) fun w hb hs hB hkd => ?_
   exact ⟨outA_no (levelR_e hc15), hb⟩
  ·refine wp_skip' (to_k0 (fun _ _ h => h) (hK2 _ _ _ _ _ ?_))
   clear hK2
   refine wp_seq' fun K6 hK6 => ?_
   refine wp_seq' fun K7 hK7 => ?_
   refine wp_reg ?_
   refine ol_r (r_move rfl) rfl ?_
   refine ol_call rfl rfl cb41 rfl (fun w1 hb1 hs1 hB1 => Calls.mono (track_in _ _ _ _) ?_)
   rintro e w2 ⟨rfl, hb2⟩
   refine After.below rfl hb1 hs1 hB1 hb2 ?_
   clear hb2 hB1 hs1 hb1 w2 w1
   refine ol_r (r_not rfl) rfl ?_
   refine ol_nil (to_k0 (fun _ _ h => h) (hK7 _ _ _ _ _ ?_))
   clear hK7
   first | refine wp_condD rfl (fun hc20 => ?_) (fun hc20 => ?_) | refine wp_condN rfl (fun hc20 => ?_) (fun hc20 => ?_) | refine wp_condNB rfl (fun hc20 => ?_) (fun hc20 => ?_) | refine wp_cond' rfl (fun hc20 => ?_) (fun hc20 => ?_)
   ·refine wp_seq' fun K8 hK8 => ?_
    refine wp_reg ?_
    refine ol_r (r_build rfl (fun _ => bd26 _)) rfl ?_
    refine ol_store (id := 4) rfl rfl rfl rfl sz26 rfl rfl (by first | decide | exact Nat.zero_lt_succ _ | simp) ?_
    refine ol_r (r_assign rfl) rfl ?_
    refine ol_nil (to_k0 (fun _ _ h => h) (hK8 _ _ _ _ _ ?_))
    clear hK8
    refine hQ.ret (rvs2 (rv_c (id := 4) (n := 6) rfl rfl ag26 rfl) (rv_t rfl)) (fun _ _ h => h) fun w hb hs hB hkd => ?_
    exact ⟨outA_no (levelR_9 hc15 (by have h := inB_not.1 (by simpa using hc20); omega)), hb⟩
   ·refine wp_skip' (to_k0 (fun _ _ h => h) (hK6 _ _ _ _ _ ?_))
    clear hK6
    refine wp_seq' fun K9 hK9 => ?_
    refine wp_reg ?_
    have h0 : chkA A.d = 0 := Decidable.not_not.1 hc15
    have hw : ¬(width < 0 ∨ 50 < width) := by have h := inB_iff.1 (by simpa using hc20); omega
    have hg := goodA h0
    have hl20 : A.ss.length ≤ 20000 := (show SmpOk A.start A.ss from hg.smp).len
    obtain ⟨g4, g5, g6⟩ := hg.head.2.2.2
    dsimp only [ActV.d] at g4 g5 g6
    refine ol_r (r_lda (id := 2) (n := 6) rfl rfl rfl ag26) rfl ?_
    refine ol_call rfl rfl cb48 rfl (fun w1 hb1 hs1 hB1 => ?_)
    refine Calls.mono (record_Clone A _ (hA.at hb1 hB1) (by omega) (by omega) (by omega)) ?_
    rintro e w2 ⟨sa, sn, sc, la, ln, lc, ta, tn, tc, rfl, hb2, hs2⟩
    have q1 := (Sat.rd hs2 (E := encSmp) (id := 1001) rfl rfl).len
    refine After.more rfl hb1 hs1 hB1 hb2 hs2 ?_
    clear hs2 hb2 hB1 hs1 hb1 w2 w1
    refine ol_alloc 7 z26 rfl fun b7 => ?_
    refine ol_store (id := 7) rfl rfl rfl rfl sz26 rfl rfl (by first | decide | exact Nat.zero_lt_succ _ | simp) ?_
    refine ol_nil (to_k0 (fun _ _ h => h) (hK9 _ _ _ _ _ ?_))
    clear hK9
    refine wp_seq' fun K10 hK10 => ?_
    refine wp_seq' fun K11 hK11 => ?_
    refine wp_reg ?_
    refine ol_r (r_fa (o' := 3) rfl fl26_3 rfl) rfl ?_
    refine ol_r (r_ld (id := 7) rfl rfl rfl sc22) rfl ?_
    refine ol_r (r_len rfl sl22) rfl ?_
    refine ol_r (r_move rfl) rfl ?_
    refine ol_nil (to_k0 (fun _ _ h => h) (hK11 _ _ _ _ _ ?_))
    clear hK11
    refine wp_block' ?_
    apply wp_loopM (σ := Nat) (fun s => s ≤ sn) (fun s => [(27, .int .i64 s)]) [(1, _), (2, _), (4, _), (5, _), (7, _), (26, _)] (fun s => [(1001, .row sa sn sc (encSmp.enc (levelN A.ss width s)) 28 7)]) [(2, _), (4, _), (7, _), (1002, _), (1003, _)] (fun s => sn - s) (0)
    ·try dsimp only
     exact Nat.zero_le _
    ·exact (sub_cons rfl sub_nil)
    ·exact (sub_cons rfl (sub_cons rfl (sub_cons rfl (sub_cons rfl (sub_cons rfl (sub_cons rfl sub_nil))))))
    ·exact (subH_row rfl (by first | (dsimp only; rfl; done) | (rfl; done) | (dsimp only; done)) subH_nil)
    ·exact (subH_same rfl (subH_same rfl (subH_same rfl (subH_same rfl (subH_same rfl subH_nil)))))
    ·rintro i hi
     intro K12 hK12
     refine wp_seq' fun K13 hK13 => ?_
     refine wp_reg ?_
     refine ol_r (r_lss rfl rfl) rfl ?_
     refine ol_nil (to_k0 (fun _ _ h => h) (hK13 _ _ _ _ _ ?_))
     clear hK13
     refine wp_seq' fun K14 hK14 => ?_
     first | refine wp_condD rfl (fun hc28 => ?_) (fun hc28 => ?_) | refine wp_condN rfl (fun hc28 => ?_) (fun hc28 => ?_) | refine wp_condNB rfl (fun hc28 => ?_) (fun hc28 => ?_) | refine wp_cond' rfl (fun hc28 => ?_) (fun hc28 => ?_)
     ·refine wp_skip' (to_k0 (fun _ _ h => h) (hK14 _ _ _ _ _ ?_))
      clear hK14
      refine wp_seq' fun K15 hK15 => ?_
      refine wp_block' ?_
      refine wp_seq' fun K16 hK16 => ?_
      refine wp_reg ?_
      refine ol_r (r_move rfl) rfl ?_
      refine ol_r (r_assign rfl) rfl ?_
      refine ol_nil (to_k0 (fun _ _ h => h) (hK16 _ _ _ _ _ ?_))
      clear hK16
      refine wp_seq' fun K17 hK17 => ?_
      refine wp_reg ?_
      refine ol_nilrow 9 3 1 ?_
      refine ol_r (r_assign rfl) rfl ?_
      refine ol_nil (to_k0 (fun _ _ h => h) (hK17 _ _ _ _ _ ?_))
      clear hK17
      refine wp_seq' fun K18 hK18 => ?_
      refine wp_seq' fun K19 hK19 => ?_
      refine wp_reg ?_
      have hLo : ((loN width i : Nat) : Int) = max ((i : Int) - width) 0 := by unfold loN; omega
      have hHi : ((hiN A.ss.length width i : Nat) : Int) = min ((i : Int) + width + 1) (A.sn : Int) := by unfold hiN; omega
      refine ol_r (r_fa (o' := 3) rfl fl26_3 rfl) rfl ?_
      refine ol_r (r_ld (id := 2) rfl rfl rfl sc22) rfl ?_
      refine ol_r (r_move rfl) rfl ?_
      refine ol_r (r_move rfl) rfl ?_
      refine ol_r (r_sub rfl rfl (by omega)) rfl ?_
      refine ol_r (r_max rfl rfl) rfl ?_
      refine ol_r (r_move rfl) rfl ?_
      refine ol_r (r_move rfl) rfl ?_
      refine ol_r (r_add rfl rfl (by omega)) rfl ?_
      refine ol_r (r_add rfl rfl (by omega)) rfl ?_
      refine ol_r (r_fa (o' := 3) rfl fl26_3 rfl) rfl ?_
      refine ol_r (r_ld (id := 2) rfl rfl rfl sc22) rfl ?_
      refine ol_r (r_len rfl sl22) rfl ?_
      refine ol_r (r_min rfl rfl) rfl ?_
      refine ol_slr hA.s rfl rfl rfl sl22 (by simp only [Option.getD_some, Option.getD_none]; omega) rfl fun a44 c44 hl44 => ?_
      try simp only [Option.getD_some, Option.getD_none] at hl44 ⊢
      refine ol_r (r_len rfl sl22) rfl ?_
      refine ol_r (r_move rfl) rfl ?_
      refine ol_nil (to_k0 (fun _ _ h => h) (hK19 _ _ _ _ _ ?_))
      clear hK19
      refine wp_block' ?_
      apply wp_loopM (σ := Nat × Option Addr × Nat) (fun s => s.1 ≤ (min ((i : Int) + width + 1) (A.sn : Int)).toNat - (max ((i : Int) - width) 0).toNat) (fun s => [(46, .int .i64 s.1), (9, .slice s.2.1 s.1 s.2.2)]) [(1, _), (2, _), (4, _), (5, _), (7, _), (8, _), (26, _), (27, _), (44, _), (45, _)] (fun s => [(9, .row s.2.1 s.1 s.2.2 (encI.enc ((((A.ss.drop (max ((i : Int) - width) 0).toNat).take ((min ((i : Int) + width + 1) (A.sn : Int)).toNat - (max ((i : Int) - width) 0).toNat)).take s.1).map (·.z))) 3 1)]) [(2, _), (4, _), (7, _), (1001, _), (1002, _), (1003, _)] (fun s => (min ((i : Int) + width + 1) (A.sn : Int)).toNat - (max ((i : Int) - width) 0).toNat - s.1) ((0, none, 0))
      ·try dsimp only
       exact Nat.zero_le _
      ·exact (sub_cons rfl (sub_cons rfl sub_nil))
      ·exact (sub_cons rfl (sub_cons rfl (sub_cons rfl (sub_cons rfl (sub_cons rfl (sub_cons rfl (sub_cons rfl (sub_cons rfl (sub_cons rfl (sub_cons rfl sub_nil))))))))))
      ·exact (subH_row rfl (by first | (dsimp only; rfl; done) | (rfl; done) | (dsimp only; done)) subH_nil)
      ·exact (subH_same rfl (subH_same rfl (subH_same rfl (subH_same rfl (subH_same rfl (subH_same rfl subH_nil))))))
      ·rintro ⟨j, na, nc⟩ hj
       dsimp only at hj ⊢
       intro K20 hK20
       refine wp_seq' fun K21 hK21 => ?_
       refine wp_reg ?_
       refine ol_r (r_lss rfl rfl) rfl ?_
       refine ol_nil (to_k0 (fun _ _ h => h) (hK21 _ _ _ _ _ ?_))
       clear hK21
       refine wp_seq' fun K22 hK22 => ?_
       first | refine wp_condD rfl (fun hc47 => ?_) (fun hc47 => ?_) | refine wp_condN rfl (fun hc47 => ?_) (fun hc47 => ?_) | refine wp_condNB rfl (fun hc47 => ?_) (fun hc47 => ?_) | refine wp_cond' rfl (fun hc47 => ?_) (fun hc47 => ?_)
       ·refine wp_skip' (to_k0 (fun _ _ h => h) (hK22 _ _ _ _ _ ?_))
        clear hK22
        refine wp_seq' fun K23 hK23 => ?_
        refine wp_block' ?_
        refine wp_seq' fun K24 hK24 => ?_
        refine wp_reg ?_
        refine ol_ixr hl44 rfl rfl sl22 (by omega) rfl fun x48 hx48 => ?_
        try simp only [Int.toNat_natCast] at hx48
        refine ol_r (r_ldw rfl (fun w1 hb1 hs1 hB1 => Rd.loads hl44 ty28 hx48 hb1)) rfl ?_
        refine ol_alloc 11 z28 rfl fun b11 => ?_
        refine ol_store (id := 11) rfl rfl rfl rfl sz28 rfl rfl (by first | decide | exact Nat.zero_lt_succ _ | simp) ?_
        refine ol_nil (to_k0 (fun _ _ h => h) (hK24 _ _ _ _ _ ?_))
        clear hK24
        refine wp_reg ?_
        refine ol_r (r_move rfl) rfl ?_
        refine ol_r (r_fa (o' := 3) rfl fl28_3 rfl) rfl ?_
        refine ol_r (r_ld (id := 11) rfl rfl rfl sc3) rfl ?_
        refine ol_bs1 53 rfl rfl rw37 rfl rfl rfl fun a53 => ?_
        refine ol_append1 (id := 9) (id2 := 53) rfl rfl rfl rfl rfl rw37 (by omega) rfl fun a54 c54 => ?_
        refine ol_r (r_assign rfl) rfl ?_
        refine ol_nil (to_k0 (fun _ _ h => h) (hK23 _ _ _ _ _ ?_))
        clear hK23
        refine wp_reg ?_
        refine ol_r (r_add rfl rfl (by omega)) rfl ?_
        refine ol_r (r_move rfl) rfl ?_
        refine ol_nil (to_k0 (fun _ _ h => h) (hK20 ((j + 1, _, _)) _ _ ?_ ?_ (sub_cons rfl (sub_cons rfl sub_nil)) (sub_cons rfl (sub_cons rfl (sub_cons rfl (sub_cons rfl (sub_cons rfl (sub_cons rfl (sub_cons rfl (sub_cons rfl (sub_cons rfl (sub_cons rfl sub_nil)))))))))) (by exact (subH_row rfl (by first | (dsimp only; rw [zs_row hx48]; rfl; done) | (rw [zs_row hx48]; rfl; done) | (dsimp only; done)) subH_nil)) (subH_same rfl (subH_same rfl (subH_same rfl (subH_same rfl (subH_same rfl (subH_same rfl subH_nil))))))))
        ·try dsimp only
         omega
        ·try dsimp only
         omega
       ·refine wp_exit' (to_k0 (fun _ _ h => h) (hK18 _ _ _ _ _ ?_))
        clear hK18
        refine wp_seq' fun K25 hK25 => ?_
        refine wp_reg ?_
        have hje : (((A.ss.drop (max ((i : Int) - width) 0).toNat).take ((min ((i : Int) + width + 1) (A.sn : Int)).toNat - (max ((i : Int) - width) 0).toNat)).take j).map (·.z) = winI A.ss width i := by
          rw [List.take_of_length_le (by rw [List.length_take]; omega)]
          unfold winI winZ loN hiN
          rw [hsn]
        have hj0 : 0 < j := by omega
        have hwl : (winI A.ss width i).length = j := by rw [winI_len (by omega) (by omega)]; omega
        have hsl : (sortI (winI A.ss width i)).length = j := by rw [sortI, List.length_mergeSort]; exact hwl
        have hll : (levelN A.ss width i).length = sn := by rw [levelN_len]; exact q1
        refine ol_r (r_move rfl) rfl ?_
        refine ol_call rfl rfl cb79 rfl (fun w1 hb1 hs1 hB1 => ?_)
        rw [hje] at hs1
        refine Calls.mono (sort_ints _ 9 _ _ _ (winI A.ss width i) _ _ _ hB1 hs1 rfl hj0 (by omega)) ?_
        rintro e w2 ⟨rfl, hbw, hs2, hB2, hkd2⟩
        refine After.sat rfl hb1 hbw hs2 hB2 (hkd2.imp (fun _ h => h.elim)) ?_
        clear hkd2 hB2 hs2 hbw hB1 hs1 hb1 w2 w1
        refine ol_nil (to_k0 (fun _ _ h => h) (hK25 _ _ _ _ _ ?_))
        clear hK25
        refine wp_regt 12 (by kernel_rfl) (by kernel_rfl) ?_
        simp only [List.take_succ_cons, List.take_zero, List.drop_succ_cons, List.drop_zero]
        refine sl_r (r_fa (o' := 3) rfl fl26_3 rfl) rfl ?_
        refine sl_r (r_ld (id := 7) rfl rfl rfl sc22) rfl ?_
        refine sl_r (r_move rfl) rfl ?_
        refine sl_r (r_move rfl) rfl ?_
        refine sl_r (r_move rfl) rfl ?_
        refine sl_r (r_len rfl sl37) rfl ?_
        refine sl_r (r_sub rfl rfl (by omega)) rfl ?_
        first | refine sl_r (r_quo rfl rfl (by omega)) rfl ?_ | refine sl_r (r_tquo rfl rfl (by omega)) rfl ?_
        refine sl_ixo (id := 9) encI _ rfl rfl rfl rfl sl37 (by omega) (by omega) rfl fun x66 hx66 => ?_
        try simp only [Int.toNat_natCast] at hx66
        try simp only [Int.toNat_natCast] at hx66
        refine sl_r (r_ldw rfl (fun w1 hb1 hs1 hB1 => show Loads _ _ _ _ (.int .i64 x66) from ld_own (id := 9) hs1 rfl rfl ty3 hx66)) rfl ?_
        have hmed := medZ_of hwl hx66
        refine sl_ixo (id := 1001) encSmp _ rfl rfl rfl rfl sl22 (by omega) (by omega) rfl fun x68 hx68 => ?_
        try simp only [Int.toNat_natCast] at hx68
        try simp only [Int.toNat_natCast] at hx68
        refine sl_r (r_faO (id := 1001) rfl rfl rfl hx68 fl28_3) rfl ?_
        refine sl_nil ?_
        refine ol_storeRowF (id := 1001) _ _ (x68.setZ x66) rfl rfl rfl rfl rfl rfl sz3 hx68 (by decide) rfl ?_
        refine ol_nil (to_k0 (fun _ _ h => h) (hK15 _ _ _ _ _ ?_))
        clear hK15
        refine wp_reg ?_
        refine ol_r (r_add rfl rfl (by omega)) rfl ?_
        refine ol_r (r_move rfl) rfl ?_
        refine ol_nil (to_k0 (fun _ _ h => h) (hK12 ((i + 1)) _ _ ?_ ?_ (sub_cons rfl sub_nil) (sub_cons rfl (sub_cons rfl (sub_cons rfl (sub_cons rfl (sub_cons rfl (sub_cons rfl sub_nil)))))) (by exact (subH_row rfl (by first | (dsimp only; rw [levelN_succ (show A.ss[i]? = some x68 from ((levelN_get (w := width) (Nat.le_refl i)).symm.trans hx68)), ← hmed]; first | done | rfl; done) | (rw [levelN_succ (show A.ss[i]? = some x68 from ((levelN_get (w := width) (Nat.le_refl i)).symm.trans hx68)), ← hmed]; first | done | rfl; done) | (dsimp only; done)) subH_nil)) (subH_same rfl (subH_same rfl (subH_same rfl (subH_same rfl (subH_same rfl subH_nil)))))))
        ·try dsimp only
         omega
        ·try dsimp only
         omega
     ·refine wp_exit' (to_k0 (fun _ _ h => h) (hK10 _ _ _ _ _ ?_))
      clear hK10
      refine wp_seq' fun K26 hK26 => ?_
      refine wp_reg ?_
      refine ol_r (r_lda (id := 7) (n := 6) rfl rfl rfl ag26) rfl ?_
      refine ol_store (id := 4) rfl rfl rfl rfl sz26 rfl rfl (by first | decide | exact Nat.zero_lt_succ _ | simp) ?_
      refine ol_r (r_assign rfl) rfl ?_
      refine ol_nil (to_k0 (fun _ _ h => h) (hK26 _ _ _ _ _ ?_))
      clear hK26
      refine hQ.ret (rvs2 (rv_c (id := 4) (n := 6) rfl rfl ag26 rfl) (rv_t rfl)) (fun _ _ h => h) fun w hb hs hB hkd => ?_
      have hin : i = A.ss.length := by omega
      subst hin
      refine ⟨?_, hb⟩
      rw [levelR_0 hc15 hw]
      exact ⟨sa, sn, sc, la, ln, lc, ta, tn, tc, rfl, hs.three 1001 1002 1003 1001 1002 1003 (by decide) (by decide) (by decide) rfl rfl rfl (Ent.le_refl _) (Ent.le_refl _) (Ent.le_refl _)⟩
end Go.Proofs.Ytogcclagmobkiaa
