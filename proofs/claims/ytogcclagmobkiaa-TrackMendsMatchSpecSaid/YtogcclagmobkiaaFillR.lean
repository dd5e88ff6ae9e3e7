/-
  Fill: the reference.
-/
import Derived.Test.YtogcclagmobkiaaFill
namespace Go.Proofs.Ytogcclagmobkiaa
open Go Go.RowKit Hx
set_option linter.unusedVariables false
set_option linter.unusedSimpArgs false
set_option maxRecDepth 8000
theorem ref3_field (x : SmpR) (k : Nat) (hk : k < 3) (w : World) :
    Calls Try.prog 86 #[.agg #[.int .i64 x.at_, .int .i64 x.x, .int .i64 x.y, .int .i64 x.z, .int .i64 x.pulse, .int .i64 x.power, .int .i64 x.steps], .int .i64 (k : Int)] w fun e w' => e = .returned (.int .i64 (x.num k)) ∧ Below w.heap.size w w' := by
  refine enterQ (N := 16) (C := fun _ => True) (H := []) (B := w.heap.size) (args := [_, _]) Try.func86 rfl rfl rfl (Nat.le_refl _) (Sat.nil _ _) fun Q hQ => ?_
  refine wp_seq' fun K1 hK1 => ?_
  refine wp_reg ?_
  refine ol_box 2 rfl rfl rfl fun b2 => ?_
  refine ol_r (r_assign rfl) rfl ?_
  refine ol_nil (to_k0 (fun _ _ h => h) (hK1 _ _ _ _ _ ?_))
  clear hK1
  refine wp_seq' fun K2 hK2 => ?_
  refine wp_seq' fun K3 hK3 => ?_
  refine wp_reg ?_
  refine ol_r (r_move rfl) rfl ?_
  refine ol_nil (to_k0 (fun _ _ h => h) (hK3 _ _ _ _ _ ?_))
  clear hK3
  refine wp_block' ?_
  refine wp_seq' fun K4 hK4 => ?_
  refine wp_reg ?_
  refine ol_r (r_eql rfl rfl) rfl ?_
  refine ol_r (r_assign rfl) rfl ?_
  refine ol_nil (to_k0 (fun _ _ h => h) (hK4 _ _ _ _ _ ?_))
  clear hK4
  first | refine wp_condD rfl (fun hc6 => ?_) (fun hc6 => ?_) | refine wp_condN rfl (fun hc6 => ?_) (fun hc6 => ?_) | refine wp_condNB rfl (fun hc6 => ?_) (fun hc6 => ?_) | refine wp_cond' rfl (fun hc6 => ?_) (fun hc6 => ?_)
  ·refine wp_seq' fun K5 hK5 => ?_
   refine wp_reg ?_
   refine ol_r (r_fa (o' := 4) rfl fl28_4 rfl) rfl ?_
   refine ol_r (r_ld (id := 2) rfl rfl rfl sc3) rfl ?_
   refine ol_r (r_assign rfl) rfl ?_
   refine ol_nil (to_k0 (fun _ _ h => h) (hK5 _ _ _ _ _ ?_))
   clear hK5
   refine hQ.ret (rvs1 (rv_t rfl)) (fun _ _ h => h) fun w hb hs hB hkd => ?_
   exact ⟨by unfold SmpR.num; rw [if_pos (by omega)], hb⟩
  ·refine wp_seq' fun K6 hK6 => ?_
   refine wp_reg ?_
   refine ol_r (r_eql rfl rfl) rfl ?_
   refine ol_r (r_assign rfl) rfl ?_
   refine ol_nil (to_k0 (fun _ _ h => h) (hK6 _ _ _ _ _ ?_))
   clear hK6
   first | refine wp_condD rfl (fun hc10 => ?_) (fun hc10 => ?_) | refine wp_condN rfl (fun hc10 => ?_) (fun hc10 => ?_) | refine wp_condNB rfl (fun hc10 => ?_) (fun hc10 => ?_) | refine wp_cond' rfl (fun hc10 => ?_) (fun hc10 => ?_)
   ·refine wp_seq' fun K7 hK7 => ?_
    refine wp_reg ?_
    refine ol_r (r_fa (o' := 5) rfl fl28_5 rfl) rfl ?_
    refine ol_r (r_ld (id := 2) rfl rfl rfl sc3) rfl ?_
    refine ol_r (r_assign rfl) rfl ?_
    refine ol_nil (to_k0 (fun _ _ h => h) (hK7 _ _ _ _ _ ?_))
    clear hK7
    refine hQ.ret (rvs1 (rv_t rfl)) (fun _ _ h => h) fun w hb hs hB hkd => ?_
    exact ⟨by unfold SmpR.num; rw [if_neg (by omega), if_pos (by omega)], hb⟩
   ·refine wp_skip' (to_k0 (fun _ _ h => h) (hK2 _ _ _ _ _ ?_))
    clear hK2
    refine wp_seq' fun K8 hK8 => ?_
    refine wp_reg ?_
    refine ol_r (r_fa (o' := 6) rfl fl28_6 rfl) rfl ?_
    refine ol_r (r_ld (id := 2) rfl rfl rfl sc3) rfl ?_
    refine ol_r (r_assign rfl) rfl ?_
    refine ol_nil (to_k0 (fun _ _ h => h) (hK8 _ _ _ _ _ ?_))
    clear hK8
    refine hQ.ret (rvs1 (rv_t rfl)) (fun _ _ h => h) fun w hb hs hB hkd => ?_
    exact ⟨by unfold SmpR.num; rw [if_neg (by omega), if_neg (by omega)], hb⟩
theorem ref3_setField (B : Nat) (a : Option Addr) (n c : Nat) (xs : List SmpR) (i k : Nat) (x : SmpR) (v : Int) (e1 e2 e3 e4 e5 e6 e7 : Ent) (w : World) (hlen : xs.length = n) (hB : B ≤ w.heap.size) (hk : k < 3) (hx : xs[i]? = some x)
    (hs : Sat B w [(900, .row a n c (encSmp.enc xs) 28 7), (901, e1), (902, e2), (903, e3), (904, e4), (905, e5), (906, e6), (907, e7)]) :
    Calls Try.prog 87 #[.pointer (a.map (·.add (i * encSmp.size))), .int .i64 (k : Int), .int .i64 v] w fun e w' => e = .returned (.tuple #[]) ∧ Below B w w' ∧ Sat B w' [(900, .row a n c (encSmp.enc (xs.set i (x.setNum k v))) 28 7), (901, e1), (902, e2), (903, e3), (904, e4), (905, e5), (906, e6), (907, e7)] ∧ B ≤ w'.heap.size ∧ Kd (fun _ => False) w w' := by
  have hlt := (List.getElem?_eq_some_iff.1 hx).1
  have ha : (a.map (·.add (i * encSmp.size))).isSome = true := some_map ((hs.rd (id := 900) rfl rfl).isSome (by omega))
  refine enterQ (N := 23) (C := fun _ => False) (H := [(900, .row a n c (encSmp.enc xs) 28 7), (901, e1), (902, e2), (903, e3), (904, e4), (905, e5), (906, e6), (907, e7)]) (B := B) (args := [_, _, _]) Try.func87 rfl rfl rfl (hB) (hs) fun Q hQ => ?_
  refine wp_seq' fun K1 hK1 => ?_
  refine wp_reg ?_
  refine ol_r (r_move rfl) rfl ?_
  refine ol_nil (to_k0 (fun _ _ h => h) (hK1 _ _ _ _ _ ?_))
  clear hK1
  refine wp_block' ?_
  refine wp_seq' fun K2 hK2 => ?_
  refine wp_reg ?_
  refine ol_r (r_eql rfl rfl) rfl ?_
  refine ol_r (r_assign rfl) rfl ?_
  refine ol_nil (to_k0 (fun _ _ h => h) (hK2 _ _ _ _ _ ?_))
  clear hK2
  first | refine wp_condD rfl (fun hc11 => ?_) (fun hc11 => ?_) | refine wp_condN rfl (fun hc11 => ?_) (fun hc11 => ?_) | refine wp_condNB rfl (fun hc11 => ?_) (fun hc11 => ?_) | refine wp_cond' rfl (fun hc11 => ?_) (fun hc11 => ?_)
  ·refine wp_reg ?_
   refine ol_r (r_move rfl) rfl ?_
   refine ol_r (r_move rfl) rfl ?_
   refine ol_r (r_nilS rfl (ha)) rfl ?_
   refine ol_r (r_faO (id := 900) rfl rfl rfl hx fl28_4) rfl ?_
   refine ol_storeRowF (id := 900) _ _ (x.setNum 0 v) rfl rfl rfl rfl rfl rfl sz3 hx (by decide) rfl ?_
   refine ol_nil (hQ.fall rvs0 (fun _ _ h => h) fun w hb hs hB hkd => ?_)
   obtain rfl : k = 0 := by omega
   exact ⟨rfl, hb, hs.sub (subH_same rfl (subH_same rfl (subH_same rfl (subH_same rfl (subH_same rfl (subH_same rfl (subH_same rfl (subH_same rfl subH_nil)))))))), hB, hkd⟩
  ·refine wp_seq' fun K3 hK3 => ?_
   refine wp_reg ?_
   refine ol_r (r_eql rfl rfl) rfl ?_
   refine ol_r (r_assign rfl) rfl ?_
   refine ol_nil (to_k0 (fun _ _ h => h) (hK3 _ _ _ _ _ ?_))
   clear hK3
   first | refine wp_condD rfl (fun hc17 => ?_) (fun hc17 => ?_) | refine wp_condN rfl (fun hc17 => ?_) (fun hc17 => ?_) | refine wp_condNB rfl (fun hc17 => ?_) (fun hc17 => ?_) | refine wp_cond' rfl (fun hc17 => ?_) (fun hc17 => ?_)
   ·refine wp_reg ?_
    refine ol_r (r_move rfl) rfl ?_
    refine ol_r (r_move rfl) rfl ?_
    refine ol_r (r_nilS rfl (ha)) rfl ?_
    refine ol_r (r_faO (id := 900) rfl rfl rfl hx fl28_5) rfl ?_
    refine ol_storeRowF (id := 900) _ _ (x.setNum 1 v) rfl rfl rfl rfl rfl rfl sz3 hx (by decide) rfl ?_
    refine ol_nil (hQ.fall rvs0 (fun _ _ h => h) fun w hb hs hB hkd => ?_)
    obtain rfl : k = 1 := by omega
    exact ⟨rfl, hb, hs.sub (subH_same rfl (subH_same rfl (subH_same rfl (subH_same rfl (subH_same rfl (subH_same rfl (subH_same rfl (subH_same rfl subH_nil)))))))), hB, hkd⟩
   ·refine wp_reg ?_
    refine ol_r (r_move rfl) rfl ?_
    refine ol_r (r_move rfl) rfl ?_
    refine ol_r (r_nilS rfl (ha)) rfl ?_
    refine ol_r (r_faO (id := 900) rfl rfl rfl hx fl28_6) rfl ?_
    refine ol_storeRowF (id := 900) _ _ (x.setNum 2 v) rfl rfl rfl rfl rfl rfl sz3 hx (by decide) rfl ?_
    refine ol_nil (hQ.fall rvs0 (fun _ _ h => h) fun w hb hs hB hkd => ?_)
    obtain rfl : k = 2 := by omega
    exact ⟨rfl, hb, hs.sub (subH_same rfl (subH_same rfl (subH_same rfl (subH_same rfl (subH_same rfl (subH_same rfl (subH_same rfl (subH_same rfl subH_nil)))))))), hB, hkd⟩
theorem ref3_Fill (A : ActV) (gap : Int) (w : World) (hA : A.Ok w.heap.size w) :
    Calls Try.prog 37 #[.agg #[.string A.name, .int .i64 A.sport, .int .i64 A.start, .slice A.sa A.sn A.sc, .slice A.la A.ln A.lc, .slice A.ta A.tn A.tc], .int .i64 gap] w fun e w' => OutA w.heap.size w' (fillR A.d gap) e ∧ Below w.heap.size w w' := by
  have hsn := hA.s.len
  have hln := hA.l.len
  have htn := hA.t.len
  refine enterQ (N := 98) (C := fun _ => True) (H := []) (B := w.heap.size) (args := [_, _]) Try.func37 rfl rfl rfl (Nat.le_refl _) (Sat.nil _ _) fun Q hQ => ?_
  refine wp_seq' fun K1 hK1 => ?_
  refine wp_reg ?_
  refine ol_box 2 rfl rfl rfl fun b2 => ?_
  refine ol_alloc 4 z26 rfl fun b4 => ?_
  refine ol_r (r_assign rfl) rfl ?_
  refine ol_nil (to_k0 (fun _ _ h => h) (hK1 _ _ _ _ _ ?_))
  clear hK1
  refine wp_seq' fun K2 hK2 => ?_
  refine wp_seq' fun K3 hK3 => ?_
  refine wp_reg ?_
  refine ol_r (r_lda (id := 2) (n := 6) rfl rfl rfl ag26) rfl ?_
  refine ol_call rfl rfl cb44 rfl (fun w1 hb1 hs1 hB1 => Calls.mono (ref2_Check A _ (hA.at hb1 hB1)) ?_)
  rintro e w2 ⟨rfl, hb2⟩
  refine After.below rfl hb1 hs1 hB1 hb2 ?_
  clear hb2 hB1 hs1 hb1 w2 w1
  refine ol_r (r_assign rfl) rfl ?_
  refine ol_nil (to_k0 (fun _ _ h => h) (hK3 _ _ _ _ _ ?_))
  clear hK3
  refine wp_seq' fun K4 hK4 => ?_
  refine wp_reg ?_
  refine ol_r (r_move rfl) rfl ?_
  refine ol_r (r_neq rfl rfl) rfl ?_
  refine ol_nil (to_k0 (fun _ _ h => h) (hK4 _ _ _ _ _ ?_))
  clear hK4
  first | refine wp_condD rfl (fun hc17 => ?_) (fun hc17 => ?_) | refine wp_condN rfl (fun hc17 => ?_) (fun hc17 => ?_) | refine wp_condNB rfl (fun hc17 => ?_) (fun hc17 => ?_) | refine wp_cond' rfl (fun hc17 => ?_) (fun hc17 => ?_)
  ·refine wp_seq' fun K5 hK5 => ?_
   refine wp_reg ?_
   refine ol_r (r_build rfl (fun _ => bd26 _)) rfl ?_
   refine ol_r (r_move rfl) rfl ?_
   refine ol_store (id := 4) rfl rfl rfl rfl sz26 rfl rfl (by first | decide | exact Nat.zero_lt_succ _ | simp) ?_
   refine ol_r (r_assign rfl) rfl ?_
   refine ol_nil (to_k0 (fun _ _ h => h) (hK5 _ _ _ _ _ ?_))
   clear hK5
   refine hQ.ret (rvs2 (rv_c (id := 4) (n := 6) rfl rfl ag26 rfl) (rv_t rfl)) (fun _ _ h => h) fun w hb hs hB hkd => ?_
   exact ⟨outA_no (fillR_e hc17), hb⟩
  ·refine wp_skip' (to_k0 (fun _ _ h => h) (hK2 _ _ _ _ _ ?_))
   clear hK2
   refine wp_seq' fun K6 hK6 => ?_
   refine wp_seq' fun K7 hK7 => ?_
   refine wp_reg ?_
   refine ol_r (r_move rfl) rfl ?_
   refine ol_call rfl rfl cb45 rfl (fun w1 hb1 hs1 hB1 => Calls.mono (ref3_outside _ _ _ _) ?_)
   rintro e w2 ⟨rfl, hb2⟩
   refine After.below rfl hb1 hs1 hB1 hb2 ?_
   clear hb2 hB1 hs1 hb1 w2 w1
   refine ol_nil (to_k0 (fun _ _ h => h) (hK7 _ _ _ _ _ ?_))
   clear hK7
   first | refine wp_condD rfl (fun hc21 => ?_) (fun hc21 => ?_) | refine wp_condN rfl (fun hc21 => ?_) (fun hc21 => ?_) | refine wp_condNB rfl (fun hc21 => ?_) (fun hc21 => ?_) | refine wp_cond' rfl (fun hc21 => ?_) (fun hc21 => ?_)
   ·refine wp_seq' fun K8 hK8 => ?_
    refine wp_reg ?_
    refine ol_r (r_build rfl (fun _ => bd26 _)) rfl ?_
    refine ol_store (id := 4) rfl rfl rfl rfl sz26 rfl rfl (by first | decide | exact Nat.zero_lt_succ _ | simp) ?_
    refine ol_r (r_assign rfl) rfl ?_
    refine ol_nil (to_k0 (fun _ _ h => h) (hK8 _ _ _ _ _ ?_))
    clear hK8
    refine hQ.ret (rvs2 (rv_c (id := 4) (n := 6) rfl rfl ag26 rfl) (rv_t rfl)) (fun _ _ h => h) fun w hb hs hB hkd => ?_
    exact ⟨outA_no (fillR_9 hc17 (by have h := inB_not.1 (by simpa using hc21); omega)), hb⟩
   ·refine wp_skip' (to_k0 (fun _ _ h => h) (hK6 _ _ _ _ _ ?_))
    clear hK6
    refine wp_seq' fun K9 hK9 => ?_
    refine wp_reg ?_
    have h0 : chkA A.d = 0 := Decidable.not_not.1 hc17
    have hw : ¬(gap < 0 ∨ 1000000 < gap) := by have h := inB_iff.1 (by simpa using hc21); omega
    have hg := goodA h0
    have hok : SmpOk A.start A.ss := hg.smp
    have hl20 : A.ss.length ≤ 20000 := (show SmpOk A.start A.ss from hg.smp).len
    obtain ⟨g4, g5, g6⟩ := hg.head.2.2.2
    dsimp only [ActV.d] at g4 g5 g6
    refine ol_r (r_lda (id := 2) (n := 6) rfl rfl rfl ag26) rfl ?_
    refine ol_call rfl rfl cb49 rfl (fun w1 hb1 hs1 hB1 => ?_)
    refine Calls.mono (ref3_copied A _ (hA.at hb1 hB1) (by omega) (by omega) (by omega)) ?_
    rintro e w2 ⟨sa, sc, la, lc, ta, tc, rfl, hb2, hs2⟩
    refine After.more rfl hb1 hs1 hB1 hb2 hs2 ?_
    clear hs2 hb2 hB1 hs1 hb1 w2 w1
    refine ol_alloc 7 z26 rfl fun b7 => ?_
    refine ol_store (id := 7) rfl rfl rfl rfl sz26 rfl rfl (by first | decide | exact Nat.zero_lt_succ _ | simp) ?_
    refine ol_nil (to_k0 (fun _ _ h => h) (hK9 _ _ _ _ _ ?_))
    clear hK9
    refine wp_seq' fun K10 hK10 => ?_
    refine wp_seq' fun K11 hK11 => ?_
    refine wp_reg ?_
    refine ol_r (r_assign rfl) rfl ?_
    refine ol_nil (to_k0 (fun _ _ h => h) (hK11 _ _ _ _ _ ?_))
    clear hK11
    refine wp_block' ?_
    apply wp_loopM (σ := Nat) (fun s => s ≤ 3) (fun s => [(8, .int .i64 s)]) [(1, _), (2, _), (4, _), (5, _), (7, _)] (fun s => [(1001, .row sa A.sn sc (encSmp.enc (fillW gap A.ss s)) 28 7)]) [(2, _), (4, _), (7, _), (1002, _), (1003, _)] (fun s => 3 - s) (0)
    ·try dsimp only
     exact Nat.zero_le _
    ·exact (sub_cons rfl sub_nil)
    ·exact (sub_cons rfl (sub_cons rfl (sub_cons rfl (sub_cons rfl (sub_cons rfl sub_nil)))))
    ·exact (subH_row rfl (by first | (dsimp only; rfl; done) | (rfl; done) | (dsimp only; done)) subH_nil)
    ·exact (subH_same rfl (subH_same rfl (subH_same rfl (subH_same rfl (subH_same rfl subH_nil)))))
    ·rintro k hk
     have hCl : (fillW gap A.ss k).length = A.sn := by rw [fillW_len]; exact hsn
     intro K12 hK12
     refine wp_seq' fun K13 hK13 => ?_
     refine wp_seq' fun K14 hK14 => ?_
     refine wp_reg ?_
     refine ol_r (r_move rfl) rfl ?_
     refine ol_r (r_lss rfl rfl) rfl ?_
     refine ol_nil (to_k0 (fun _ _ h => h) (hK14 _ _ _ _ _ ?_))
     clear hK14
     first | refine wp_condD rfl (fun hc26 => ?_) (fun hc26 => ?_) | refine wp_condN rfl (fun hc26 => ?_) (fun hc26 => ?_) | refine wp_condNB rfl (fun hc26 => ?_) (fun hc26 => ?_) | refine wp_cond' rfl (fun hc26 => ?_) (fun hc26 => ?_)
     ·refine wp_skip' (to_k0 (fun _ _ h => h) (hK13 _ _ _ _ _ ?_))
      clear hK13
      refine wp_seq' fun K15 hK15 => ?_
      refine wp_block' ?_
      refine wp_seq' fun K16 hK16 => ?_
      refine wp_reg ?_
      refine ol_r (r_assign rfl) rfl ?_
      refine ol_nil (to_k0 (fun _ _ h => h) (hK16 _ _ _ _ _ ?_))
      clear hK16
      refine wp_seq' fun K17 hK17 => ?_
      refine wp_reg ?_
      refine ol_r (r_fa (o' := 3) rfl fl26_3 rfl) rfl ?_
      refine ol_r (r_ld (id := 2) rfl rfl rfl sc22) rfl ?_
      have hFk : FOk k (fillW gap A.ss k) := fillW_ok hok (by omega)
      have hSk : SamF k A.ss (fillW gap A.ss k) := (fillW_sam gap A.ss (by omega) k (Nat.le_refl _)).symm
      refine ol_r (r_len rfl sl22) rfl ?_
      refine ol_r (r_move rfl) rfl ?_
      refine ol_nil (to_k0 (fun _ _ h => h) (hK17 _ _ _ _ _ ?_))
      clear hK17
      refine wp_block' ?_
      apply wp_loopM (σ := Nat) (fun s => s ≤ A.sn) (fun s => [(32, .int .i64 s), (9, .int .i64 (fillN k gap (fillW gap A.ss k) s).2)]) [(1, _), (2, _), (4, _), (5, _), (7, _), (8, _), (30, _), (31, _)] (fun s => [(1001, .row sa A.sn sc (encSmp.enc (fillN k gap (fillW gap A.ss k) s).1) 28 7)]) [(2, _), (4, _), (7, _), (1002, _), (1003, _)] (fun s => A.sn - s) (0)
      ·try dsimp only
       exact Nat.zero_le _
      ·exact (sub_cons rfl (sub_cons rfl sub_nil))
      ·exact (sub_cons rfl (sub_cons rfl (sub_cons rfl (sub_cons rfl (sub_cons rfl (sub_cons rfl (sub_cons rfl (sub_cons rfl sub_nil))))))))
      ·exact (subH_row rfl (by first | (dsimp only; rfl; done) | (rfl; done) | (dsimp only; done)) subH_nil)
      ·exact (subH_same rfl (subH_same rfl (subH_same rfl (subH_same rfl (subH_same rfl subH_nil)))))
      ·rintro i hi
       have hRl : (fillN k gap (fillW gap A.ss k) i).1.length = A.sn := by rw [fillN_len]; exact hCl
       intro K18 hK18
       refine wp_seq' fun K19 hK19 => ?_
       refine wp_reg ?_
       refine ol_r (r_lss rfl rfl) rfl ?_
       refine ol_nil (to_k0 (fun _ _ h => h) (hK19 _ _ _ _ _ ?_))
       clear hK19
       refine wp_seq' fun K20 hK20 => ?_
       first | refine wp_condD rfl (fun hc33 => ?_) (fun hc33 => ?_) | refine wp_condN rfl (fun hc33 => ?_) (fun hc33 => ?_) | refine wp_condNB rfl (fun hc33 => ?_) (fun hc33 => ?_) | refine wp_cond' rfl (fun hc33 => ?_) (fun hc33 => ?_)
       ·refine wp_skip' (to_k0 (fun _ _ h => h) (hK20 _ _ _ _ _ ?_))
        clear hK20
        refine wp_seq' fun K21 hK21 => ?_
        refine wp_block' ?_
        refine wp_seq' fun K22 hK22 => ?_
        refine wp_reg ?_
        refine ol_r (r_move rfl) rfl ?_
        refine ol_ixr hA.s rfl rfl sl22 (by omega) rfl fun x35 hx35 => ?_
        try simp only [Int.toNat_natCast] at hx35
        refine ol_r (r_ldw rfl (fun w1 hb1 hs1 hB1 => Rd.loads hA.s ty28 hx35 hb1)) rfl ?_
        refine ol_alloc 11 z28 rfl fun b11 => ?_
        refine ol_r (r_assign rfl) rfl ?_
        refine ol_store (id := 11) rfl rfl rfl rfl sz28 rfl rfl (by first | decide | exact Nat.zero_lt_succ _ | simp) ?_
        refine ol_nil (to_k0 (fun _ _ h => h) (hK22 _ _ _ _ _ ?_))
        clear hK22
        refine wp_seq' fun K23 hK23 => ?_
        refine wp_seq' fun K24 hK24 => ?_
        refine wp_reg ?_
        refine ol_r (r_lda (id := 11) (n := 7) rfl rfl rfl ag28) rfl ?_
        refine ol_r (r_move rfl) rfl ?_
        refine ol_call rfl rfl cb86 rfl (fun w1 hb1 hs1 hB1 => Calls.mono (ref3_field x35 k (by omega) _) ?_)
        rintro e w2 ⟨rfl, hb2⟩
        refine After.below rfl hb1 hs1 hB1 hb2 ?_
        clear hb2 hB1 hs1 hb1 w2 w1
        have hI := fillI k gap (fillW gap A.ss k) i
        obtain ⟨y, hy, ya, yn⟩ := hSk.get hx35
        have b35 := hFk.bd _ _ hy
        have hL : (fillN k gap (fillW gap A.ss k) i).2 < (i : Int) := by rcases hI.last with h | ⟨k, p, h1, h2, _⟩ <;> omega
        have ea : x35.num k < 0 → fillN k gap (fillW gap A.ss k) (i + 1) = (fillN k gap (fillW gap A.ss k) i) := fun h => fillN_a hy (by omega)
        have eb : ¬x35.num k < 0 → ¬0 ≤ (fillN k gap (fillW gap A.ss k) i).2 → fillN k gap (fillW gap A.ss k) (i + 1) = ((fillN k gap (fillW gap A.ss k) i).1, (i : Int)) := fun h h2 => fillN_b hy (by omega) h2
        refine ol_r (r_lss rfl rfl) rfl ?_
        refine ol_nil (to_k0 (fun _ _ h => h) (hK24 _ _ _ _ _ ?_))
        clear hK24
        first | refine wp_condD rfl (fun hc40 => ?_) (fun hc40 => ?_) | refine wp_condN rfl (fun hc40 => ?_) (fun hc40 => ?_) | refine wp_condNB rfl (fun hc40 => ?_) (fun hc40 => ?_) | refine wp_cond' rfl (fun hc40 => ?_) (fun hc40 => ?_)
        ·refine wp_exit' (to_k0 (fun _ _ h => h) (hK21 _ _ _ _ _ ?_))
         clear hK21
         refine wp_reg ?_
         refine ol_r (r_add rfl rfl (by omega)) rfl ?_
         refine ol_r (r_move rfl) rfl ?_
         refine ol_nil (to_k0 (fun _ _ h => h) (hK18 ((i + 1)) _ _ ?_ ?_ (sub_cons (by first | rfl | ((rw [ea hc40]; try rfl))) (sub_cons (by first | rfl | ((rw [ea hc40]; try rfl))) sub_nil)) (sub_cons rfl (sub_cons rfl (sub_cons rfl (sub_cons rfl (sub_cons rfl (sub_cons rfl (sub_cons rfl (sub_cons rfl sub_nil)))))))) (by exact (subH_row rfl (by first | (dsimp only; rw [ea hc40]; done) | (rw [ea hc40]; done) | (dsimp only; done)) subH_nil)) (subH_same rfl (subH_same rfl (subH_same rfl (subH_same rfl (subH_same rfl subH_nil)))))))
         ·try dsimp only
          omega
         ·try dsimp only
          omega
        ·refine wp_skip' (to_k0 (fun _ _ h => h) (hK23 _ _ _ _ _ ?_))
         clear hK23
         refine wp_seq' fun K25 hK25 => ?_
         refine wp_seq' fun K26 hK26 => ?_
         refine wp_regq (by kernel_rfl) (by kernel_rfl) ?_
         refine ql_r (r_move rfl) rfl ?_
         refine ql_r (r_geq rfl rfl) rfl ?_
         refine ql_r (r_move rfl) rfl ?_
         refine ql_split (d := 43) rfl (fun hs43 => ?_) (fun hs43 => ?_)
         ·have phs43 := hs43; try simp only [decide_eq_true_eq, decide_eq_false_iff_not, Bool.not_eq_true', Bool.not_eq_false', Bool.not_true, Bool.not_false] at phs43
          refine ql_g rfl rfl hs43 ?_
          refine ql_r (r_fa (o' := 0) rfl fl28_0 rfl) rfl ?_
          refine ql_g rfl rfl hs43 ?_
          refine ql_r (r_ld (id := 11) rfl rfl rfl sc3) rfl ?_
          refine ql_g rfl rfl hs43 ?_
          refine ql_r (r_fa (o' := 3) rfl fl26_3 rfl) rfl ?_
          refine ql_g rfl rfl hs43 ?_
          refine ql_r (r_ld (id := 2) rfl rfl rfl sc22) rfl ?_
          refine ql_g rfl rfl hs43 ?_
          refine ql_r (r_move rfl) rfl ?_
          refine ql_g rfl rfl hs43 ?_
          refine ql_ixr hA.s rfl rfl sl22 (by omega) rfl fun x49 hx49 => ?_
          try simp only [Int.toNat_natCast] at hx49
          refine ql_g rfl rfl hs43 ?_
          refine ql_r (r_faw rfl (ix_some hA.s (by omega)) fl28_0) rfl ?_
          refine ql_g rfl rfl hs43 ?_
          refine ql_r (r_ldw rfl (fun w1 hb1 hs1 hB1 => Rd.loadsF (o := 0) hA.s sc3 hx49 hb1 rfl)) rfl ?_
          refine ql_g rfl rfl hs43 ?_
          obtain ⟨z, hz, za, zn⟩ := hSk.get hx49
          have b49 := hFk.bd _ _ hz
          have ec : ¬x35.at_ - x49.at_ ≤ gap → fillN k gap (fillW gap A.ss k) (i + 1) = ((fillN k gap (fillW gap A.ss k) i).1, (i : Int)) := fun h => fillN_c hy (by omega) phs43 hz (by omega)
          refine ql_r (r_sub rfl rfl (by omega)) rfl ?_
          refine ql_g rfl rfl hs43 ?_
          refine ql_r (r_move rfl) rfl ?_
          refine ql_g rfl rfl hs43 ?_
          refine ql_r (r_leq rfl rfl) rfl ?_
          refine ql_r (r_pickT rfl hs43 rfl) rfl ?_
          refine ql_nil (to_k0 (fun _ _ h => h) (hK26 _ _ _ _ _ ?_))
          clear hK26
          first | refine wp_condD rfl (fun hc55 => ?_) (fun hc55 => ?_) | refine wp_condN rfl (fun hc55 => ?_) (fun hc55 => ?_) | refine wp_condNB rfl (fun hc55 => ?_) (fun hc55 => ?_) | refine wp_cond' rfl (fun hc55 => ?_) (fun hc55 => ?_)
          ·refine wp_seq' fun K27 hK27 => ?_
           refine wp_reg ?_
           refine ol_r (r_fa (o' := 3) rfl fl26_3 rfl) rfl ?_
           refine ol_r (r_ld (id := 2) rfl rfl rfl sc22) rfl ?_
           refine ol_r (r_move rfl) rfl ?_
           refine ol_ixr hA.s rfl rfl sl22 (by omega) rfl fun x59 hx59 => ?_
           try simp only [Int.toNat_natCast] at hx59
           refine ol_r (r_ldw rfl (fun w1 hb1 hs1 hB1 => Rd.loads hA.s ty28 hx59 hb1)) rfl ?_
           refine ol_alloc 12 z28 rfl fun b12 => ?_
           refine ol_store (id := 12) rfl rfl rfl rfl sz28 rfl rfl (by first | decide | exact Nat.zero_lt_succ _ | simp) ?_
           refine ol_nil (to_k0 (fun _ _ h => h) (hK27 _ _ _ _ _ ?_))
           clear hK27
           refine wp_seq' fun K28 hK28 => ?_
           refine wp_reg ?_
           refine ol_r (r_move rfl) rfl ?_
           have e59 : x59 = x49 := Option.some.inj (hx59.symm.trans hx49)
           have ed : fillN k gap (fillW gap A.ss k) (i + 1) = (fillIn k x59 x35 (fillN k gap (fillW gap A.ss k) i).1 ((fillN k gap (fillW gap A.ss k) i).2.toNat + 1) (i - ((fillN k gap (fillW gap A.ss k) i).2.toNat + 1)), (i : Int)) := by
             rw [e59, fillIn_congr (show x49.num k = z.num k by omega) (show x35.num k = y.num k by omega) za ya]
             exact fillN_d hy (by omega) phs43 hz (by omega)
           have f59 := congrArg SmpR.at_ e59
           have g59 := congrArg (SmpR.num k) e59
           refine ol_r (r_add rfl rfl (by omega)) rfl ?_
           refine ol_r (r_assign rfl) rfl ?_
           refine ol_nil (to_k0 (fun _ _ h => h) (hK28 _ _ _ _ _ ?_))
           clear hK28
           refine wp_block' ?_
           apply wp_loopM (σ := Nat) (fun s => (fillN k gap (fillW gap A.ss k) i).2.toNat + 1 + s ≤ i) (fun s => [(13, .int .i64 ((fillN k gap (fillW gap A.ss k) i).2 + 1 + (s : Int)))]) [(1, _), (2, _), (4, _), (5, _), (7, _), (8, _), (9, _), (10, _), (11, _), (12, _), (30, _), (31, _), (32, _)] (fun s => [(1001, .row sa A.sn sc (encSmp.enc (fillIn k x59 x35 (fillN k gap (fillW gap A.ss k) i).1 ((fillN k gap (fillW gap A.ss k) i).2.toNat + 1) s)) 28 7)]) [(2, _), (4, _), (7, _), (11, _), (12, _), (1002, _), (1003, _)] (fun s => i - s) (0)
           ·try dsimp only
            omega
           ·exact (sub_cons (by first | rfl | ((refine congrArg (fun z => some (Value.int .i64 z)) ?_; omega))) sub_nil)
           ·exact (sub_cons rfl (sub_cons rfl (sub_cons rfl (sub_cons rfl (sub_cons rfl (sub_cons rfl (sub_cons rfl (sub_cons rfl (sub_cons rfl (sub_cons rfl (sub_cons rfl (sub_cons rfl (sub_cons rfl sub_nil)))))))))))))
           ·exact (subH_row rfl (by first | (dsimp only; rfl; done) | (rfl; done) | (dsimp only; done)) subH_nil)
           ·exact (subH_same rfl (subH_same rfl (subH_same rfl (subH_same rfl (subH_same rfl (subH_same rfl (subH_same rfl subH_nil)))))))
           ·rintro d hd
            have hDl : (fillIn k x59 x35 (fillN k gap (fillW gap A.ss k) i).1 ((fillN k gap (fillW gap A.ss k) i).2.toNat + 1) d).length = A.sn := by rw [fillIn_len]; exact hRl
            have hDb : ButF k (fillIn k x59 x35 (fillN k gap (fillW gap A.ss k) i).1 ((fillN k gap (fillW gap A.ss k) i).2.toNat + 1) d) (fillW gap A.ss k) := fillIn_but hI.but d
            intro K29 hK29
            refine wp_seq' fun K30 hK30 => ?_
            refine wp_seq' fun K31 hK31 => ?_
            refine wp_reg ?_
            refine ol_r (r_move rfl) rfl ?_
            refine ol_r (r_move rfl) rfl ?_
            refine ol_r (r_lss rfl rfl) rfl ?_
            refine ol_nil (to_k0 (fun _ _ h => h) (hK31 _ _ _ _ _ ?_))
            clear hK31
            first | refine wp_condD rfl (fun hc65 => ?_) (fun hc65 => ?_) | refine wp_condN rfl (fun hc65 => ?_) (fun hc65 => ?_) | refine wp_condNB rfl (fun hc65 => ?_) (fun hc65 => ?_) | refine wp_cond' rfl (fun hc65 => ?_) (fun hc65 => ?_)
            ·refine wp_skip' (to_k0 (fun _ _ h => h) (hK30 _ _ _ _ _ ?_))
             clear hK30
             refine wp_seq' fun K32 hK32 => ?_
             refine wp_block' ?_
             refine wp_regqt 26 (by kernel_rfl) (by kernel_rfl) ?_
             simp only [List.take_succ_cons, List.take_zero, List.drop_succ_cons, List.drop_zero]
             refine ql_r (r_fa (o' := 3) rfl fl26_3 rfl) rfl ?_
             refine ql_r (r_ld (id := 7) rfl rfl rfl sc22) rfl ?_
             refine ql_r (r_move rfl) rfl ?_
             refine ql_ixo (id := 1001) encSmp _ rfl rfl rfl rfl sl22 (by omega) (by omega) rfl fun x71 hx71 => ?_
             try simp only [Int.toNat_natCast] at hx71
             try simp only [Int.toNat_natCast] at hx71
             refine ql_r (r_move rfl) rfl ?_
             refine ql_r (r_lda (id := 12) (n := 7) rfl rfl rfl ag28) rfl ?_
             refine ql_r (r_move rfl) rfl ?_
             refine ql_call rfl rfl cb86 rfl (fun w1 hb1 hs1 hB1 => ref3_field x59 k (by omega) _) ?_
             refine ql_r (r_lda (id := 11) (n := 7) rfl rfl rfl ag28) rfl ?_
             refine ql_r (r_move rfl) rfl ?_
             refine ql_call rfl rfl cb86 rfl (fun w1 hb1 hs1 hB1 => ref3_field x35 k (by omega) _) ?_
             refine ql_r (r_fa (o' := 3) rfl fl26_3 rfl) rfl ?_
             refine ql_r (r_ld (id := 7) rfl rfl rfl sc22) rfl ?_
             refine ql_r (r_move rfl) rfl ?_
             refine ql_ixo (id := 1001) encSmp _ rfl rfl rfl rfl sl22 (by omega) (by omega) rfl fun x82 hx82 => ?_
             try simp only [Int.toNat_natCast] at hx82
             try simp only [Int.toNat_natCast] at hx82
             refine ql_r (r_faO (id := 1001) rfl rfl rfl hx82 fl28_0) rfl ?_
             refine ql_r (r_ldw rfl (fun w1 hb1 hs1 hB1 => ld_ownF (id := 1001) (o := 0) hs1 rfl rfl sc3 hx82 rfl)) rfl ?_
             refine ql_r (r_fa (o' := 0) rfl fl28_0 rfl) rfl ?_
             refine ql_r (r_ld (id := 12) rfl rfl rfl sc3) rfl ?_
             have b82 := fill_bd hDb hFk hx82
             refine ql_r (r_sub rfl rfl (by omega)) rfl ?_
             refine ql_r (r_fa (o' := 0) rfl fl28_0 rfl) rfl ?_
             refine ql_r (r_ld (id := 11) rfl rfl rfl sc3) rfl ?_
             refine ql_r (r_fa (o' := 0) rfl fl28_0 rfl) rfl ?_
             refine ql_r (r_ld (id := 12) rfl rfl rfl sc3) rfl ?_
             refine ql_r (r_sub rfl rfl (by omega)) rfl ?_
             have ek : ((fillN k gap (fillW gap A.ss k) i).2 + 1 + (d : Int)).toNat = (fillN k gap (fillW gap A.ss k) i).2.toNat + 1 + d := by omega
             have ei : ((i : Nat) : Int).toNat = i := rfl
             have e82 : x82 = x71 := Option.some.inj (hx82.symm.trans hx71)
             have hn1 := (List.getElem?_eq_some_iff.1 hy).1
             have hn2 := (List.getElem?_eq_some_iff.1 hz).1
             obtain ⟨p, hp⟩ : ∃ p, (fillIn k x59 x35 (fillN k gap (fillW gap A.ss k) i).1 ((fillN k gap (fillW gap A.ss k) i).2.toNat + 1) d)[(fillN k gap (fillW gap A.ss k) i).2.toNat]? = some p := ⟨_, List.getElem?_eq_getElem (by omega)⟩
             obtain ⟨q, hq⟩ : ∃ q, (fillIn k x59 x35 (fillN k gap (fillW gap A.ss k) i).1 ((fillN k gap (fillW gap A.ss k) i).2.toNat + 1) d)[i]? = some q := ⟨_, List.getElem?_eq_getElem (by omega)⟩
             have pa := ButF.at (hDb.2 _ _ _ hp hz)
             have qa := ButF.at (hDb.2 _ _ _ hq hy)
             have u1 := fill_up hDb hFk (show (fillN k gap (fillW gap A.ss k) i).2.toNat < ((fillN k gap (fillW gap A.ss k) i).2 + 1 + (d : Int)).toNat by omega) hp hx71
             have u2 := fill_up hDb hFk (show ((fillN k gap (fillW gap A.ss k) i).2 + 1 + (d : Int)).toNat < i by omega) hx71 hq
             have u7 := congrArg SmpR.at_ e82
             refine ql_call rfl rfl cb88 rfl (fun w1 hb1 hs1 hB1 => ref3_between _ _ _ _ _ (by omega) (by omega) (by omega) (by omega) (by omega)) ?_
             refine ql_tail ?_
             refine ol_call rfl rfl cb87 rfl (fun w1 hb1 hs1 hB1 => ?_)
             refine Calls.mono (ref3_setField _ sa A.sn sc _ _ k x71 _ _ _ _ _ _ _ _ _ hDl hB1 (by omega) hx71 (hs1.kle [(1001, 900), (2, 901), (4, 902), (7, 903), (11, 904), (12, 905), (1002, 906), (1003, 907)] (kle_cons rfl (Ent.le_refl _) (kle_cons rfl (Ent.le_refl _) (kle_cons rfl (Ent.le_refl _) (kle_cons rfl (Ent.le_refl _) (kle_cons rfl (Ent.le_refl _) (kle_cons rfl (Ent.le_refl _) (kle_cons rfl (Ent.le_refl _) (kle_cons rfl (Ent.le_refl _) kle_nil)))))))) (by decide))) ?_
             rintro e w2 ⟨rfl, hb2, hs2, hB2, hk2⟩
             refine After.sat rfl hb1 hb2 (hs2.kle [(900, 1001), (901, 2), (902, 4), (903, 7), (904, 11), (905, 12), (906, 1002), (907, 1003)] (kle_cons rfl (Ent.le_refl _) (kle_cons rfl (Ent.le_refl _) (kle_cons rfl (Ent.le_refl _) (kle_cons rfl (Ent.le_refl _) (kle_cons rfl (Ent.le_refl _) (kle_cons rfl (Ent.le_refl _) (kle_cons rfl (Ent.le_refl _) (kle_cons rfl (Ent.le_refl _) kle_nil)))))))) (by decide)) hB2 (hk2.imp fun _ h => h.elim) ?_
             clear hk2 hs2 hb2 hB2 hB1 hs1 hb1 w2 w1
             refine ol_nil (to_k0 (fun _ _ h => h) (hK32 _ _ _ _ _ ?_))
             clear hK32
             refine wp_reg ?_
             refine ol_r (r_move rfl) rfl ?_
             refine ol_r (r_add rfl rfl (by omega)) rfl ?_
             refine ol_r (r_assign rfl) rfl ?_
             refine ol_nil (to_k0 (fun _ _ h => h) (hK29 ((d + 1)) _ _ ?_ ?_ (sub_cons (by first | rfl | ((refine congrArg (fun z => some (Value.int .i64 z)) ?_; omega))) sub_nil) (sub_cons rfl (sub_cons rfl (sub_cons rfl (sub_cons rfl (sub_cons rfl (sub_cons rfl (sub_cons rfl (sub_cons rfl (sub_cons rfl (sub_cons rfl (sub_cons rfl (sub_cons rfl (sub_cons rfl sub_nil))))))))))))) (by exact (subH_row rfl (by first | (dsimp only; rw [fill_step (n := x82.at_ - x59.at_) (n2 := x35.at_ - x59.at_) (x := x71) (by rw [ek] at hx71; exact hx71) (by rw [e82]) rfl, ← ek]; first | done | rfl; done) | (rw [fill_step (n := x82.at_ - x59.at_) (n2 := x35.at_ - x59.at_) (x := x71) (by rw [ek] at hx71; exact hx71) (by rw [e82]) rfl, ← ek]; first | done | rfl; done) | (dsimp only; done)) subH_nil)) (subH_same rfl (subH_same rfl (subH_same rfl (subH_same rfl (subH_same rfl (subH_same rfl (subH_same rfl subH_nil)))))))))
             ·try dsimp only
              omega
             ·try dsimp only
              omega
            ·refine wp_exit' (to_k0 (fun _ _ h => h) (hK25 _ _ _ _ _ ?_))
             clear hK25
             refine wp_reg ?_
             refine ol_r (r_move rfl) rfl ?_
             refine ol_r (r_assign rfl) rfl ?_
             refine ol_nil (to_k0 (fun _ _ h => h) (hK21 _ _ _ _ _ ?_))
             clear hK21
             refine wp_reg ?_
             refine ol_r (r_add rfl rfl (by omega)) rfl ?_
             refine ol_r (r_move rfl) rfl ?_
             refine ol_nil (to_k0 (fun _ _ h => h) (hK18 ((i + 1)) _ _ ?_ ?_ (sub_cons (by first | rfl | ((rw [ed]; try rfl))) (sub_cons (by first | rfl | ((rw [ed]; try rfl))) sub_nil)) (sub_cons rfl (sub_cons rfl (sub_cons rfl (sub_cons rfl (sub_cons rfl (sub_cons rfl (sub_cons rfl (sub_cons rfl sub_nil)))))))) (by exact (subH_row rfl (by first | (dsimp only; rw [ed, show i - ((fillN k gap (fillW gap A.ss k) i).2.toNat + 1) = d by omega]; done) | (rw [ed, show i - ((fillN k gap (fillW gap A.ss k) i).2.toNat + 1) = d by omega]; done) | (dsimp only; done)) subH_nil)) (subH_same rfl (subH_same rfl (subH_same rfl (subH_same rfl (subH_same rfl subH_nil)))))))
             ·try dsimp only
              omega
             ·try dsimp only
              omega
          ·refine wp_skip' (to_k0 (fun _ _ h => h) (hK25 _ _ _ _ _ ?_))
           clear hK25
           refine wp_reg ?_
           refine ol_r (r_move rfl) rfl ?_
           refine ol_r (r_assign rfl) rfl ?_
           refine ol_nil (to_k0 (fun _ _ h => h) (hK21 _ _ _ _ _ ?_))
           clear hK21
           refine wp_reg ?_
           refine ol_r (r_add rfl rfl (by omega)) rfl ?_
           refine ol_r (r_move rfl) rfl ?_
           refine ol_nil (to_k0 (fun _ _ h => h) (hK18 ((i + 1)) _ _ ?_ ?_ (sub_cons (by first | rfl | ((rw [ec hc55]; try rfl))) (sub_cons (by first | rfl | ((rw [ec hc55]; try rfl))) sub_nil)) (sub_cons rfl (sub_cons rfl (sub_cons rfl (sub_cons rfl (sub_cons rfl (sub_cons rfl (sub_cons rfl (sub_cons rfl sub_nil)))))))) (by exact (subH_row rfl (by first | (dsimp only; rw [ec hc55]; done) | (rw [ec hc55]; done) | (dsimp only; done)) subH_nil)) (subH_same rfl (subH_same rfl (subH_same rfl (subH_same rfl (subH_same rfl subH_nil)))))))
           ·try dsimp only
            omega
           ·try dsimp only
            omega
         ·have phs43 := hs43; try simp only [decide_eq_true_eq, decide_eq_false_iff_not, Bool.not_eq_true', Bool.not_eq_false', Bool.not_true, Bool.not_false] at phs43
          refine ql_s rfl rfl hs43 rfl ?_
          refine ql_s rfl rfl hs43 rfl ?_
          refine ql_s rfl rfl hs43 rfl ?_
          refine ql_s rfl rfl hs43 rfl ?_
          refine ql_s rfl rfl hs43 rfl ?_
          refine ql_s rfl rfl hs43 rfl ?_
          refine ql_s rfl rfl hs43 rfl ?_
          refine ql_s rfl rfl hs43 rfl ?_
          refine ql_s rfl rfl hs43 rfl ?_
          refine ql_s rfl rfl hs43 rfl ?_
          refine ql_s rfl rfl hs43 rfl ?_
          refine ql_r (r_pickF rfl hs43 rfl) rfl ?_
          refine ql_nil (to_k0 (fun _ _ h => h) (hK26 _ _ _ _ _ ?_))
          clear hK26
          refine wp_condF rfl ?_
          refine wp_skip' (to_k0 (fun _ _ h => h) (hK25 _ _ _ _ _ ?_))
          clear hK25
          refine wp_reg ?_
          refine ol_r (r_move rfl) rfl ?_
          refine ol_r (r_assign rfl) rfl ?_
          refine ol_nil (to_k0 (fun _ _ h => h) (hK21 _ _ _ _ _ ?_))
          clear hK21
          refine wp_reg ?_
          refine ol_r (r_add rfl rfl (by omega)) rfl ?_
          refine ol_r (r_move rfl) rfl ?_
          refine ol_nil (to_k0 (fun _ _ h => h) (hK18 ((i + 1)) _ _ ?_ ?_ (sub_cons (by first | rfl | ((rw [eb hc40 phs43]; try rfl))) (sub_cons (by first | rfl | ((rw [eb hc40 phs43]; try rfl))) sub_nil)) (sub_cons rfl (sub_cons rfl (sub_cons rfl (sub_cons rfl (sub_cons rfl (sub_cons rfl (sub_cons rfl (sub_cons rfl sub_nil)))))))) (by exact (subH_row rfl (by first | (dsimp only; rw [eb hc40 phs43]; done) | (rw [eb hc40 phs43]; done) | (dsimp only; done)) subH_nil)) (subH_same rfl (subH_same rfl (subH_same rfl (subH_same rfl (subH_same rfl subH_nil)))))))
          ·try dsimp only
           omega
          ·try dsimp only
           omega
       ·refine wp_exit' (to_k0 (fun _ _ h => h) (hK15 _ _ _ _ _ ?_))
        clear hK15
        refine wp_reg ?_
        refine ol_r (r_move rfl) rfl ?_
        refine ol_r (r_add rfl rfl (by omega)) rfl ?_
        refine ol_r (r_assign rfl) rfl ?_
        refine ol_nil (to_k0 (fun _ _ h => h) (hK12 ((k + 1)) _ _ ?_ ?_ (sub_cons rfl sub_nil) (sub_cons rfl (sub_cons rfl (sub_cons rfl (sub_cons rfl (sub_cons rfl sub_nil))))) (by exact (subH_row rfl (by first | (dsimp only; rw [show fillW gap A.ss (k + 1) = (fillN k gap (fillW gap A.ss k) (fillW gap A.ss k).length).1 from rfl, show (fillW gap A.ss k).length = i by omega]; done) | (rw [show fillW gap A.ss (k + 1) = (fillN k gap (fillW gap A.ss k) (fillW gap A.ss k).length).1 from rfl, show (fillW gap A.ss k).length = i by omega]; done) | (dsimp only; done)) subH_nil)) (subH_same rfl (subH_same rfl (subH_same rfl (subH_same rfl (subH_same rfl subH_nil)))))))
        ·try dsimp only
         omega
        ·try dsimp only
         omega
     ·refine wp_exit' (to_k0 (fun _ _ h => h) (hK10 _ _ _ _ _ ?_))
      clear hK10
      refine wp_seq' fun K33 hK33 => ?_
      refine wp_reg ?_
      refine ol_r (r_lda (id := 7) (n := 6) rfl rfl rfl ag26) rfl ?_
      refine ol_store (id := 4) rfl rfl rfl rfl sz26 rfl rfl (by first | decide | exact Nat.zero_lt_succ _ | simp) ?_
      refine ol_r (r_assign rfl) rfl ?_
      refine ol_nil (to_k0 (fun _ _ h => h) (hK33 _ _ _ _ _ ?_))
      clear hK33
      refine hQ.ret (rvs2 (rv_c (id := 4) (n := 6) rfl rfl ag26 rfl) (rv_t rfl)) (fun _ _ h => h) fun w hb hs hB hkd => ?_
      obtain rfl : k = 3 := by omega
      refine ⟨?_, hb⟩
      rw [fillR_0 hc17 hw]
      exact ⟨sa, A.sn, sc, la, A.ln, lc, ta, A.tn, tc, rfl, hs.three 1001 1002 1003 1001 1002 1003 (by decide) (by decide) (by decide) rfl rfl rfl (Ent.le_refl _) (Ent.le_refl _) (Ent.le_refl _)⟩
end Go.Proofs.Ytogcclagmobkiaa
