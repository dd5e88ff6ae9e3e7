/-
  Climb: program and reference.
-/
import Derived.Test.YtfbmkepogcimlaaTsA
import Derived.Test.YtfbmkepogcimlaaTsB
import Derived.Test.YtfbmkepogcimlaaTsC
import Derived.Test.YtfbmkepogcimlaaTsD
import Derived.Test.YtfbmkepogcimlaaTsE
import Derived.Test.YtfbmkepogcimlaaTsF



namespace Go.Proofs.Ytfbmkepogcimlaa
open Go Go.RowKit Hx
set_option linter.unusedVariables false
set_option linter.unusedSimpArgs false
set_option maxRecDepth 8000
theorem track_plus (a b n : Int) (w : World) (h : -9223372036854775808 ≤ a + n ∧ a + n ≤ 9223372036854775807) :
    Calls Try.prog 49 #[.agg #[.int .i64 a, .int .i64 b], .int .i64 n] w fun e w' => e = .returned (.agg #[.int .i64 (a + n), .int .i64 b]) ∧ Below w.heap.size w w' := by
  refine enterQ (N := 12) (C := fun _ => True) (H := []) (B := w.heap.size) (args := [_, _]) Try.func49 rfl rfl rfl (Nat.le_refl _) (Sat.nil _ _) fun Q hQ => ?_
  refine wp_seq' fun K1 hK1 => ?_
  refine wp_reg ?_
  refine ol_box 2 rfl rfl rfl fun b2 => ?_
  refine ol_alloc 4 z112 rfl fun b4 => ?_
  refine ol_nil (to_k0 (fun _ _ h => h) (hK1 _ _ _ _ _ ?_))
  clear hK1
  refine wp_seq' fun K2 hK2 => ?_
  refine wp_reg ?_
  refine ol_r (r_fa (o' := 0) rfl fl112_0 rfl) rfl ?_
  refine ol_r (r_ld (id := 2) rfl rfl rfl sc3) rfl ?_
  refine ol_r (r_move rfl) rfl ?_
  refine ol_r (r_add rfl rfl (by omega)) rfl ?_
  refine ol_r (r_fa (o' := 1) rfl fl112_1 rfl) rfl ?_
  refine ol_r (r_ld (id := 2) rfl rfl rfl sc3) rfl ?_
  refine ol_r (r_build rfl (fun _ => bd112_0_1 _ _ _)) rfl ?_
  refine ol_store (id := 4) rfl rfl rfl rfl sz112 rfl rfl (by first | decide | exact Nat.zero_lt_succ _ | simp) ?_
  refine ol_nil (to_k0 (fun _ _ h => h) (hK2 _ _ _ _ _ ?_))
  clear hK2
  refine hQ.ret (rvs1 (rv_c (id := 4) (n := 2) rfl rfl ag112 rfl)) (fun _ _ h => h) fun w hb hs hB hkd => ?_
  exact ⟨rfl, hb⟩
theorem track_better (a b : Int × Int) (w : World) :
    Calls Try.prog 50 #[.agg #[.int .i64 a.1, .int .i64 a.2], .agg #[.int .i64 b.1, .int .i64 b.2]] w fun e w' => e = .returned (.bool (betB a b)) ∧ Below w.heap.size w w' := by
  refine enterQ (N := 24) (C := fun _ => True) (H := []) (B := w.heap.size) (args := [_, _]) Try.func50 rfl rfl rfl (Nat.le_refl _) (Sat.nil _ _) fun Q hQ => ?_
  refine wp_seq' fun K1 hK1 => ?_
  refine wp_reg ?_
  refine ol_box 2 rfl rfl rfl fun b2 => ?_
  refine ol_box 3 rfl rfl rfl fun b3 => ?_
  refine ol_r (r_assign rfl) rfl ?_
  refine ol_nil (to_k0 (fun _ _ h => h) (hK1 _ _ _ _ _ ?_))
  clear hK1
  refine wp_seq' fun K2 hK2 => ?_
  refine wp_reg ?_
  refine ol_r (r_fa (o' := 0) rfl fl112_0 rfl) rfl ?_
  refine ol_r (r_ld (id := 2) rfl rfl rfl sc3) rfl ?_
  refine ol_r (r_fa (o' := 0) rfl fl112_0 rfl) rfl ?_
  refine ol_r (r_ld (id := 3) rfl rfl rfl sc3) rfl ?_
  refine ol_r (r_gtr rfl rfl) rfl ?_
  refine ol_r (r_move rfl) rfl ?_
  refine ol_split (d := 10) rfl (fun hs10 => ?_) (fun hs10 => ?_)
  ·have phs10 := hs10; try simp only [decide_eq_true_eq, decide_eq_false_iff_not, Bool.not_eq_true', Bool.not_eq_false', Bool.not_true, Bool.not_false] at phs10
   refine ol_s rfl rfl hs10 rfl ?_
   refine ol_s rfl rfl hs10 rfl ?_
   refine ol_s rfl rfl hs10 rfl ?_
   refine ol_s rfl rfl hs10 rfl ?_
   refine ol_s rfl rfl hs10 rfl ?_
   refine ol_s rfl rfl hs10 rfl ?_
   refine ol_u rfl rfl rfl ?_
   refine ol_u rfl rfl rfl ?_
   refine ol_u rfl rfl rfl ?_
   refine ol_u rfl rfl rfl ?_
   refine ol_u rfl rfl rfl ?_
   refine ol_s rfl rfl hs10 rfl ?_
   refine ol_r (r_pickT rfl hs10 rfl) rfl ?_
   refine ol_r (r_assign rfl) rfl ?_
   refine ol_nil (to_k0 (fun _ _ h => h) (hK2 _ _ _ _ _ ?_))
   clear hK2
   refine hQ.ret (rvs1 (rv_t rfl)) (fun _ _ h => h) fun w hb hs hB hkd => ?_
   exact ⟨by unfold betB; rw [show decide (b.1 < a.1) = true from hs10, Bool.true_or], hb⟩
  ·have phs10 := hs10; try simp only [decide_eq_true_eq, decide_eq_false_iff_not, Bool.not_eq_true', Bool.not_eq_false', Bool.not_true, Bool.not_false] at phs10
   refine ol_g rfl rfl hs10 ?_
   refine ol_r (r_fa (o' := 0) rfl fl112_0 rfl) rfl ?_
   refine ol_g rfl rfl hs10 ?_
   refine ol_r (r_ld (id := 2) rfl rfl rfl sc3) rfl ?_
   refine ol_g rfl rfl hs10 ?_
   refine ol_r (r_fa (o' := 0) rfl fl112_0 rfl) rfl ?_
   refine ol_g rfl rfl hs10 ?_
   refine ol_r (r_ld (id := 3) rfl rfl rfl sc3) rfl ?_
   refine ol_g rfl rfl hs10 ?_
   refine ol_r (r_eql rfl rfl) rfl ?_
   refine ol_g rfl rfl hs10 ?_
   refine ol_r (r_move rfl) rfl ?_
   refine ol_split (d := 16) rfl (fun hs16 => ?_) (fun hs16 => ?_)
   ·have phs16 := hs16; try simp only [decide_eq_true_eq, decide_eq_false_iff_not, Bool.not_eq_true', Bool.not_eq_false', Bool.not_true, Bool.not_false] at phs16
    refine ol_g rfl rfl hs16 ?_
    refine ol_r (r_fa (o' := 1) rfl fl112_1 rfl) rfl ?_
    refine ol_g rfl rfl hs16 ?_
    refine ol_r (r_ld (id := 2) rfl rfl rfl sc3) rfl ?_
    refine ol_g rfl rfl hs16 ?_
    refine ol_r (r_fa (o' := 1) rfl fl112_1 rfl) rfl ?_
    refine ol_g rfl rfl hs16 ?_
    refine ol_r (r_ld (id := 3) rfl rfl rfl sc3) rfl ?_
    refine ol_g rfl rfl hs16 ?_
    refine ol_r (r_lss rfl rfl) rfl ?_
    refine ol_g rfl rfl hs10 ?_
    refine ol_r (r_pickT rfl hs16 rfl) rfl ?_
    refine ol_r (r_pickF rfl hs10 rfl) rfl ?_
    refine ol_r (r_assign rfl) rfl ?_
    refine ol_nil (to_k0 (fun _ _ h => h) (hK2 _ _ _ _ _ ?_))
    clear hK2
    refine hQ.ret (rvs1 (rv_t rfl)) (fun _ _ h => h) fun w hb hs hB hkd => ?_
    exact ⟨by unfold betB; rw [show decide (b.1 < a.1) = false from hs10, show decide (a.1 = b.1) = true from hs16, Bool.false_or, Bool.true_and], hb⟩
   ·have phs16 := hs16; try simp only [decide_eq_true_eq, decide_eq_false_iff_not, Bool.not_eq_true', Bool.not_eq_false', Bool.not_true, Bool.not_false] at phs16
    refine ol_s rfl rfl hs16 rfl ?_
    refine ol_s rfl rfl hs16 rfl ?_
    refine ol_s rfl rfl hs16 rfl ?_
    refine ol_s rfl rfl hs16 rfl ?_
    refine ol_s rfl rfl hs16 rfl ?_
    refine ol_g rfl rfl hs10 ?_
    refine ol_r (r_pickF rfl hs16 rfl) rfl ?_
    refine ol_r (r_pickF rfl hs10 rfl) rfl ?_
    refine ol_r (r_assign rfl) rfl ?_
    refine ol_nil (to_k0 (fun _ _ h => h) (hK2 _ _ _ _ _ ?_))
    clear hK2
    refine hQ.ret (rvs1 (rv_t rfl)) (fun _ _ h => h) fun w hb hs hB hkd => ?_
    exact ⟨by unfold betB; rw [show decide (b.1 < a.1) = false from hs10, show decide (a.1 = b.1) = false from hs16]; rfl, hb⟩
theorem pickB_n {a b : Int × Int} (h : betB a b = false) : pickB a b = b := pickB_f (by rw [h]; simp)
theorem clm_eq {s : Clm} {th : Int} {x : SmpR} {o u d : Int × Int} (ho : o = s.on x.z) (hu : u = pickB (o.1 - th - x.z, o.2 + 1) s.u) (hd : d = pickB (o.1 - th + x.z, o.2 + 1) s.d) : (⟨u, d, o⟩ : Clm) = s.next th x := by
  subst ho; subst hu; subst hd; rfl
theorem drop_take_all {α : Type} {xs : List α} {n : Nat} (h : xs.length = n) : ((xs.drop ((1 : Int)).toNat).take ((n : Int).toNat - ((1 : Int)).toNat)) = xs.tail := by
  rw [show ((1 : Int)).toNat = 1 from rfl, List.drop_one, List.take_of_length_le (by rw [List.length_tail]; omega)]
theorem betB_4 {a b c d : Int} : betB (a, b) (c, d) = (decide (c < a) || (decide (a = c) && decide (b < d))) := rfl
theorem track_Climb (A : ActV) (th : Int) (w : World) (hA : A.Ok w.heap.size w) :
    Calls Try.prog 22 #[.agg #[.string A.name, .int .i64 A.sport, .int .i64 A.start, .slice A.sa A.sn A.sc, .slice A.la A.ln A.lc, .slice A.ta A.tn A.tc], .int .i64 th] w fun e w' => e = .returned (.tuple #[.agg #[.int .i64 (climbR A.d th).1.1, .int .i64 (climbR A.d th).1.2.1, .int .i64 (climbR A.d th).1.2.2], .int .i64 (climbR A.d th).2]) ∧ Below w.heap.size w w' := by
  have hsn := hA.s.len
  have hsf := hA.s.fit
  refine enterQ (N := 120) (C := fun _ => True) (H := []) (B := w.heap.size) (args := [_, _]) Try.func22 rfl rfl rfl (Nat.le_refl _) (Sat.nil _ _) fun Q hQ => ?_
  refine wp_seq' fun K1 hK1 => ?_
  refine wp_reg ?_
  refine ol_box 2 rfl rfl rfl fun b2 => ?_
  refine ol_alloc 4 z79 rfl fun b4 => ?_
  refine ol_r (r_assign rfl) rfl ?_
  refine ol_nil (to_k0 (fun _ _ h => h) (hK1 _ _ _ _ _ ?_))
  clear hK1
  refine wp_seq' fun K2 hK2 => ?_
  refine wp_seq' fun K3 hK3 => ?_
  refine wp_reg ?_
  refine ol_r (r_lda (id := 2) (n := 6) rfl rfl rfl ag57) rfl ?_
  refine ol_call rfl rfl cb20 rfl (fun w1 hb1 hs1 hB1 => Calls.mono (record_Check A _ (hA.at hb1 hB1)) ?_)
  rintro e w2 ⟨rfl, hb2⟩
  refine After.below rfl hb1 hs1 hB1 hb2 ?_
  clear hb2 hB1 hs1 hb1 w2 w1
  refine ol_r (r_assign rfl) rfl ?_
  refine ol_nil (to_k0 (fun _ _ h => h) (hK3 _ _ _ _ _ ?_))
  clear hK3
  refine wp_seq' fun K4 hK4 => ?_
  refine wp_reg ?_
  refine ol_r (r_move rfl) rfl ?_
  refine ol_r (r_neq rfl rfl) rfl ?_
  refine ol_nil (to_k0 (fun _ _ h => h) (hK4 _ _ _ _ _ ?_))
  clear hK4
  refine wp_condD rfl (fun hc22 => ?_) (fun hc22 => ?_)
  ·refine wp_seq' fun K5 hK5 => ?_
   refine wp_reg ?_
   refine ol_r (r_build rfl (fun _ => bd79 _)) rfl ?_
   refine ol_r (r_move rfl) rfl ?_
   refine ol_store (id := 4) rfl rfl rfl rfl sz79 rfl rfl (by first | decide | exact Nat.zero_lt_succ _ | simp) ?_
   refine ol_r (r_assign rfl) rfl ?_
   refine ol_nil (to_k0 (fun _ _ h => h) (hK5 _ _ _ _ _ ?_))
   clear hK5
   refine hQ.ret (rvs2 (rv_c (id := 4) (n := 3) rfl rfl ag79 rfl) (rv_t rfl)) (fun _ _ h => h) fun w hb hs hB hkd => ?_
   first
     | (have h := climbR_e (th := th) hc22
        exact ⟨by rw [h], hb⟩)
  ·refine wp_skip' (to_k0 (fun _ _ h => h) (hK2 _ _ _ _ _ ?_))
   clear hK2
   refine wp_seq' fun K6 hK6 => ?_
   refine wp_seq' fun K7 hK7 => ?_
   refine wp_reg ?_
   have h0 : chkA A.d = 0 := Decidable.not_not.1 hc22
   have hok : SmpOk A.start A.ss := (goodA h0).smp
   have hl20 := hok.len
   refine ol_r (r_move rfl) rfl ?_
   refine ol_call rfl rfl cb48 rfl (fun w1 hb1 hs1 hB1 => Calls.mono (track_in _ _ _ _) ?_)
   rintro e w2 ⟨rfl, hb2⟩
   refine After.below rfl hb1 hs1 hB1 hb2 ?_
   clear hb2 hB1 hs1 hb1 w2 w1
   refine ol_r (r_not rfl) rfl ?_
   refine ol_nil (to_k0 (fun _ _ h => h) (hK7 _ _ _ _ _ ?_))
   clear hK7
   refine wp_condNB rfl (fun hc27 => ?_) (fun hc27 => ?_)
   ·refine wp_seq' fun K8 hK8 => ?_
    refine wp_reg ?_
    refine ol_r (r_build rfl (fun _ => bd79 _)) rfl ?_
    refine ol_store (id := 4) rfl rfl rfl rfl sz79 rfl rfl (by first | decide | exact Nat.zero_lt_succ _ | simp) ?_
    refine ol_r (r_assign rfl) rfl ?_
    refine ol_nil (to_k0 (fun _ _ h => h) (hK8 _ _ _ _ _ ?_))
    clear hK8
    refine hQ.ret (rvs2 (rv_c (id := 4) (n := 3) rfl rfl ag79 rfl) (rv_t rfl)) (fun _ _ h => h) fun w hb hs hB hkd => ?_
    first
      | (have h := climbR_9 (Decidable.not_not.1 hc22) (th := th) (by have := inB_not.1 hc27; omega)
         exact ⟨by rw [h], hb⟩)
   ·refine wp_skip' (to_k0 (fun _ _ h => h) (hK6 _ _ _ _ _ ?_))
    clear hK6
    refine wp_seq' fun K9 hK9 => ?_
    refine wp_seq' fun K10 hK10 => ?_
    refine wp_reg ?_
    refine ol_r (r_fa (o' := 3) rfl fl57_3 rfl) rfl ?_
    refine ol_r (r_ld (id := 2) rfl rfl rfl sc53) rfl ?_
    refine ol_r (r_len rfl sl53) rfl ?_
    refine ol_r (r_lss rfl rfl) rfl ?_
    refine ol_nil (to_k0 (fun _ _ h => h) (hK10 _ _ _ _ _ ?_))
    clear hK10
    refine wp_condD rfl (fun hc32 => ?_) (fun hc32 => ?_)
    ·refine wp_seq' fun K11 hK11 => ?_
     refine wp_reg ?_
     refine ol_r (r_build rfl (fun _ => bd79 _)) rfl ?_
     refine ol_store (id := 4) rfl rfl rfl rfl sz79 rfl rfl (by first | decide | exact Nat.zero_lt_succ _ | simp) ?_
     refine ol_r (r_assign rfl) rfl ?_
     refine ol_nil (to_k0 (fun _ _ h => h) (hK11 _ _ _ _ _ ?_))
     clear hK11
     refine hQ.ret (rvs2 (rv_c (id := 4) (n := 3) rfl rfl ag79 rfl) (rv_t rfl)) (fun _ _ h => h) fun w hb hs hB hkd => ?_
     first
       | (have h := climbR_0 (Decidable.not_not.1 hc22) (th := th) (inB_iff.1 hc27) (by show A.ss.length < 2; omega)
          exact ⟨by rw [h], hb⟩)
    ·refine wp_skip' (to_k0 (fun _ _ h => h) (hK9 _ _ _ _ _ ?_))
     clear hK9
     refine wp_seq' fun K12 hK12 => ?_
     refine wp_reg ?_
     refine ol_r (r_fa (o' := 3) rfl fl57_3 rfl) rfl ?_
     refine ol_r (r_ld (id := 2) rfl rfl rfl sc53) rfl ?_
     refine ol_ixr hA.s rfl rfl sl53 (by omega) rfl fun x36 hx36 => ?_
     try simp only [Int.toNat_natCast] at hx36
     refine ol_r (r_faw rfl (ix_some hA.s (by omega)) fl70_3) rfl ?_
     refine ol_r (r_ldw rfl (fun w1 hb1 hs1 hB1 => Rd.loadsF (o := 3) hA.s sc3 hx36 hb1 rfl)) rfl ?_
     refine ol_r (r_assign rfl) rfl ?_
     refine ol_nil (to_k0 (fun _ _ h => h) (hK12 _ _ _ _ _ ?_))
     clear hK12
     refine wp_seq' fun K13 hK13 => ?_
     refine wp_reg ?_
     refine ol_r (r_move rfl) rfl ?_
     have hz0 := hok.hgt (List.mem_of_getElem? hx36)
     have hth := inB_iff.1 hc27
     have hzz := zAt_eq hx36
     refine ol_r (r_neg rfl (by omega)) rfl ?_
     refine ol_r (r_build rfl (fun _ => bd112_0_1 _ _ _)) rfl ?_
     refine ol_r (r_move rfl) rfl ?_
     refine ol_r (r_build rfl (fun _ => bd112_0_1 _ _ _)) rfl ?_
     refine ol_alloc 8 z112 rfl fun b8 => ?_
     refine ol_alloc 9 z112 rfl fun b9 => ?_
     refine ol_store (id := 8) rfl rfl rfl rfl sz112 rfl rfl (by first | decide | exact Nat.zero_lt_succ _ | simp) ?_
     refine ol_store (id := 9) rfl rfl rfl rfl sz112 rfl rfl (by first | decide | exact Nat.zero_lt_succ _ | simp) ?_
     refine ol_nil (to_k0 (fun _ _ h => h) (hK13 _ _ _ _ _ ?_))
     clear hK13
     refine wp_seq' fun K14 hK14 => ?_
     refine wp_reg ?_
     refine ol_alloc 10 z112 rfl fun b10 => ?_
     refine ol_nil (to_k0 (fun _ _ h => h) (hK14 _ _ _ _ _ ?_))
     clear hK14
     refine wp_seq' fun K15 hK15 => ?_
     refine wp_seq' fun K16 hK16 => ?_
     refine wp_reg ?_
     refine ol_r (r_fa (o' := 3) rfl fl57_3 rfl) rfl ?_
     refine ol_r (r_ld (id := 2) rfl rfl rfl sc53) rfl ?_
     refine ol_slr hA.s rfl rfl rfl sl53 (by simp only [Option.getD_some, Option.getD_none]; omega) rfl fun a46 c46 hl46 => ?_
     try simp only [Option.getD_some, Option.getD_none] at hl46 ⊢
     rw [drop_take_all hsn] at hl46
     have hzs : ∀ x ∈ A.ss.tail, -100000 ≤ x.z ∧ x.z ≤ 100000 := fun x hx => hok.hgt (List.mem_of_mem_tail hx)
     refine ol_r (r_len rfl sl53) rfl ?_
     refine ol_r (r_move rfl) rfl ?_
     refine ol_nil (to_k0 (fun _ _ h => h) (hK16 _ _ _ _ _ ?_))
     clear hK16
     refine wp_block' ?_
     apply wp_loopM (σ := Nat × Clm) (fun s => s.1 ≤ A.ss.length - 1 ∧ s.2 = clmK th x36.z A.ss.tail s.1) (fun s => [(48, .int .i64 s.1)]) [(1, _), (2, _), (4, _), (5, _), (7, _), (8, _), (9, _), (10, _), (46, _), (47, _)] (fun s => [(8, .blk b8 [(0, .int .i64 s.2.u.1), (1, .int .i64 s.2.u.2)] 112), (9, .blk b9 [(0, .int .i64 s.2.d.1), (1, .int .i64 s.2.d.2)] 112), (10, .blk b10 [(0, .int .i64 s.2.o.1), (1, .int .i64 s.2.o.2)] 112)]) [(2, _), (4, _)] (fun s => A.ss.length - s.1) ((0, Clm.init x36.z))
     ·try dsimp only
      exact ⟨Nat.zero_le _, rfl⟩
     ·exact (sub_cons rfl sub_nil)
     ·exact (sub_cons rfl (sub_cons rfl (sub_cons rfl (sub_cons rfl (sub_cons rfl (sub_cons rfl (sub_cons rfl (sub_cons rfl (sub_cons rfl (sub_cons rfl sub_nil))))))))))
     ·exact (subH_blk rfl (sub_cons rfl (sub_cons rfl sub_nil)) (subH_blk rfl (sub_cons rfl (sub_cons rfl sub_nil)) (subH_blk rfl (sub_cons rfl (sub_cons rfl sub_nil)) subH_nil)))
     ·exact (subH_same rfl (subH_same rfl subH_nil))
     ·rintro ⟨k, ⟨⟨ua, uc⟩, ⟨da, dc⟩, ⟨oa, oc⟩⟩⟩ ⟨hk, hc⟩
      dsimp only at hk hc ⊢
      have hbd := clmK_bd hz0 hzs hth k (by rw [List.length_tail]; exact hk)
      rw [← hc] at hbd
      obtain ⟨⟨u1, u2, u3, u4⟩, ⟨d1, d2, d3, d4⟩, ⟨o1, o2, o3, o4⟩⟩ := hbd
      dsimp only at u1 u2 u3 u4 d1 d2 d3 d4 o1 o2 o3 o4
      intro K17 hK17
      refine wp_seq' fun K18 hK18 => ?_
      refine wp_reg ?_
      refine ol_r (r_lss rfl rfl) rfl ?_
      refine ol_nil (to_k0 (fun _ _ h => h) (hK18 _ _ _ _ _ ?_))
      clear hK18
      refine wp_seq' fun K19 hK19 => ?_
      refine wp_condD rfl (fun hc49 => ?_) (fun hc49 => ?_)
      ·refine wp_skip' (to_k0 (fun _ _ h => h) (hK19 _ _ _ _ _ ?_))
       clear hK19
       refine wp_seq' fun K20 hK20 => ?_
       refine wp_block' ?_
       refine wp_seq' fun K21 hK21 => ?_
       refine wp_reg ?_
       refine ol_ixr hl46 rfl rfl sl53 (by omega) rfl fun x50 hx50 => ?_
       try simp only [Int.toNat_natCast] at hx50
       refine ol_r (r_ldw rfl (fun w1 hb1 hs1 hB1 => Rd.loads hl46 ty70 hx50 hb1)) rfl ?_
       refine ol_alloc 12 z70 rfl fun b12 => ?_
       refine ol_store (id := 12) rfl rfl rfl rfl sz70 rfl rfl (by first | decide | exact Nat.zero_lt_succ _ | simp) ?_
       refine ol_nil (to_k0 (fun _ _ h => h) (hK21 _ _ _ _ _ ?_))
       clear hK21
       refine wp_seq' fun K22 hK22 => ?_
       refine wp_reg ?_
       refine ol_r (r_lda (id := 8) (n := 2) rfl rfl rfl ag112) rfl ?_
       have hz := hzs _ (List.mem_of_getElem? hx50)
       refine ol_r (r_fa (o' := 3) rfl fl70_3 rfl) rfl ?_
       refine ol_r (r_ld (id := 12) rfl rfl rfl sc3) rfl ?_
       refine ol_call rfl rfl cb49 rfl (fun w1 hb1 hs1 hB1 => Calls.mono (track_plus _ _ _ _ (by omega)) ?_)
       rintro e w2 ⟨rfl, hb2⟩
       refine After.below rfl hb1 hs1 hB1 hb2 ?_
       clear hb2 hB1 hs1 hb1 w2 w1
       refine ol_store (id := 10) rfl rfl rfl rfl sz112 rfl rfl (by first | decide | exact Nat.zero_lt_succ _ | simp) ?_
       refine ol_nil (to_k0 (fun _ _ h => h) (hK22 _ _ _ _ _ ?_))
       clear hK22
       refine wp_seq' fun K23 hK23 => ?_
       refine wp_seq' fun K24 hK24 => ?_
       refine wp_reg ?_
       refine ol_r (r_lda (id := 9) (n := 2) rfl rfl rfl ag112) rfl ?_
       refine ol_r (r_fa (o' := 3) rfl fl70_3 rfl) rfl ?_
       refine ol_r (r_ld (id := 12) rfl rfl rfl sc3) rfl ?_
       refine ol_r (r_neg rfl (by omega)) rfl ?_
       refine ol_call rfl rfl cb49 rfl (fun w1 hb1 hs1 hB1 => Calls.mono (track_plus _ _ _ _ (by omega)) ?_)
       rintro e w2 ⟨rfl, hb2⟩
       refine After.below rfl hb1 hs1 hB1 hb2 ?_
       clear hb2 hB1 hs1 hb1 w2 w1
       refine ol_alloc 13 z112 rfl fun b13 => ?_
       refine ol_store (id := 13) rfl rfl rfl rfl sz112 rfl rfl (by first | decide | exact Nat.zero_lt_succ _ | simp) ?_
       refine ol_nil (to_k0 (fun _ _ h => h) (hK24 _ _ _ _ _ ?_))
       clear hK24
       refine wp_seq' fun K25 hK25 => ?_
       refine wp_reg ?_
       refine ol_r (r_lda (id := 13) (n := 2) rfl rfl rfl ag112) rfl ?_
       refine ol_r (r_lda (id := 10) (n := 2) rfl rfl rfl ag112) rfl ?_
       refine ol_call rfl rfl cb50 rfl (fun w1 hb1 hs1 hB1 => Calls.mono (track_better (_, _) (_, _) _) ?_)
       rintro e w2 ⟨rfl, hb2⟩
       refine After.below rfl hb1 hs1 hB1 hb2 ?_
       clear hb2 hB1 hs1 hb1 w2 w1
       refine ol_nil (to_k0 (fun _ _ h => h) (hK25 _ _ _ _ _ ?_))
       clear hK25
       refine wp_cond' rfl (fun hc63 => ?_) (fun hc63 => ?_)
       ·refine wp_reg ?_
        refine ol_r (r_lda (id := 13) (n := 2) rfl rfl rfl ag112) rfl ?_
        refine ol_store (id := 10) rfl rfl rfl rfl sz112 rfl rfl (by first | decide | exact Nat.zero_lt_succ _ | simp) ?_
        refine ol_nil (to_k0 (fun _ _ h => h) (hK23 _ _ _ _ _ ?_))
        clear hK23
        refine wp_seq' fun K26 hK26 => ?_
        refine wp_reg ?_
        refine ol_r (r_fa (o' := 0) rfl fl112_0 rfl) rfl ?_
        refine ol_r (r_ld (id := 10) rfl rfl rfl sc3) rfl ?_
        refine ol_r (r_move rfl) rfl ?_
        refine ol_r (r_sub rfl rfl (by omega)) rfl ?_
        refine ol_r (r_fa (o' := 1) rfl fl112_1 rfl) rfl ?_
        refine ol_r (r_ld (id := 10) rfl rfl rfl sc3) rfl ?_
        refine ol_r (r_add rfl rfl (by omega)) rfl ?_
        refine ol_r (r_build rfl (fun _ => bd112_0_1 _ _ _)) rfl ?_
        refine ol_alloc 14 z112 rfl fun b14 => ?_
        refine ol_store (id := 14) rfl rfl rfl rfl sz112 rfl rfl (by first | decide | exact Nat.zero_lt_succ _ | simp) ?_
        refine ol_nil (to_k0 (fun _ _ h => h) (hK26 _ _ _ _ _ ?_))
        clear hK26
        refine wp_seq' fun K27 hK27 => ?_
        refine wp_seq' fun K28 hK28 => ?_
        refine wp_reg ?_
        refine ol_r (r_lda (id := 14) (n := 2) rfl rfl rfl ag112) rfl ?_
        refine ol_r (r_fa (o' := 3) rfl fl70_3 rfl) rfl ?_
        refine ol_r (r_ld (id := 12) rfl rfl rfl sc3) rfl ?_
        refine ol_r (r_neg rfl (by omega)) rfl ?_
        refine ol_call rfl rfl cb49 rfl (fun w1 hb1 hs1 hB1 => Calls.mono (track_plus _ _ _ _ (by omega)) ?_)
        rintro e w2 ⟨rfl, hb2⟩
        refine After.below rfl hb1 hs1 hB1 hb2 ?_
        clear hb2 hB1 hs1 hb1 w2 w1
        refine ol_alloc 15 z112 rfl fun b15 => ?_
        refine ol_store (id := 15) rfl rfl rfl rfl sz112 rfl rfl (by first | decide | exact Nat.zero_lt_succ _ | simp) ?_
        refine ol_nil (to_k0 (fun _ _ h => h) (hK28 _ _ _ _ _ ?_))
        clear hK28
        refine wp_seq' fun K29 hK29 => ?_
        refine wp_reg ?_
        refine ol_r (r_lda (id := 15) (n := 2) rfl rfl rfl ag112) rfl ?_
        refine ol_r (r_lda (id := 8) (n := 2) rfl rfl rfl ag112) rfl ?_
        refine ol_call rfl rfl cb50 rfl (fun w1 hb1 hs1 hB1 => Calls.mono (track_better (_, _) (_, _) _) ?_)
        rintro e w2 ⟨rfl, hb2⟩
        refine After.below rfl hb1 hs1 hB1 hb2 ?_
        clear hb2 hB1 hs1 hb1 w2 w1
        refine ol_nil (to_k0 (fun _ _ h => h) (hK29 _ _ _ _ _ ?_))
        clear hK29
        refine wp_cond' rfl (fun hc80 => ?_) (fun hc80 => ?_)
        ·refine wp_reg ?_
         refine ol_r (r_lda (id := 15) (n := 2) rfl rfl rfl ag112) rfl ?_
         refine ol_store (id := 8) rfl rfl rfl rfl sz112 rfl rfl (by first | decide | exact Nat.zero_lt_succ _ | simp) ?_
         refine ol_nil (to_k0 (fun _ _ h => h) (hK27 _ _ _ _ _ ?_))
         clear hK27
         refine wp_seq' fun K30 hK30 => ?_
         refine wp_reg ?_
         refine ol_r (r_lda (id := 14) (n := 2) rfl rfl rfl ag112) rfl ?_
         refine ol_r (r_fa (o' := 3) rfl fl70_3 rfl) rfl ?_
         refine ol_r (r_ld (id := 12) rfl rfl rfl sc3) rfl ?_
         refine ol_call rfl rfl cb49 rfl (fun w1 hb1 hs1 hB1 => Calls.mono (track_plus _ _ _ _ (by omega)) ?_)
         rintro e w2 ⟨rfl, hb2⟩
         refine After.below rfl hb1 hs1 hB1 hb2 ?_
         clear hb2 hB1 hs1 hb1 w2 w1
         refine ol_alloc 16 z112 rfl fun b16 => ?_
         refine ol_store (id := 16) rfl rfl rfl rfl sz112 rfl rfl (by first | decide | exact Nat.zero_lt_succ _ | simp) ?_
         refine ol_nil (to_k0 (fun _ _ h => h) (hK30 _ _ _ _ _ ?_))
         clear hK30
         refine wp_seq' fun K31 hK31 => ?_
         refine wp_reg ?_
         refine ol_r (r_lda (id := 16) (n := 2) rfl rfl rfl ag112) rfl ?_
         refine ol_r (r_lda (id := 9) (n := 2) rfl rfl rfl ag112) rfl ?_
         refine ol_call rfl rfl cb50 rfl (fun w1 hb1 hs1 hB1 => Calls.mono (track_better (_, _) (_, _) _) ?_)
         rintro e w2 ⟨rfl, hb2⟩
         refine After.below rfl hb1 hs1 hB1 hb2 ?_
         clear hb2 hB1 hs1 hb1 w2 w1
         refine ol_nil (to_k0 (fun _ _ h => h) (hK31 _ _ _ _ _ ?_))
         clear hK31
         refine wp_cond' rfl (fun hc88 => ?_) (fun hc88 => ?_)
         ·refine wp_reg ?_
          refine ol_r (r_lda (id := 16) (n := 2) rfl rfl rfl ag112) rfl ?_
          refine ol_store (id := 9) rfl rfl rfl rfl sz112 rfl rfl (by first | decide | exact Nat.zero_lt_succ _ | simp) ?_
          refine ol_nil (to_k0 (fun _ _ h => h) (hK20 _ _ _ _ _ ?_))
          clear hK20
          refine wp_reg ?_
          refine ol_r (r_add rfl rfl (by omega)) rfl ?_
          refine ol_r (r_move rfl) rfl ?_
          refine ol_nil (to_k0 (fun _ _ h => h) (hK17 ((k + 1, ⟨(_, _), (_, _), (_, _)⟩)) _ _ ?_ ?_ (sub_cons rfl sub_nil) (sub_cons rfl (sub_cons rfl (sub_cons rfl (sub_cons rfl (sub_cons rfl (sub_cons rfl (sub_cons rfl (sub_cons rfl (sub_cons rfl (sub_cons rfl sub_nil)))))))))) (by exact (subH_blk rfl (sub_cons rfl (sub_cons rfl sub_nil)) (subH_blk rfl (sub_cons rfl (sub_cons rfl sub_nil)) (subH_blk rfl (sub_cons rfl (sub_cons rfl sub_nil)) subH_nil)))) (subH_same rfl (subH_same rfl subH_nil))))
          ·try dsimp only
           refine ⟨by omega, ?_⟩
           rw [clmK_succ hx50, ← hc]
           refine clm_eq ?_ ?_ ?_ <;> first | exact (pickB_t hc63).symm | exact (pickB_n hc63).symm | exact (pickB_t hc80).symm | exact (pickB_n hc80).symm | exact (pickB_t hc88).symm | exact (pickB_n hc88).symm
          ·try dsimp only
           omega
         ·refine wp_skip' (to_k0 (fun _ _ h => h) (hK20 _ _ _ _ _ ?_))
          clear hK20
          refine wp_reg ?_
          refine ol_r (r_add rfl rfl (by omega)) rfl ?_
          refine ol_r (r_move rfl) rfl ?_
          refine ol_nil (to_k0 (fun _ _ h => h) (hK17 ((k + 1, ⟨(_, _), (_, _), (_, _)⟩)) _ _ ?_ ?_ (sub_cons rfl sub_nil) (sub_cons rfl (sub_cons rfl (sub_cons rfl (sub_cons rfl (sub_cons rfl (sub_cons rfl (sub_cons rfl (sub_cons rfl (sub_cons rfl (sub_cons rfl sub_nil)))))))))) (by exact (subH_blk rfl (sub_cons rfl (sub_cons rfl sub_nil)) (subH_blk rfl (sub_cons rfl (sub_cons rfl sub_nil)) (subH_blk rfl (sub_cons rfl (sub_cons rfl sub_nil)) subH_nil)))) (subH_same rfl (subH_same rfl subH_nil))))
          ·try dsimp only
           refine ⟨by omega, ?_⟩
           rw [clmK_succ hx50, ← hc]
           refine clm_eq ?_ ?_ ?_ <;> first | exact (pickB_t hc63).symm | exact (pickB_n hc63).symm | exact (pickB_t hc80).symm | exact (pickB_n hc80).symm | exact (pickB_t hc88).symm | exact (pickB_n hc88).symm
          ·try dsimp only
           omega
        ·refine wp_skip' (to_k0 (fun _ _ h => h) (hK27 _ _ _ _ _ ?_))
         clear hK27
         refine wp_seq' fun K32 hK32 => ?_
         refine wp_reg ?_
         refine ol_r (r_lda (id := 14) (n := 2) rfl rfl rfl ag112) rfl ?_
         refine ol_r (r_fa (o' := 3) rfl fl70_3 rfl) rfl ?_
         refine ol_r (r_ld (id := 12) rfl rfl rfl sc3) rfl ?_
         refine ol_call rfl rfl cb49 rfl (fun w1 hb1 hs1 hB1 => Calls.mono (track_plus _ _ _ _ (by omega)) ?_)
         rintro e w2 ⟨rfl, hb2⟩
         refine After.below rfl hb1 hs1 hB1 hb2 ?_
         clear hb2 hB1 hs1 hb1 w2 w1
         refine ol_alloc 16 z112 rfl fun b16 => ?_
         refine ol_store (id := 16) rfl rfl rfl rfl sz112 rfl rfl (by first | decide | exact Nat.zero_lt_succ _ | simp) ?_
         refine ol_nil (to_k0 (fun _ _ h => h) (hK32 _ _ _ _ _ ?_))
         clear hK32
         refine wp_seq' fun K33 hK33 => ?_
         refine wp_reg ?_
         refine ol_r (r_lda (id := 16) (n := 2) rfl rfl rfl ag112) rfl ?_
         refine ol_r (r_lda (id := 9) (n := 2) rfl rfl rfl ag112) rfl ?_
         refine ol_call rfl rfl cb50 rfl (fun w1 hb1 hs1 hB1 => Calls.mono (track_better (_, _) (_, _) _) ?_)
         rintro e w2 ⟨rfl, hb2⟩
         refine After.below rfl hb1 hs1 hB1 hb2 ?_
         clear hb2 hB1 hs1 hb1 w2 w1
         refine ol_nil (to_k0 (fun _ _ h => h) (hK33 _ _ _ _ _ ?_))
         clear hK33
         refine wp_cond' rfl (fun hc88 => ?_) (fun hc88 => ?_)
         ·refine wp_reg ?_
          refine ol_r (r_lda (id := 16) (n := 2) rfl rfl rfl ag112) rfl ?_
          refine ol_store (id := 9) rfl rfl rfl rfl sz112 rfl rfl (by first | decide | exact Nat.zero_lt_succ _ | simp) ?_
          refine ol_nil (to_k0 (fun _ _ h => h) (hK20 _ _ _ _ _ ?_))
          clear hK20
          refine wp_reg ?_
          refine ol_r (r_add rfl rfl (by omega)) rfl ?_
          refine ol_r (r_move rfl) rfl ?_
          refine ol_nil (to_k0 (fun _ _ h => h) (hK17 ((k + 1, ⟨(_, _), (_, _), (_, _)⟩)) _ _ ?_ ?_ (sub_cons rfl sub_nil) (sub_cons rfl (sub_cons rfl (sub_cons rfl (sub_cons rfl (sub_cons rfl (sub_cons rfl (sub_cons rfl (sub_cons rfl (sub_cons rfl (sub_cons rfl sub_nil)))))))))) (by exact (subH_blk rfl (sub_cons rfl (sub_cons rfl sub_nil)) (subH_blk rfl (sub_cons rfl (sub_cons rfl sub_nil)) (subH_blk rfl (sub_cons rfl (sub_cons rfl sub_nil)) subH_nil)))) (subH_same rfl (subH_same rfl subH_nil))))
          ·try dsimp only
           refine ⟨by omega, ?_⟩
           rw [clmK_succ hx50, ← hc]
           refine clm_eq ?_ ?_ ?_ <;> first | exact (pickB_t hc63).symm | exact (pickB_n hc63).symm | exact (pickB_t hc80).symm | exact (pickB_n hc80).symm | exact (pickB_t hc88).symm | exact (pickB_n hc88).symm
          ·try dsimp only
           omega
         ·refine wp_skip' (to_k0 (fun _ _ h => h) (hK20 _ _ _ _ _ ?_))
          clear hK20
          refine wp_reg ?_
          refine ol_r (r_add rfl rfl (by omega)) rfl ?_
          refine ol_r (r_move rfl) rfl ?_
          refine ol_nil (to_k0 (fun _ _ h => h) (hK17 ((k + 1, ⟨(_, _), (_, _), (_, _)⟩)) _ _ ?_ ?_ (sub_cons rfl sub_nil) (sub_cons rfl (sub_cons rfl (sub_cons rfl (sub_cons rfl (sub_cons rfl (sub_cons rfl (sub_cons rfl (sub_cons rfl (sub_cons rfl (sub_cons rfl sub_nil)))))))))) (by exact (subH_blk rfl (sub_cons rfl (sub_cons rfl sub_nil)) (subH_blk rfl (sub_cons rfl (sub_cons rfl sub_nil)) (subH_blk rfl (sub_cons rfl (sub_cons rfl sub_nil)) subH_nil)))) (subH_same rfl (subH_same rfl subH_nil))))
          ·try dsimp only
           refine ⟨by omega, ?_⟩
           rw [clmK_succ hx50, ← hc]
           refine clm_eq ?_ ?_ ?_ <;> first | exact (pickB_t hc63).symm | exact (pickB_n hc63).symm | exact (pickB_t hc80).symm | exact (pickB_n hc80).symm | exact (pickB_t hc88).symm | exact (pickB_n hc88).symm
          ·try dsimp only
           omega
       ·refine wp_skip' (to_k0 (fun _ _ h => h) (hK23 _ _ _ _ _ ?_))
        clear hK23
        refine wp_seq' fun K34 hK34 => ?_
        refine wp_reg ?_
        refine ol_r (r_fa (o' := 0) rfl fl112_0 rfl) rfl ?_
        refine ol_r (r_ld (id := 10) rfl rfl rfl sc3) rfl ?_
        refine ol_r (r_move rfl) rfl ?_
        refine ol_r (r_sub rfl rfl (by omega)) rfl ?_
        refine ol_r (r_fa (o' := 1) rfl fl112_1 rfl) rfl ?_
        refine ol_r (r_ld (id := 10) rfl rfl rfl sc3) rfl ?_
        refine ol_r (r_add rfl rfl (by omega)) rfl ?_
        refine ol_r (r_build rfl (fun _ => bd112_0_1 _ _ _)) rfl ?_
        refine ol_alloc 14 z112 rfl fun b14 => ?_
        refine ol_store (id := 14) rfl rfl rfl rfl sz112 rfl rfl (by first | decide | exact Nat.zero_lt_succ _ | simp) ?_
        refine ol_nil (to_k0 (fun _ _ h => h) (hK34 _ _ _ _ _ ?_))
        clear hK34
        refine wp_seq' fun K35 hK35 => ?_
        refine wp_seq' fun K36 hK36 => ?_
        refine wp_reg ?_
        refine ol_r (r_lda (id := 14) (n := 2) rfl rfl rfl ag112) rfl ?_
        refine ol_r (r_fa (o' := 3) rfl fl70_3 rfl) rfl ?_
        refine ol_r (r_ld (id := 12) rfl rfl rfl sc3) rfl ?_
        refine ol_r (r_neg rfl (by omega)) rfl ?_
        refine ol_call rfl rfl cb49 rfl (fun w1 hb1 hs1 hB1 => Calls.mono (track_plus _ _ _ _ (by omega)) ?_)
        rintro e w2 ⟨rfl, hb2⟩
        refine After.below rfl hb1 hs1 hB1 hb2 ?_
        clear hb2 hB1 hs1 hb1 w2 w1
        refine ol_alloc 15 z112 rfl fun b15 => ?_
        refine ol_store (id := 15) rfl rfl rfl rfl sz112 rfl rfl (by first | decide | exact Nat.zero_lt_succ _ | simp) ?_
        refine ol_nil (to_k0 (fun _ _ h => h) (hK36 _ _ _ _ _ ?_))
        clear hK36
        refine wp_seq' fun K37 hK37 => ?_
        refine wp_reg ?_
        refine ol_r (r_lda (id := 15) (n := 2) rfl rfl rfl ag112) rfl ?_
        refine ol_r (r_lda (id := 8) (n := 2) rfl rfl rfl ag112) rfl ?_
        refine ol_call rfl rfl cb50 rfl (fun w1 hb1 hs1 hB1 => Calls.mono (track_better (_, _) (_, _) _) ?_)
        rintro e w2 ⟨rfl, hb2⟩
        refine After.below rfl hb1 hs1 hB1 hb2 ?_
        clear hb2 hB1 hs1 hb1 w2 w1
        refine ol_nil (to_k0 (fun _ _ h => h) (hK37 _ _ _ _ _ ?_))
        clear hK37
        refine wp_cond' rfl (fun hc80 => ?_) (fun hc80 => ?_)
        ·refine wp_reg ?_
         refine ol_r (r_lda (id := 15) (n := 2) rfl rfl rfl ag112) rfl ?_
         refine ol_store (id := 8) rfl rfl rfl rfl sz112 rfl rfl (by first | decide | exact Nat.zero_lt_succ _ | simp) ?_
         refine ol_nil (to_k0 (fun _ _ h => h) (hK35 _ _ _ _ _ ?_))
         clear hK35
         refine wp_seq' fun K38 hK38 => ?_
         refine wp_reg ?_
         refine ol_r (r_lda (id := 14) (n := 2) rfl rfl rfl ag112) rfl ?_
         refine ol_r (r_fa (o' := 3) rfl fl70_3 rfl) rfl ?_
         refine ol_r (r_ld (id := 12) rfl rfl rfl sc3) rfl ?_
         refine ol_call rfl rfl cb49 rfl (fun w1 hb1 hs1 hB1 => Calls.mono (track_plus _ _ _ _ (by omega)) ?_)
         rintro e w2 ⟨rfl, hb2⟩
         refine After.below rfl hb1 hs1 hB1 hb2 ?_
         clear hb2 hB1 hs1 hb1 w2 w1
         refine ol_alloc 16 z112 rfl fun b16 => ?_
         refine ol_store (id := 16) rfl rfl rfl rfl sz112 rfl rfl (by first | decide | exact Nat.zero_lt_succ _ | simp) ?_
         refine ol_nil (to_k0 (fun _ _ h => h) (hK38 _ _ _ _ _ ?_))
         clear hK38
         refine wp_seq' fun K39 hK39 => ?_
         refine wp_reg ?_
         refine ol_r (r_lda (id := 16) (n := 2) rfl rfl rfl ag112) rfl ?_
         refine ol_r (r_lda (id := 9) (n := 2) rfl rfl rfl ag112) rfl ?_
         refine ol_call rfl rfl cb50 rfl (fun w1 hb1 hs1 hB1 => Calls.mono (track_better (_, _) (_, _) _) ?_)
         rintro e w2 ⟨rfl, hb2⟩
         refine After.below rfl hb1 hs1 hB1 hb2 ?_
         clear hb2 hB1 hs1 hb1 w2 w1
         refine ol_nil (to_k0 (fun _ _ h => h) (hK39 _ _ _ _ _ ?_))
         clear hK39
         refine wp_cond' rfl (fun hc88 => ?_) (fun hc88 => ?_)
         ·refine wp_reg ?_
          refine ol_r (r_lda (id := 16) (n := 2) rfl rfl rfl ag112) rfl ?_
          refine ol_store (id := 9) rfl rfl rfl rfl sz112 rfl rfl (by first | decide | exact Nat.zero_lt_succ _ | simp) ?_
          refine ol_nil (to_k0 (fun _ _ h => h) (hK20 _ _ _ _ _ ?_))
          clear hK20
          refine wp_reg ?_
          refine ol_r (r_add rfl rfl (by omega)) rfl ?_
          refine ol_r (r_move rfl) rfl ?_
          refine ol_nil (to_k0 (fun _ _ h => h) (hK17 ((k + 1, ⟨(_, _), (_, _), (_, _)⟩)) _ _ ?_ ?_ (sub_cons rfl sub_nil) (sub_cons rfl (sub_cons rfl (sub_cons rfl (sub_cons rfl (sub_cons rfl (sub_cons rfl (sub_cons rfl (sub_cons rfl (sub_cons rfl (sub_cons rfl sub_nil)))))))))) (by exact (subH_blk rfl (sub_cons rfl (sub_cons rfl sub_nil)) (subH_blk rfl (sub_cons rfl (sub_cons rfl sub_nil)) (subH_blk rfl (sub_cons rfl (sub_cons rfl sub_nil)) subH_nil)))) (subH_same rfl (subH_same rfl subH_nil))))
          ·try dsimp only
           refine ⟨by omega, ?_⟩
           rw [clmK_succ hx50, ← hc]
           refine clm_eq ?_ ?_ ?_ <;> first | exact (pickB_t hc63).symm | exact (pickB_n hc63).symm | exact (pickB_t hc80).symm | exact (pickB_n hc80).symm | exact (pickB_t hc88).symm | exact (pickB_n hc88).symm
          ·try dsimp only
           omega
         ·refine wp_skip' (to_k0 (fun _ _ h => h) (hK20 _ _ _ _ _ ?_))
          clear hK20
          refine wp_reg ?_
          refine ol_r (r_add rfl rfl (by omega)) rfl ?_
          refine ol_r (r_move rfl) rfl ?_
          refine ol_nil (to_k0 (fun _ _ h => h) (hK17 ((k + 1, ⟨(_, _), (_, _), (_, _)⟩)) _ _ ?_ ?_ (sub_cons rfl sub_nil) (sub_cons rfl (sub_cons rfl (sub_cons rfl (sub_cons rfl (sub_cons rfl (sub_cons rfl (sub_cons rfl (sub_cons rfl (sub_cons rfl (sub_cons rfl sub_nil)))))))))) (by exact (subH_blk rfl (sub_cons rfl (sub_cons rfl sub_nil)) (subH_blk rfl (sub_cons rfl (sub_cons rfl sub_nil)) (subH_blk rfl (sub_cons rfl (sub_cons rfl sub_nil)) subH_nil)))) (subH_same rfl (subH_same rfl subH_nil))))
          ·try dsimp only
           refine ⟨by omega, ?_⟩
           rw [clmK_succ hx50, ← hc]
           refine clm_eq ?_ ?_ ?_ <;> first | exact (pickB_t hc63).symm | exact (pickB_n hc63).symm | exact (pickB_t hc80).symm | exact (pickB_n hc80).symm | exact (pickB_t hc88).symm | exact (pickB_n hc88).symm
          ·try dsimp only
           omega
        ·refine wp_skip' (to_k0 (fun _ _ h => h) (hK35 _ _ _ _ _ ?_))
         clear hK35
         refine wp_seq' fun K40 hK40 => ?_
         refine wp_reg ?_
         refine ol_r (r_lda (id := 14) (n := 2) rfl rfl rfl ag112) rfl ?_
         refine ol_r (r_fa (o' := 3) rfl fl70_3 rfl) rfl ?_
         refine ol_r (r_ld (id := 12) rfl rfl rfl sc3) rfl ?_
         refine ol_call rfl rfl cb49 rfl (fun w1 hb1 hs1 hB1 => Calls.mono (track_plus _ _ _ _ (by omega)) ?_)
         rintro e w2 ⟨rfl, hb2⟩
         refine After.below rfl hb1 hs1 hB1 hb2 ?_
         clear hb2 hB1 hs1 hb1 w2 w1
         refine ol_alloc 16 z112 rfl fun b16 => ?_
         refine ol_store (id := 16) rfl rfl rfl rfl sz112 rfl rfl (by first | decide | exact Nat.zero_lt_succ _ | simp) ?_
         refine ol_nil (to_k0 (fun _ _ h => h) (hK40 _ _ _ _ _ ?_))
         clear hK40
         refine wp_seq' fun K41 hK41 => ?_
         refine wp_reg ?_
         refine ol_r (r_lda (id := 16) (n := 2) rfl rfl rfl ag112) rfl ?_
         refine ol_r (r_lda (id := 9) (n := 2) rfl rfl rfl ag112) rfl ?_
         refine ol_call rfl rfl cb50 rfl (fun w1 hb1 hs1 hB1 => Calls.mono (track_better (_, _) (_, _) _) ?_)
         rintro e w2 ⟨rfl, hb2⟩
         refine After.below rfl hb1 hs1 hB1 hb2 ?_
         clear hb2 hB1 hs1 hb1 w2 w1
         refine ol_nil (to_k0 (fun _ _ h => h) (hK41 _ _ _ _ _ ?_))
         clear hK41
         refine wp_cond' rfl (fun hc88 => ?_) (fun hc88 => ?_)
         ·refine wp_reg ?_
          refine ol_r (r_lda (id := 16) (n := 2) rfl rfl rfl ag112) rfl ?_
          refine ol_store (id := 9) rfl rfl rfl rfl sz112 rfl rfl (by first | decide | exact Nat.zero_lt_succ _ | simp) ?_
          refine ol_nil (to_k0 (fun _ _ h => h) (hK20 _ _ _ _ _ ?_))
          clear hK20
          refine wp_reg ?_
          refine ol_r (r_add rfl rfl (by omega)) rfl ?_
          refine ol_r (r_move rfl) rfl ?_
          refine ol_nil (to_k0 (fun _ _ h => h) (hK17 ((k + 1, ⟨(_, _), (_, _), (_, _)⟩)) _ _ ?_ ?_ (sub_cons rfl sub_nil) (sub_cons rfl (sub_cons rfl (sub_cons rfl (sub_cons rfl (sub_cons rfl (sub_cons rfl (sub_cons rfl (sub_cons rfl (sub_cons rfl (sub_cons rfl sub_nil)))))))))) (by exact (subH_blk rfl (sub_cons rfl (sub_cons rfl sub_nil)) (subH_blk rfl (sub_cons rfl (sub_cons rfl sub_nil)) (subH_blk rfl (sub_cons rfl (sub_cons rfl sub_nil)) subH_nil)))) (subH_same rfl (subH_same rfl subH_nil))))
          ·try dsimp only
           refine ⟨by omega, ?_⟩
           rw [clmK_succ hx50, ← hc]
           refine clm_eq ?_ ?_ ?_ <;> first | exact (pickB_t hc63).symm | exact (pickB_n hc63).symm | exact (pickB_t hc80).symm | exact (pickB_n hc80).symm | exact (pickB_t hc88).symm | exact (pickB_n hc88).symm
          ·try dsimp only
           omega
         ·refine wp_skip' (to_k0 (fun _ _ h => h) (hK20 _ _ _ _ _ ?_))
          clear hK20
          refine wp_reg ?_
          refine ol_r (r_add rfl rfl (by omega)) rfl ?_
          refine ol_r (r_move rfl) rfl ?_
          refine ol_nil (to_k0 (fun _ _ h => h) (hK17 ((k + 1, ⟨(_, _), (_, _), (_, _)⟩)) _ _ ?_ ?_ (sub_cons rfl sub_nil) (sub_cons rfl (sub_cons rfl (sub_cons rfl (sub_cons rfl (sub_cons rfl (sub_cons rfl (sub_cons rfl (sub_cons rfl (sub_cons rfl (sub_cons rfl sub_nil)))))))))) (by exact (subH_blk rfl (sub_cons rfl (sub_cons rfl sub_nil)) (subH_blk rfl (sub_cons rfl (sub_cons rfl sub_nil)) (subH_blk rfl (sub_cons rfl (sub_cons rfl sub_nil)) subH_nil)))) (subH_same rfl (subH_same rfl subH_nil))))
          ·try dsimp only
           refine ⟨by omega, ?_⟩
           rw [clmK_succ hx50, ← hc]
           refine clm_eq ?_ ?_ ?_ <;> first | exact (pickB_t hc63).symm | exact (pickB_n hc63).symm | exact (pickB_t hc80).symm | exact (pickB_n hc80).symm | exact (pickB_t hc88).symm | exact (pickB_n hc88).symm
          ·try dsimp only
           omega
      ·refine wp_exit' (to_k0 (fun _ _ h => h) (hK15 _ _ _ _ _ ?_))
       clear hK15
       refine wp_seq' fun K42 hK42 => ?_
       refine wp_reg ?_
       refine ol_r (r_fa (o' := 0) rfl fl112_0 rfl) rfl ?_
       refine ol_r (r_ld (id := 10) rfl rfl rfl sc3) rfl ?_
       refine ol_r (r_move rfl) rfl ?_
       refine ol_r (r_fa (o' := 1) rfl fl112_1 rfl) rfl ?_
       refine ol_r (r_ld (id := 10) rfl rfl rfl sc3) rfl ?_
       have qm := mul_bd (a := th) (b := oc) (A := 200000) (B := 8000100000) (by omega) (by omega) (by omega) (by omega)
       refine ol_r (r_mul rfl rfl (by omega)) rfl ?_
       refine ol_r (r_add rfl rfl (by omega)) rfl ?_
       refine ol_r (r_assign rfl) rfl ?_
       refine ol_nil (to_k0 (fun _ _ h => h) (hK42 _ _ _ _ _ ?_))
       clear hK42
       refine wp_seq' fun K43 hK43 => ?_
       refine wp_reg ?_
       refine ol_r (r_fa (o' := 3) rfl fl57_3 rfl) rfl ?_
       refine ol_r (r_ld (id := 2) rfl rfl rfl sc53) rfl ?_
       refine ol_r (r_fa (o' := 3) rfl fl57_3 rfl) rfl ?_
       refine ol_r (r_ld (id := 2) rfl rfl rfl sc53) rfl ?_
       refine ol_r (r_len rfl sl53) rfl ?_
       refine ol_r (r_sub rfl rfl (by omega)) rfl ?_
       refine ol_ixr hA.s rfl rfl sl53 (by omega) rfl fun x104 hx104 => ?_
       try simp only [Int.toNat_natCast] at hx104
       refine ol_r (r_faw rfl (ix_some hA.s (by omega)) fl70_3) rfl ?_
       refine ol_r (r_ldw rfl (fun w1 hb1 hs1 hB1 => Rd.loadsF (o := 3) hA.s sc3 hx104 hb1 rfl)) rfl ?_
       refine ol_r (r_move rfl) rfl ?_
       have hz1 := hok.hgt (List.mem_of_getElem? hx104)
       refine ol_r (r_sub rfl rfl (by omega)) rfl ?_
       refine ol_r (r_assign rfl) rfl ?_
       refine ol_nil (to_k0 (fun _ _ h => h) (hK43 _ _ _ _ _ ?_))
       clear hK43
       refine wp_seq' fun K44 hK44 => ?_
       refine wp_reg ?_
       refine ol_r (r_move rfl) rfl ?_
       refine ol_r (r_move rfl) rfl ?_
       refine ol_r (r_add rfl rfl (by omega)) rfl ?_
       first | refine ol_r (r_quo rfl rfl (by omega)) rfl ?_ | refine ol_r (r_tquo rfl rfl (by omega)) rfl ?_
       refine ol_r (r_move rfl) rfl ?_
       refine ol_r (r_move rfl) rfl ?_
       refine ol_r (r_sub rfl rfl (by omega)) rfl ?_
       first | refine ol_r (r_quo rfl rfl (by omega)) rfl ?_ | refine ol_r (r_tquo rfl rfl (by omega)) rfl ?_
       refine ol_r (r_fa (o' := 1) rfl fl112_1 rfl) rfl ?_
       refine ol_r (r_ld (id := 10) rfl rfl rfl sc3) rfl ?_
       refine ol_r (r_build rfl (fun _ => bd79_0_1_2 _ _ _ _)) rfl ?_
       refine ol_store (id := 4) rfl rfl rfl rfl sz79 rfl rfl (by first | decide | exact Nat.zero_lt_succ _ | simp) ?_
       refine ol_r (r_assign rfl) rfl ?_
       refine ol_nil (to_k0 (fun _ _ h => h) (hK44 _ _ _ _ _ ?_))
       clear hK44
       refine hQ.ret (rvs2 (rv_c (id := 4) (n := 3) rfl rfl ag79 rfl) (rv_t rfl)) (fun _ _ h => h) fun w hb hs hB hkd => ?_
       first
         | (have h := climbR_z (Decidable.not_not.1 hc22) (th := th) hth (by show ¬A.ss.length < 2; omega)
            have hk' : k = A.ss.length - 1 := by omega
            have hz2 : zAt A.ss (A.ss.length - 1) = x104.z := by refine zAt_eq ?_; rw [← hx104]; congr 1; omega
            have hz3 : zAt A.ss 0 = x36.z := zAt_eq hx36
            refine ⟨?_, hb⟩
            rw [h]
            unfold zigR
            rw [hk'] at hc
            simp only [show A.d.ss = A.ss from rfl, hz2, hz3, ← hc])
end Go.Proofs.Ytfbmkepogcimlaa

/-
  Ways: program and reference.
-/



namespace Go.Proofs.Ytfbmkepogcimlaa
open Go Go.RowKit Hx
set_option linter.unusedVariables false
set_option linter.unusedSimpArgs false
set_option maxRecDepth 8000
theorem track_ways (A : ActV) (w : World) (hA : A.Ok w.heap.size w) (hok : SmpOk A.start A.ss) :
    Calls Try.prog 84 #[.agg #[.string A.name, .int .i64 A.sport, .int .i64 A.start, .slice A.sa A.sn A.sc, .slice A.la A.ln A.lc, .slice A.ta A.tn A.tc]] w fun e w' => ∃ b m k, e = .returned (.slice b m k) ∧ Fresh encI 3 w w' b m k (wayL A.ss) := by
  have hsn := hA.s.len
  have hsf := hA.s.fit
  have hlen := stepsL_len A.ss
  have hl20 := hok.len
  refine enterQ (N := 29) (C := fun _ => True) (H := []) (B := w.heap.size) (args := [_]) Try.func84 rfl rfl rfl (Nat.le_refl _) (Sat.nil _ _) fun Q hQ => ?_
  refine wp_seq' fun K1 hK1 => ?_
  refine wp_reg ?_
  refine ol_box 1 rfl rfl rfl fun b1 => ?_
  refine ol_r (r_assign rfl) rfl ?_
  refine ol_nil (to_k0 (fun _ _ h => h) (hK1 _ _ _ _ _ ?_))
  clear hK1
  refine wp_seq' fun K2 hK2 => ?_
  refine wp_seq' fun K3 hK3 => ?_
  refine wp_reg ?_
  refine ol_r (r_fa (o' := 3) rfl fl57_3 rfl) rfl ?_
  refine ol_r (r_ld (id := 1) rfl rfl rfl sc53) rfl ?_
  refine ol_r (r_len rfl sl53) rfl ?_
  refine ol_r (r_eql rfl rfl) rfl ?_
  refine ol_nil (to_k0 (fun _ _ h => h) (hK3 _ _ _ _ _ ?_))
  clear hK3
  refine wp_condD rfl (fun hc9 => ?_) (fun hc9 => ?_)
  ·refine wp_seq' fun K4 hK4 => ?_
   refine wp_reg ?_
   refine ol_r (r_assign rfl) rfl ?_
   refine ol_nil (to_k0 (fun _ _ h => h) (hK4 _ _ _ _ _ ?_))
   clear hK4
   refine hQ.ret (rvs1 (rv_t rfl)) (fun _ _ h => h) fun w hb hs hB hkd => ?_
   first
     | (have h0 : A.ss = [] := List.length_eq_zero_iff.1 (by omega)
        have h1 : wayL A.ss = [] := by rw [h0]; rfl
        exact ⟨_, _, _, rfl, by rw [h1]; exact Fresh.nil hb⟩)
  ·refine wp_skip' (to_k0 (fun _ _ h => h) (hK2 _ _ _ _ _ ?_))
   clear hK2
   refine wp_seq' fun K5 hK5 => ?_
   refine wp_reg ?_
   refine ol_bs1 10 rfl rfl rw61 rfl rfl rfl fun a10 => ?_
   refine ol_alloc 3 z61 rfl fun b3 => ?_
   refine ol_store (id := 3) rfl rfl rfl rfl sz61 rfl rfl (by first | decide | exact Nat.zero_lt_succ _ | simp) ?_
   refine ol_nil (to_k0 (fun _ _ h => h) (hK5 _ _ _ _ _ ?_))
   clear hK5
   refine wp_seq' fun K6 hK6 => ?_
   refine wp_seq' fun K7 hK7 => ?_
   refine wp_reg ?_
   refine ol_r (r_lda (id := 1) (n := 6) rfl rfl rfl ag57) rfl ?_
   refine ol_call rfl rfl cb100 rfl (fun w1 hb1 hs1 hB1 => ?_)
   refine Calls.mono (track_Steps A _ (hA.at hb1 hB1)) ?_
   rintro e w2 ⟨b0, T0, rfl, hb2, hs2⟩
   refine After.more rfl hb1 hs1 hB1 hb2 hs2 ?_
   clear hs2 hb2 hB1 hs1 hb1 w2 w1
   refine ol_nil (to_k0 (fun _ _ h => h) (hK7 _ _ _ _ _ ?_))
   clear hK7
   refine wp_block' ?_
   refine wp_rf (σ := Option Addr × Nat) (τ := Unit) (encs := fun x : SmpR × SmpR => [.agg #[.int .i64 x.1.at_, .int .i64 x.1.x, .int .i64 x.1.y, .int .i64 x.1.z, .int .i64 x.1.pulse, .int .i64 x.1.power, .int .i64 x.1.steps], .agg #[.int .i64 x.2.at_, .int .i64 x.2.x, .int .i64 x.2.y, .int .i64 x.2.z, .int .i64 x.2.pulse, .int .i64 x.2.power, .int .i64 x.2.steps]]) (zs := stepsL A.ss) rfl cb130 (steps_iter A _ b0 _ hA.s) (by rfl) (by rfl) (by rfl) (fun _ => rfl) (fun k s => k ≤ (stepsL A.ss).length) (fun k s => [(3, .blk b3 [(0, .slice s.1 (k + 1) s.2)] 61), (10, .row s.1 (k + 1) s.2 (encI.enc (runW A.ss (k + 1))) 3 1)]) [(1, _), (1001, _)] (fun t => False) (fun t => []) ((_, _)) ?_ (by exact (subH_blk rfl (sub_cons rfl sub_nil) (subH_row rfl (by (rw [runW_succ, wayN_zero]; rfl)) subH_nil))) (subH_same rfl (subH_same rfl subH_nil)) ?_ ?_ ?_ ?_
   ·try dsimp only
    omega
   ·intro k s W hI hbW hsW hBW
    exact ⟨hbW, ⟨_, hsW.one 1001 100 rfl (Ent.le_refl _)⟩, hBW⟩
   ·rintro k x ⟨oa, oc⟩ B0 W hx hI hbW hBW hB0
    have hxx := stepsL_inv hx
    have hp := hok.place (List.mem_of_getElem? hxx.1)
    have hq := hok.place (List.mem_of_getElem? hxx.2)
    have hlb := lenD_bd hp hq
    have hwb := wayN_bd hok k
    dsimp only at hI ⊢
    intro Ka8 hKa8
    simp only [alp]
    refine wp_seq' fun K9 hK9 => ?_
    refine wp_reg ?_
    refine ol_alloc 4 z70 rfl fun b4 => ?_
    refine ol_store (id := 4) rfl rfl rfl rfl sz70 rfl rfl (by first | decide | exact Nat.zero_lt_succ _ | simp) ?_
    refine ol_nil (to_k0 (fun _ _ h => h) (hK9 _ _ _ _ _ ?_))
    clear hK9
    refine wp_reg ?_
    refine ol_alloc 5 z70 rfl fun b5 => ?_
    refine ol_store (id := 5) rfl rfl rfl rfl sz70 rfl rfl (by first | decide | exact Nat.zero_lt_succ _ | simp) ?_
    refine ol_nil (to_k0 (fun _ _ h => h) (hKa8 _ _ fun Wb R hbw hBw hn hr => ?_))
    refine wp_block' ?_
    refine wp_rega [(999, [(1, _), (4, _), (5, _), (1001, _)]), (13, [(3, _)]), (12, [(10, _)])] (by kernel_rfl) ⟨.inr (subH_same rfl (subH_same rfl (subH_same rfl (subH_same rfl subH_nil)))), ⟨.inr (subH_same rfl subH_nil), ⟨.inr (subH_same rfl subH_nil), trivial⟩⟩⟩ ?_
    refine aq_r 0 13 rfl (by kernel_rfl) (by kernel_rfl) (by kernel_rfl) (.tail _ (.head _)) (by kernel_rfl) (by kernel_rfl) rfl (r_ld (id := 3) rfl rfl rfl sc61) ?_
    refine aq_r 1 13 rfl (by kernel_rfl) (by kernel_rfl) (by kernel_rfl) (.tail _ (.head _)) (by kernel_rfl) (by kernel_rfl) rfl (r_ld (id := 3) rfl rfl rfl sc61) ?_
    refine aq_r 2 13 rfl (by kernel_rfl) (by kernel_rfl) (by kernel_rfl) (.tail _ (.head _)) (by kernel_rfl) (by kernel_rfl) rfl (r_ld (id := 3) rfl rfl rfl sc61) ?_
    refine aq_r 3 999 rfl (by kernel_rfl) (by kernel_rfl) (by kernel_rfl) (.head _) (by kernel_rfl) (by kernel_rfl) rfl (r_len rfl sl61) ?_
    refine aq_r 4 999 rfl (by kernel_rfl) (by kernel_rfl) (by kernel_rfl) (.head _) (by kernel_rfl) (by kernel_rfl) rfl (r_sub rfl rfl (by omega)) ?_
    refine aq_r 7 999 rfl (by kernel_rfl) (by kernel_rfl) (by kernel_rfl) (.head _) (by kernel_rfl) (by kernel_rfl) rfl (r_lda (id := 4) (n := 7) rfl rfl rfl ag70) ?_
    refine aq_r 8 999 rfl (by kernel_rfl) (by kernel_rfl) (by kernel_rfl) (.head _) (by kernel_rfl) (by kernel_rfl) rfl (r_lda (id := 5) (n := 7) rfl rfl rfl ag70) ?_
    refine aq_two (i := 5) (j := 9) (by kernel_rfl) rfl rfl (fun K10 hK10 => ?_) (fun K10 hK10 => ?_)
    ·refine ol_ixo (id := 10) encI _ rfl rfl rfl rfl sl61 (by omega) rfl fun x20 hx20 => ?_
     try simp only [Int.toNat_natCast] at hx20
     try simp only [Int.toNat_natCast] at hx20
     refine ol_nil (to_k0 (fun _ _ h => h) (hK10 _ _ ⟨.inr (by repeat' first | exact subH_nil | refine subH_same rfl ?_ | (refine subH_blk rfl (by repeat' first | exact sub_nil | refine sub_cons rfl ?_) ?_)), ⟨.inr (by repeat' first | exact subH_nil | refine subH_same rfl ?_ | (refine subH_blk rfl (by repeat' first | exact sub_nil | refine sub_cons rfl ?_) ?_)), ⟨.inr (by repeat' first | exact subH_nil | refine subH_same rfl ?_ | (refine subH_blk rfl (by repeat' first | exact sub_nil | refine sub_cons rfl ?_) ?_)), trivial⟩⟩⟩ ?_))
     clear hK10
     refine aq_two (i := 6) (j := 9) (by kernel_rfl) rfl rfl (fun K11 hK11 => ?_) (fun K11 hK11 => ?_)
     ·refine ol_r (r_ldw rfl (fun w1 hb1 hs1 hB1 => show Loads _ _ _ _ (.int .i64 x20) from ld_own (id := 10) hs1 rfl rfl ty3 hx20)) rfl ?_
      refine ol_nil (to_k0 (fun _ _ h => h) (hK11 _ _ ⟨.inr (by repeat' first | exact subH_nil | refine subH_same rfl ?_ | (refine subH_blk rfl (by repeat' first | exact sub_nil | refine sub_cons rfl ?_) ?_)), ⟨.inr (by repeat' first | exact subH_nil | refine subH_same rfl ?_ | (refine subH_blk rfl (by repeat' first | exact sub_nil | refine sub_cons rfl ?_) ?_)), ⟨.inr (by repeat' first | exact subH_nil | refine subH_same rfl ?_ | (refine subH_blk rfl (by repeat' first | exact sub_nil | refine sub_cons rfl ?_) ?_)), trivial⟩⟩⟩ ?_))
      clear hK11
      refine aq_one (i := 9) (by kernel_rfl) rfl fun K12 hK12 => ?_
      refine ol_call rfl rfl cb120 rfl (fun w1 hb1 hs1 hB1 => Calls.mono (track_length x.1 x.2 _ hp hq) ?_)
      rintro e w2 ⟨rfl, hb2⟩
      refine After.below rfl hb1 hs1 hB1 hb2 ?_
      clear hb2 hB1 hs1 hb1 w2 w1
      refine ol_nil (to_k0 (fun _ _ h => h) (hK12 _ _ ⟨.inr (by repeat' first | exact subH_nil | refine subH_same rfl ?_ | (refine subH_blk rfl (by repeat' first | exact sub_nil | refine sub_cons rfl ?_) ?_)), ⟨.inr (by repeat' first | exact subH_nil | refine subH_same rfl ?_ | (refine subH_blk rfl (by repeat' first | exact sub_nil | refine sub_cons rfl ?_) ?_)), ⟨.inr (by repeat' first | exact subH_nil | refine subH_same rfl ?_ | (refine subH_blk rfl (by repeat' first | exact sub_nil | refine sub_cons rfl ?_) ?_)), trivial⟩⟩⟩ ?_))
      clear hK12
      have e19 : (((k + 1 : Nat) : Int) - 1).toNat = k := by omega
      rw [e19] at hx20
      have h20 := runW_get hx20
      subst h20
      refine aq_r 10 999 rfl (by kernel_rfl) (by kernel_rfl) (by kernel_rfl) (.head _) (by kernel_rfl) (by kernel_rfl) rfl (r_add rfl rfl (by omega)) ?_
      refine aq_one (i := 11) (by kernel_rfl) rfl fun K13 hK13 => ?_
      refine ol_bs1 26 rfl rfl rw61 rfl rfl rfl fun a26 => ?_
      refine ol_nil (to_k0 (fun _ _ h => h) (hK13 _ _ ⟨.inr (by repeat' first | exact subH_nil | refine subH_same rfl ?_ | (refine subH_blk rfl (by repeat' first | exact sub_nil | refine sub_cons rfl ?_) ?_)), ⟨.inr (by repeat' first | exact subH_nil | refine subH_same rfl ?_ | (refine subH_blk rfl (by repeat' first | exact sub_nil | refine sub_cons rfl ?_) ?_)), ⟨.inr (by repeat' first | exact subH_nil | refine subH_same rfl ?_ | (refine subH_blk rfl (by repeat' first | exact sub_nil | refine sub_cons rfl ?_) ?_)), trivial⟩⟩⟩ ?_))
      clear hK13
      refine aq_one (i := 12) (by kernel_rfl) rfl fun K14 hK14 => ?_
      refine ol_append1 (id := 10) (id2 := 26) rfl rfl rfl rfl rfl rw61 (by omega) rfl fun a27 c27 => ?_
      refine ol_nil (to_k0 (fun _ _ h => h) (hK14 _ _ ⟨.inr (by repeat' first | exact subH_nil | refine subH_same rfl ?_ | (refine subH_blk rfl (by repeat' first | exact sub_nil | refine sub_cons rfl ?_) ?_)), ⟨.inr (by repeat' first | exact subH_nil | refine subH_same rfl ?_ | (refine subH_blk rfl (by repeat' first | exact sub_nil | refine sub_cons rfl ?_) ?_)), ⟨.inl (by kernel_rfl), trivial⟩⟩⟩ ?_))
      clear hK14
      refine aq_one (i := 13) (by kernel_rfl) rfl fun K15 hK15 => ?_
      refine ol_store (id := 3) rfl rfl rfl rfl sz61 rfl rfl (by first | decide | exact Nat.zero_lt_succ _ | simp) ?_
      refine ol_nil (to_k0 (fun _ _ h => h) (hK15 _ _ ⟨.inr (by repeat' first | exact subH_nil | refine subH_same rfl ?_ | (refine subH_blk rfl (by repeat' first | exact sub_nil | refine sub_cons rfl ?_) ?_)), ⟨.inl (by kernel_rfl), ⟨.inl (by kernel_rfl), trivial⟩⟩⟩ ?_))
      clear hK15
      refine aq_done (by kernel_rfl) ?_
      refine (QP.of (hn ((_, _)) _ _ ?_ (by exact (subH_blk rfl (sub_cons rfl sub_nil) (subH_row rfl (by rw [runW_succ A.ss (k + 1), encI_snoc, wayN_succ hx]) subH_nil))) (subH_same rfl (subH_same rfl subH_nil))) (fun _ _ h => h))
      try dsimp only
      have := (List.getElem?_eq_some_iff.1 hx).1
      omega
     ·refine ol_call rfl rfl cb120 rfl (fun w1 hb1 hs1 hB1 => Calls.mono (track_length x.1 x.2 _ hp hq) ?_)
      rintro e w2 ⟨rfl, hb2⟩
      refine After.below rfl hb1 hs1 hB1 hb2 ?_
      clear hb2 hB1 hs1 hb1 w2 w1
      refine ol_nil (to_k0 (fun _ _ h => h) (hK11 _ _ ⟨.inr (by repeat' first | exact subH_nil | refine subH_same rfl ?_ | (refine subH_blk rfl (by repeat' first | exact sub_nil | refine sub_cons rfl ?_) ?_)), ⟨.inr (by repeat' first | exact subH_nil | refine subH_same rfl ?_ | (refine subH_blk rfl (by repeat' first | exact sub_nil | refine sub_cons rfl ?_) ?_)), ⟨.inr (by repeat' first | exact subH_nil | refine subH_same rfl ?_ | (refine subH_blk rfl (by repeat' first | exact sub_nil | refine sub_cons rfl ?_) ?_)), trivial⟩⟩⟩ ?_))
      clear hK11
      refine aq_one (i := 6) (by kernel_rfl) rfl fun K12 hK12 => ?_
      refine ol_r (r_ldw rfl (fun w1 hb1 hs1 hB1 => show Loads _ _ _ _ (.int .i64 x20) from ld_own (id := 10) hs1 rfl rfl ty3 hx20)) rfl ?_
      refine ol_nil (to_k0 (fun _ _ h => h) (hK12 _ _ ⟨.inr (by repeat' first | exact subH_nil | refine subH_same rfl ?_ | (refine subH_blk rfl (by repeat' first | exact sub_nil | refine sub_cons rfl ?_) ?_)), ⟨.inr (by repeat' first | exact subH_nil | refine subH_same rfl ?_ | (refine subH_blk rfl (by repeat' first | exact sub_nil | refine sub_cons rfl ?_) ?_)), ⟨.inr (by repeat' first | exact subH_nil | refine subH_same rfl ?_ | (refine subH_blk rfl (by repeat' first | exact sub_nil | refine sub_cons rfl ?_) ?_)), trivial⟩⟩⟩ ?_))
      clear hK12
      have e19 : (((k + 1 : Nat) : Int) - 1).toNat = k := by omega
      rw [e19] at hx20
      have h20 := runW_get hx20
      subst h20
      refine aq_r 10 999 rfl (by kernel_rfl) (by kernel_rfl) (by kernel_rfl) (.head _) (by kernel_rfl) (by kernel_rfl) rfl (r_add rfl rfl (by omega)) ?_
      refine aq_one (i := 11) (by kernel_rfl) rfl fun K13 hK13 => ?_
      refine ol_bs1 26 rfl rfl rw61 rfl rfl rfl fun a26 => ?_
      refine ol_nil (to_k0 (fun _ _ h => h) (hK13 _ _ ⟨.inr (by repeat' first | exact subH_nil | refine subH_same rfl ?_ | (refine subH_blk rfl (by repeat' first | exact sub_nil | refine sub_cons rfl ?_) ?_)), ⟨.inr (by repeat' first | exact subH_nil | refine subH_same rfl ?_ | (refine subH_blk rfl (by repeat' first | exact sub_nil | refine sub_cons rfl ?_) ?_)), ⟨.inr (by repeat' first | exact subH_nil | refine subH_same rfl ?_ | (refine subH_blk rfl (by repeat' first | exact sub_nil | refine sub_cons rfl ?_) ?_)), trivial⟩⟩⟩ ?_))
      clear hK13
      refine aq_one (i := 12) (by kernel_rfl) rfl fun K14 hK14 => ?_
      refine ol_append1 (id := 10) (id2 := 26) rfl rfl rfl rfl rfl rw61 (by omega) rfl fun a27 c27 => ?_
      refine ol_nil (to_k0 (fun _ _ h => h) (hK14 _ _ ⟨.inr (by repeat' first | exact subH_nil | refine subH_same rfl ?_ | (refine subH_blk rfl (by repeat' first | exact sub_nil | refine sub_cons rfl ?_) ?_)), ⟨.inr (by repeat' first | exact subH_nil | refine subH_same rfl ?_ | (refine subH_blk rfl (by repeat' first | exact sub_nil | refine sub_cons rfl ?_) ?_)), ⟨.inl (by kernel_rfl), trivial⟩⟩⟩ ?_))
      clear hK14
      refine aq_one (i := 13) (by kernel_rfl) rfl fun K15 hK15 => ?_
      refine ol_store (id := 3) rfl rfl rfl rfl sz61 rfl rfl (by first | decide | exact Nat.zero_lt_succ _ | simp) ?_
      refine ol_nil (to_k0 (fun _ _ h => h) (hK15 _ _ ⟨.inr (by repeat' first | exact subH_nil | refine subH_same rfl ?_ | (refine subH_blk rfl (by repeat' first | exact sub_nil | refine sub_cons rfl ?_) ?_)), ⟨.inl (by kernel_rfl), ⟨.inl (by kernel_rfl), trivial⟩⟩⟩ ?_))
      clear hK15
      refine aq_done (by kernel_rfl) ?_
      refine (QP.of (hn ((_, _)) _ _ ?_ (by exact (subH_blk rfl (sub_cons rfl sub_nil) (subH_row rfl (by rw [runW_succ A.ss (k + 1), encI_snoc, wayN_succ hx]) subH_nil))) (subH_same rfl (subH_same rfl subH_nil))) (fun _ _ h => h))
      try dsimp only
      have := (List.getElem?_eq_some_iff.1 hx).1
      omega
    ·refine ol_call rfl rfl cb120 rfl (fun w1 hb1 hs1 hB1 => Calls.mono (track_length x.1 x.2 _ hp hq) ?_)
     rintro e w2 ⟨rfl, hb2⟩
     refine After.below rfl hb1 hs1 hB1 hb2 ?_
     clear hb2 hB1 hs1 hb1 w2 w1
     refine ol_nil (to_k0 (fun _ _ h => h) (hK10 _ _ ⟨.inr (by repeat' first | exact subH_nil | refine subH_same rfl ?_ | (refine subH_blk rfl (by repeat' first | exact sub_nil | refine sub_cons rfl ?_) ?_)), ⟨.inr (by repeat' first | exact subH_nil | refine subH_same rfl ?_ | (refine subH_blk rfl (by repeat' first | exact sub_nil | refine sub_cons rfl ?_) ?_)), ⟨.inr (by repeat' first | exact subH_nil | refine subH_same rfl ?_ | (refine subH_blk rfl (by repeat' first | exact sub_nil | refine sub_cons rfl ?_) ?_)), trivial⟩⟩⟩ ?_))
     clear hK10
     refine aq_one (i := 5) (by kernel_rfl) rfl fun K11 hK11 => ?_
     refine ol_ixo (id := 10) encI _ rfl rfl rfl rfl sl61 (by omega) rfl fun x20 hx20 => ?_
     try simp only [Int.toNat_natCast] at hx20
     try simp only [Int.toNat_natCast] at hx20
     refine ol_nil (to_k0 (fun _ _ h => h) (hK11 _ _ ⟨.inr (by repeat' first | exact subH_nil | refine subH_same rfl ?_ | (refine subH_blk rfl (by repeat' first | exact sub_nil | refine sub_cons rfl ?_) ?_)), ⟨.inr (by repeat' first | exact subH_nil | refine subH_same rfl ?_ | (refine subH_blk rfl (by repeat' first | exact sub_nil | refine sub_cons rfl ?_) ?_)), ⟨.inr (by repeat' first | exact subH_nil | refine subH_same rfl ?_ | (refine subH_blk rfl (by repeat' first | exact sub_nil | refine sub_cons rfl ?_) ?_)), trivial⟩⟩⟩ ?_))
     clear hK11
     refine aq_one (i := 6) (by kernel_rfl) rfl fun K12 hK12 => ?_
     refine ol_r (r_ldw rfl (fun w1 hb1 hs1 hB1 => show Loads _ _ _ _ (.int .i64 x20) from ld_own (id := 10) hs1 rfl rfl ty3 hx20)) rfl ?_
     refine ol_nil (to_k0 (fun _ _ h => h) (hK12 _ _ ⟨.inr (by repeat' first | exact subH_nil | refine subH_same rfl ?_ | (refine subH_blk rfl (by repeat' first | exact sub_nil | refine sub_cons rfl ?_) ?_)), ⟨.inr (by repeat' first | exact subH_nil | refine subH_same rfl ?_ | (refine subH_blk rfl (by repeat' first | exact sub_nil | refine sub_cons rfl ?_) ?_)), ⟨.inr (by repeat' first | exact subH_nil | refine subH_same rfl ?_ | (refine subH_blk rfl (by repeat' first | exact sub_nil | refine sub_cons rfl ?_) ?_)), trivial⟩⟩⟩ ?_))
     clear hK12
     have e19 : (((k + 1 : Nat) : Int) - 1).toNat = k := by omega
     rw [e19] at hx20
     have h20 := runW_get hx20
     subst h20
     refine aq_r 10 999 rfl (by kernel_rfl) (by kernel_rfl) (by kernel_rfl) (.head _) (by kernel_rfl) (by kernel_rfl) rfl (r_add rfl rfl (by omega)) ?_
     refine aq_one (i := 11) (by kernel_rfl) rfl fun K13 hK13 => ?_
     refine ol_bs1 26 rfl rfl rw61 rfl rfl rfl fun a26 => ?_
     refine ol_nil (to_k0 (fun _ _ h => h) (hK13 _ _ ⟨.inr (by repeat' first | exact subH_nil | refine subH_same rfl ?_ | (refine subH_blk rfl (by repeat' first | exact sub_nil | refine sub_cons rfl ?_) ?_)), ⟨.inr (by repeat' first | exact subH_nil | refine subH_same rfl ?_ | (refine subH_blk rfl (by repeat' first | exact sub_nil | refine sub_cons rfl ?_) ?_)), ⟨.inr (by repeat' first | exact subH_nil | refine subH_same rfl ?_ | (refine subH_blk rfl (by repeat' first | exact sub_nil | refine sub_cons rfl ?_) ?_)), trivial⟩⟩⟩ ?_))
     clear hK13
     refine aq_one (i := 12) (by kernel_rfl) rfl fun K14 hK14 => ?_
     refine ol_append1 (id := 10) (id2 := 26) rfl rfl rfl rfl rfl rw61 (by omega) rfl fun a27 c27 => ?_
     refine ol_nil (to_k0 (fun _ _ h => h) (hK14 _ _ ⟨.inr (by repeat' first | exact subH_nil | refine subH_same rfl ?_ | (refine subH_blk rfl (by repeat' first | exact sub_nil | refine sub_cons rfl ?_) ?_)), ⟨.inr (by repeat' first | exact subH_nil | refine subH_same rfl ?_ | (refine subH_blk rfl (by repeat' first | exact sub_nil | refine sub_cons rfl ?_) ?_)), ⟨.inl (by kernel_rfl), trivial⟩⟩⟩ ?_))
     clear hK14
     refine aq_one (i := 13) (by kernel_rfl) rfl fun K15 hK15 => ?_
     refine ol_store (id := 3) rfl rfl rfl rfl sz61 rfl rfl (by first | decide | exact Nat.zero_lt_succ _ | simp) ?_
     refine ol_nil (to_k0 (fun _ _ h => h) (hK15 _ _ ⟨.inr (by repeat' first | exact subH_nil | refine subH_same rfl ?_ | (refine subH_blk rfl (by repeat' first | exact sub_nil | refine sub_cons rfl ?_) ?_)), ⟨.inl (by kernel_rfl), ⟨.inl (by kernel_rfl), trivial⟩⟩⟩ ?_))
     clear hK15
     refine aq_done (by kernel_rfl) ?_
     refine (QP.of (hn ((_, _)) _ _ ?_ (by exact (subH_blk rfl (sub_cons rfl sub_nil) (subH_row rfl (by rw [runW_succ A.ss (k + 1), encI_snoc, wayN_succ hx]) subH_nil))) (subH_same rfl (subH_same rfl subH_nil))) (fun _ _ h => h))
     try dsimp only
     have := (List.getElem?_eq_some_iff.1 hx).1
     omega
   ·rintro s dd hI
    refine (to_k0 (fun _ _ h => h) (hK6 _ _ _ _ _ ?_))
    clear hK6
    refine wp_seq' fun K16 hK16 => ?_
    refine wp_reg ?_
    refine ol_r (r_ld (id := 3) rfl rfl rfl sc61) rfl ?_
    refine ol_r (r_assign rfl) rfl ?_
    refine ol_nil (to_k0 (fun _ _ h => h) (hK16 _ _ _ _ _ ?_))
    clear hK16
    refine hQ.ret (rvs1 (rv_t rfl)) (fun _ _ h => h) fun w hb hs hB hkd => ?_
    first
      | (have h1 : (stepsL A.ss).length + 1 = A.ss.length := by omega
         refine ⟨_, _, _, rfl, hb, ?_⟩
         have h2 := hs.ok 10 _ rfl
         rw [show wayL A.ss = runW A.ss ((stepsL A.ss).length + 1) by rw [h1]; rfl]
         exact h2)
   ·exact fun t dd hI => hI.elim
theorem wayN_pred {ss : List SmpR} {k : Nat} {x y : SmpR} (hx : ss[((k:Int) - 1).toNat]? = some x) (hy : ss[k]? = some y) (hk : 0 < (k:Int)) : wayN ss k = wayN ss (k - 1) + lenD x y := by
  obtain ⟨j, rfl⟩ : ∃ j, k = j + 1 := ⟨k - 1, by omega⟩
  have e : (((j + 1 : Nat) : Int) - 1).toNat = j := by omega
  rw [e] at hx
  exact wayN_succ (stepsL_get hx hy)
theorem wayN_0 {ss : List SmpR} {k : Nat} (hk : ¬0 < (k:Int)) : wayN ss k = wayN ss (k - 1) := by
  have : k = 0 := by omega
  subst this; rfl
end Go.Proofs.Ytfbmkepogcimlaa

/-
  What the document tells of ways and climbs.
-/



namespace Go.Proofs.Ytfbmkepogcimlaa
open Go Go.RowKit Hx
set_option linter.unusedVariables false
set_option linter.unusedSimpArgs false
set_option maxRecDepth 8000
theorem enc_snoc {α : Type} (E : Enc α) (xs : List α) (x : α) : E.enc (xs ++ [x]) = E.enc xs ++ E.cells x := by rw [Enc.enc_append]; simp [Enc.enc]
def hillS : List SmpR := [⟨0, 0, 0, 0, -1, -1, -1⟩, ⟨1, 30, 40, 12, -1, -1, -1⟩, ⟨2, 60, 80, 2, -1, -1, -1⟩, ⟨3, 90, 120, 15, -1, -1, -1⟩]
def hillA (a : Option Addr) (c : Nat) : ActV := ⟨⟨#[97]⟩, 1, 0, a, 4, c, none, 0, 0, none, 0, 0, hillS, [], []⟩
theorem hill_ok {C : Nat} {w : World} {a : Option Addr} {c : Nat} (h : Rd encSmp C w a 4 c hillS) : (hillA a c).Ok C w :=
  { s := h, l := Rd.nil, t := Rd.nil, nm := by show 1 ≤ _; decide, lm := fun x hx => by simp [hillA] at hx, tm := fun x hx => by simp [hillA] at hx,
    lo := fun x hx => by simp [hillA, hillS] at hx; rcases hx with rfl | rfl | rfl | rfl <;> decide }
theorem hill_get {k : Nat} {z : Int} (hk : k < 4) (hz : ([0, 12, 2, 15] : List Int)[k]? = some z) : hillS[k]? = some ⟨k, 30 * k, 40 * k, z, -1, -1, -1⟩ := by
  match k, hk with
  | 0, _ => cases hz; rfl
  | 1, _ => cases hz; rfl
  | 2, _ => cases hz; rfl
  | 3, _ => cases hz; rfl
def hillD : ActD := ⟨⟨#[97]⟩, 1, 0, hillS, [], []⟩
theorem hill_chk (a : Option Addr) (c : Nat) : chkA (hillA a c).d = 0 := by
  show chkA hillD = 0
  decide +kernel
theorem hill_climb (a : Option Addr) (c : Nat) : climbR (hillA a c).d 11 = ((15, 0, 0), 0) := by
  rw [climbR_z (hill_chk a c) (by omega) (by show ¬hillD.ss.length < 2; decide)]
  show (zigR 11 hillS, (0:Int)) = _
  decide +kernel
theorem hill_ways (a : Option Addr) (c : Nat) : waysR (hillA a c).d = ([0, 50, 100, 150], 0) := by
  rw [waysR_0 (by rw [hill_chk a c]; simp)]
  have hr : rootI 2500 = 50 := rootI_eq (by unfold IsRoot; omega)
  have h0 : wayN hillS 0 = 0 := wayN_zero _
  have h1 : wayN hillS 1 = 50 := by rw [wayN_succ (p := (⟨0, 0, 0, 0, -1, -1, -1⟩, ⟨1, 30, 40, 12, -1, -1, -1⟩)) rfl, h0]; unfold lenD; rw [show sqD _ _ = 2500 from by decide, hr]; rfl
  have h2 : wayN hillS 2 = 100 := by rw [wayN_succ (p := (⟨1, 30, 40, 12, -1, -1, -1⟩, ⟨2, 60, 80, 2, -1, -1, -1⟩)) rfl, h1]; unfold lenD; rw [show sqD _ _ = 2500 from by decide, hr]; rfl
  have h3 : wayN hillS 3 = 150 := by rw [wayN_succ (p := (⟨2, 60, 80, 2, -1, -1, -1⟩, ⟨3, 90, 120, 15, -1, -1, -1⟩)) rfl, h2]; unfold lenD; rw [show sqD _ _ = 2500 from by decide, hr]; rfl
  show (wayL hillS, (0:Int)) = _
  unfold wayL runW
  show ([wayN hillS 0, wayN hillS 1, wayN hillS 2, wayN hillS 3], (0:Int)) = _
  rw [h0, h1, h2, h3]
theorem track_Ways (A : ActV) (w : World) (hA : A.Ok w.heap.size w) :
    Calls Try.prog 57 #[.agg #[.string A.name, .int .i64 A.sport, .int .i64 A.start, .slice A.sa A.sn A.sc, .slice A.la A.ln A.lc, .slice A.ta A.tn A.tc]] w fun e w' => ∃ b m k, e = .returned (.tuple #[.slice b m k, .int .i64 (waysR A.d).2]) ∧ Fresh encI 3 w w' b m k (waysR A.d).1 := by
  refine enterQ (N := 12) (C := fun _ => True) (H := []) (B := w.heap.size) (args := [_]) Try.func57 rfl rfl rfl (Nat.le_refl _) (Sat.nil _ _) fun Q hQ => ?_
  refine wp_seq' fun K1 hK1 => ?_
  refine wp_reg ?_
  refine ol_box 1 rfl rfl rfl fun b1 => ?_
  refine ol_r (r_assign rfl) rfl ?_
  refine ol_r (r_assign rfl) rfl ?_
  refine ol_nil (to_k0 (fun _ _ h => h) (hK1 _ _ _ _ _ ?_))
  clear hK1
  refine wp_seq' fun K2 hK2 => ?_
  refine wp_seq' fun K3 hK3 => ?_
  refine wp_reg ?_
  refine ol_r (r_lda (id := 1) (n := 6) rfl rfl rfl ag57) rfl ?_
  refine ol_call rfl rfl cb20 rfl (fun w1 hb1 hs1 hB1 => Calls.mono (record_Check A _ (hA.at hb1 hB1)) ?_)
  rintro e w2 ⟨rfl, hb2⟩
  refine After.below rfl hb1 hs1 hB1 hb2 ?_
  clear hb2 hB1 hs1 hb1 w2 w1
  refine ol_r (r_assign rfl) rfl ?_
  refine ol_nil (to_k0 (fun _ _ h => h) (hK3 _ _ _ _ _ ?_))
  clear hK3
  refine wp_seq' fun K4 hK4 => ?_
  refine wp_reg ?_
  refine ol_r (r_move rfl) rfl ?_
  refine ol_r (r_neq rfl rfl) rfl ?_
  refine ol_nil (to_k0 (fun _ _ h => h) (hK4 _ _ _ _ _ ?_))
  clear hK4
  refine wp_condD rfl (fun hc8 => ?_) (fun hc8 => ?_)
  ·refine wp_seq' fun K5 hK5 => ?_
   refine wp_reg ?_
   refine ol_r (r_move rfl) rfl ?_
   refine ol_r (r_assign rfl) rfl ?_
   refine ol_r (r_assign rfl) rfl ?_
   refine ol_nil (to_k0 (fun _ _ h => h) (hK5 _ _ _ _ _ ?_))
   clear hK5
   refine hQ.ret (rvs2 (rv_t rfl) (rv_t rfl)) (fun _ _ h => h) fun w hb hs hB hkd => ?_
   first
     | (have h := waysR_e hc8
        exact ⟨none, 0, 0, by rw [h], by rw [h]; exact Fresh.nil hb⟩)
  ·refine wp_skip' (to_k0 (fun _ _ h => h) (hK2 _ _ _ _ _ ?_))
   clear hK2
   refine wp_seq' fun K6 hK6 => ?_
   refine wp_reg ?_
   have hw := waysR_0 hc8
   have hok : SmpOk A.start A.ss := (goodA (Decidable.not_not.1 hc8)).smp
   refine ol_r (r_lda (id := 1) (n := 6) rfl rfl rfl ag57) rfl ?_
   refine ol_call rfl rfl cb84 rfl (fun w1 hb1 hs1 hB1 => Calls.mono (track_ways A _ (hA.at hb1 hB1) hok) ?_)
   rintro e w2 ⟨a11, n11, c11, rfl, hf11⟩
   refine After.fresh (id := 11) rfl hb1 hs1 hB1 hf11 ?_
   have hl11 := hf11.len; clear hf11 hB1 hs1 hb1 w2 w1
   refine ol_r (r_assign rfl) rfl ?_
   refine ol_r (r_assign rfl) rfl ?_
   refine ol_nil (to_k0 (fun _ _ h => h) (hK6 _ _ _ _ _ ?_))
   clear hK6
   refine hQ.ret (rvs2 (rv_t rfl) (rv_t rfl)) (fun _ _ h => h) fun w hb hs hB hkd => ?_
   first
     | (exact ⟨_, _, _, by rw [hw], by rw [hw]; exact ⟨hb, hs.ok 11 _ rfl⟩⟩)
end Go.Proofs.Ytfbmkepogcimlaa

/-
  At and Resample: program and reference; TrackAtMatchesSpec.
-/




namespace Go.Proofs.Ytfbmkepogcimlaa
open Go Go.RowKit Hx
set_option linter.unusedVariables false
set_option linter.unusedSimpArgs false
set_option maxRecDepth 8000
theorem re_row {ss : List SmpR} {step : Int} {k : Nat} {t : Int} (ht : t = (k : Int) * step) : encSmp.enc (reL ss step (k + 1)) = encSmp.enc (reL ss step k) ++ encSmp.cells (whereV ss t) := by
  subst ht
  rw [reL_succ, Enc.enc_append]
  simp [Enc.enc]
theorem re_next {t step : Int} {k : Nat} (h : t = (k : Int) * step) : t + step = ((k + 1 : Nat) : Int) * step := by
  rw [h, show ((k + 1 : Nat) : Int) = (k : Int) + 1 by omega, Int.add_mul, Int.one_mul]
theorem reN_bd {ss : List SmpR} {step : Int} (hs : 1 ≤ step) (h0 : 0 ≤ spanL ss) (h : ¬20000 < (spanL ss + step - 1) / step + 1) : reN ss step ≤ 20000 := by
  unfold reN
  omega
theorem resD_eq {a : ActD} {step : Int} (h : a.ss.length ≠ 0) : resD a step = ⟨a.name, a.sport, a.start, reL a.ss step (reN a.ss step) ++ [whereV a.ss (spanL a.ss)], a.ls, a.ts⟩ := if_neg h
theorem resD_nil {a : ActD} {step : Int} (h : a.ss.length = 0) : resD a step = a := if_pos h
theorem re_end {A : ActV} {step : Int} {B : Nat} {w' : World} {a la ta : Option Addr} {n c ln lc tn tc : Nat} (h : resR A.d step = (resD A.d step, 0)) (hl : A.ss.length ≠ 0)
    (hs : Sat B w' [(1001, .row a n c (encSmp.enc (reL A.ss step (reN A.ss step)) ++ encSmp.cells (whereV A.ss (spanL A.ss))) 70 7), (1002, .row la ln lc (encLap.enc A.ls) 110 3), (1003, .row ta tn tc (encStr.enc A.ts) 9 1)]) :
    OutA B w' (resR A.d step) (.returned (.tuple #[.agg #[.string A.name, .int .i64 A.sport, .int .i64 A.start, .slice a n c, .slice la ln lc, .slice ta tn tc], .int .i64 0])) := by
  have e : encSmp.enc (reL A.ss step (reN A.ss step) ++ [whereV A.ss (spanL A.ss)]) = encSmp.enc (reL A.ss step (reN A.ss step)) ++ encSmp.cells (whereV A.ss (spanL A.ss)) := by rw [Enc.enc_append]; simp [Enc.enc]
  rw [h, resD_eq (show A.d.ss.length ≠ 0 from hl)]
  refine ⟨a, n, c, la, ln, lc, ta, tn, tc, rfl, ?_⟩
  rw [← e] at hs
  exact hs
theorem re_nil {A : ActV} {step : Int} {B : Nat} {w' : World} {a la ta : Option Addr} {n c ln lc tn tc : Nat} (h : resR A.d step = (resD A.d step, 0)) (hl : A.ss.length = 0)
    (hs : Sat B w' [(1001, .row a n c [] 70 7), (1002, .row la ln lc (encLap.enc A.ls) 110 3), (1003, .row ta tn tc (encStr.enc A.ts) 9 1)]) :
    OutA B w' (resR A.d step) (.returned (.tuple #[.agg #[.string A.name, .int .i64 A.sport, .int .i64 A.start, .slice a n c, .slice la ln lc, .slice ta tn tc], .int .i64 0])) := by
  have hss : A.ss = [] := List.length_eq_zero_iff.1 hl
  rw [h, resD_nil (show A.d.ss.length = 0 from hl)]
  refine ⟨a, n, c, la, ln, lc, ta, tn, tc, rfl, ?_⟩
  have e : encSmp.enc A.d.ss = [] := by rw [show A.d.ss = [] from hss]; rfl
  rw [e]
  exact hs
end Go.Proofs.Ytfbmkepogcimlaa

/-
  Cut: program and reference; TrackCutMatchesSpec.
-/

namespace Go.Proofs.Ytfbmkepogcimlaa
open Go Go.RowKit Hx
set_option linter.unusedVariables false
set_option linter.unusedSimpArgs false
set_option maxRecDepth 8000
theorem innL_in {f t : Int} {l : List SmpR} : ∀ x ∈ innL f t l, x ∈ l := fun x h => (List.mem_filter.1 h).1
theorem cut_bd {st : Int} {ss : List SmpR} (hok : SmpOk st ss) {f t : Int} (hf : 0 ≤ f) (hft : f < t) (ht : t ≤ spanL ss) (hn : 0 < ss.length) : (∀ x ∈ cutL ss f t, -1000000000 ≤ x.at_ ∧ x.at_ ≤ 1000000000) ∧ (cutL ss f t).length ≤ 1000000 := by
  have hsp := hok.span
  have h1 := (whereV_bd hok (t := f) hf (by omega) hn).1
  have h2 := (whereV_bd hok (t := t) (by omega) ht hn).1
  have h3 := innL_len f t ss
  have h4 := hok.len
  refine ⟨fun x hx => ?_, ?_⟩
  · unfold cutL at hx
    rcases List.mem_append.1 hx with h | h
    · rcases List.mem_cons.1 h with h | h
      · subst h; omega
      · have := hok.bd x (innL_in x h); omega
    · simp at h; subst h; omega
  · unfold cutL
    simp
    omega
theorem cut_row {ss : List SmpR} {f t : Int} {k : Nat} {x : SmpR} (h : ss[k]? = some x) (hx : f < x.at_ ∧ x.at_ < t) : encSmp.enc (whereV ss f :: innL f t (ss.take (k + 1))) = encSmp.enc (whereV ss f :: innL f t (ss.take k)) ++ encSmp.cells x := by
  rw [innL_yes h hx, ← List.cons_append, Enc.enc_append]
  simp [Enc.enc]
theorem cut_end {ss : List SmpR} {f t : Int} {k : Nat} (h : ss.length ≤ k) : encSmp.enc (whereV ss f :: innL f t (ss.take k)) ++ encSmp.cells (whereV ss t) = encSmp.enc (cutL ss f t) := by
  rw [List.take_of_length_le h, cutL, Enc.enc_append]
  simp [Enc.enc]
theorem cut_len {ss : List SmpR} {f t : Int} {k : Nat} (h : ss.length ≤ k) : (innL f t (ss.take k)).length + 1 + 1 = (cutL ss f t).length := by
  rw [List.take_of_length_le h, cutL]; simp
theorem track_Cut (A : ActV) (f t : Int) (w : World) (hA : A.Ok w.heap.size w) :
    Calls Try.prog 17 #[.agg #[.string A.name, .int .i64 A.sport, .int .i64 A.start, .slice A.sa A.sn A.sc, .slice A.la A.ln A.lc, .slice A.ta A.tn A.tc], .int .i64 f, .int .i64 t] w fun e w' => OutA w.heap.size w' (cutR A.d f t) e ∧ Below w.heap.size w w' := by
  have hsn := hA.s.len
  refine enterQ (N := 76) (C := fun _ => True) (H := []) (B := w.heap.size) (args := [_, _, _]) Try.func17 rfl rfl rfl (Nat.le_refl _) (Sat.nil _ _) fun Q hQ => ?_
  refine wp_seq' fun K1 hK1 => ?_
  refine wp_reg ?_
  refine ol_box 3 rfl rfl rfl fun b3 => ?_
  refine ol_alloc 6 z57 rfl fun b6 => ?_
  refine ol_r (r_assign rfl) rfl ?_
  refine ol_nil (to_k0 (fun _ _ h => h) (hK1 _ _ _ _ _ ?_))
  clear hK1
  refine wp_seq' fun K2 hK2 => ?_
  refine wp_seq' fun K3 hK3 => ?_
  refine wp_reg ?_
  refine ol_r (r_lda (id := 3) (n := 6) rfl rfl rfl ag57) rfl ?_
  refine ol_call rfl rfl cb20 rfl (fun w1 hb1 hs1 hB1 => Calls.mono (record_Check A _ (hA.at hb1 hB1)) ?_)
  rintro e w2 ⟨rfl, hb2⟩
  refine After.below rfl hb1 hs1 hB1 hb2 ?_
  clear hb2 hB1 hs1 hb1 w2 w1
  refine ol_r (r_assign rfl) rfl ?_
  refine ol_nil (to_k0 (fun _ _ h => h) (hK3 _ _ _ _ _ ?_))
  clear hK3
  refine wp_seq' fun K4 hK4 => ?_
  refine wp_reg ?_
  refine ol_r (r_move rfl) rfl ?_
  refine ol_r (r_neq rfl rfl) rfl ?_
  refine ol_nil (to_k0 (fun _ _ h => h) (hK4 _ _ _ _ _ ?_))
  clear hK4
  refine wp_condD rfl (fun hc15 => ?_) (fun hc15 => ?_)
  ·refine wp_seq' fun K5 hK5 => ?_
   refine wp_reg ?_
   refine ol_r (r_build rfl (fun _ => bd57 _)) rfl ?_
   refine ol_r (r_move rfl) rfl ?_
   refine ol_store (id := 6) rfl rfl rfl rfl sz57 rfl rfl (by first | decide | exact Nat.zero_lt_succ _ | simp) ?_
   refine ol_r (r_assign rfl) rfl ?_
   refine ol_nil (to_k0 (fun _ _ h => h) (hK5 _ _ _ _ _ ?_))
   clear hK5
   refine hQ.ret (rvs2 (rv_c (id := 6) (n := 6) rfl rfl ag57 rfl) (rv_t rfl)) (fun _ _ h => h) fun w hb hs hB hkd => ?_
   exact ⟨outA_no (cutR_e hc15), hb⟩
  ·refine wp_skip' (to_k0 (fun _ _ h => h) (hK2 _ _ _ _ _ ?_))
   clear hK2
   refine wp_seq' fun K6 hK6 => ?_
   refine wp_block' ?_
   refine wp_seq' fun K7 hK7 => ?_
   refine wp_reg ?_
   refine ol_r (r_fa (o' := 3) rfl fl57_3 rfl) rfl ?_
   refine ol_r (r_ld (id := 3) rfl rfl rfl sc53) rfl ?_
   refine ol_r (r_len rfl sl53) rfl ?_
   refine ol_r (r_eql rfl rfl) rfl ?_
   refine ol_r (r_assign rfl) rfl ?_
   refine ol_nil (to_k0 (fun _ _ h => h) (hK7 _ _ _ _ _ ?_))
   clear hK7
   refine wp_condD rfl (fun hc18 => ?_) (fun hc18 => ?_)
   ·refine wp_seq' fun K8 hK8 => ?_
    refine wp_reg ?_
    refine ol_r (r_build rfl (fun _ => bd57 _)) rfl ?_
    refine ol_store (id := 6) rfl rfl rfl rfl sz57 rfl rfl (by first | decide | exact Nat.zero_lt_succ _ | simp) ?_
    refine ol_r (r_assign rfl) rfl ?_
    refine ol_nil (to_k0 (fun _ _ h => h) (hK8 _ _ _ _ _ ?_))
    clear hK8
    refine hQ.ret (rvs2 (rv_c (id := 6) (n := 6) rfl rfl ag57 rfl) (rv_t rfl)) (fun _ _ h => h) fun w hb hs hB hkd => ?_
    exact ⟨outA_no (cutR_13 (Decidable.not_not.1 hc15) (by show A.ss.length = 0; omega)), hb⟩
   ·refine wp_seq' fun K9 hK9 => ?_
    refine wp_reg ?_
    refine ol_r (r_move rfl) rfl ?_
    refine ol_r (r_lss rfl rfl) rfl ?_
    refine ol_r (r_move rfl) rfl ?_
    refine ol_split (d := 27) rfl (fun hs27 => ?_) (fun hs27 => ?_)
    ·have phs27 := hs27; try simp only [decide_eq_true_eq, decide_eq_false_iff_not, Bool.not_eq_true', Bool.not_eq_false', Bool.not_true, Bool.not_false] at phs27
     refine ol_s rfl rfl hs27 rfl ?_
     refine ol_s rfl rfl hs27 rfl ?_
     refine ol_s rfl rfl hs27 rfl ?_
     refine ol_r (r_pickT rfl hs27 rfl) rfl ?_
     refine ol_r (r_move rfl) rfl ?_
     refine ol_s rfl rfl rfl rfl ?_
     refine ol_s rfl rfl rfl rfl ?_
     refine ol_s rfl rfl rfl rfl ?_
     refine ol_s rfl rfl rfl rfl ?_
     refine ol_r (r_pickT rfl rfl rfl) rfl ?_
     refine ol_r (r_assign rfl) rfl ?_
     refine ol_nil (to_k0 (fun _ _ h => h) (hK9 _ _ _ _ _ ?_))
     clear hK9
     refine wp_condT rfl ?_
     refine wp_seq' fun K10 hK10 => ?_
     refine wp_reg ?_
     refine ol_r (r_build rfl (fun _ => bd57 _)) rfl ?_
     refine ol_store (id := 6) rfl rfl rfl rfl sz57 rfl rfl (by first | decide | exact Nat.zero_lt_succ _ | simp) ?_
     refine ol_r (r_assign rfl) rfl ?_
     refine ol_nil (to_k0 (fun _ _ h => h) (hK10 _ _ _ _ _ ?_))
     clear hK10
     refine hQ.ret (rvs2 (rv_c (id := 6) (n := 6) rfl rfl ag57 rfl) (rv_t rfl)) (fun _ _ h => h) fun w hb hs hB hkd => ?_
     exact ⟨outA_no (cutR_9 (Decidable.not_not.1 hc15) (by show A.ss.length ≠ 0; omega) (.inl phs27)), hb⟩
    ·have phs27 := hs27; try simp only [decide_eq_true_eq, decide_eq_false_iff_not, Bool.not_eq_true', Bool.not_eq_false', Bool.not_true, Bool.not_false] at phs27
     refine ol_g rfl rfl hs27 ?_
     refine ol_r (r_move rfl) rfl ?_
     refine ol_g rfl rfl hs27 ?_
     refine ol_r (r_move rfl) rfl ?_
     refine ol_g rfl rfl hs27 ?_
     refine ol_r (r_geq rfl rfl) rfl ?_
     refine ol_r (r_pickF rfl hs27 rfl) rfl ?_
     refine ol_r (r_move rfl) rfl ?_
     refine ol_split (d := 32) rfl (fun hs32 => ?_) (fun hs32 => ?_)
     ·have phs32 := hs32; try simp only [decide_eq_true_eq, decide_eq_false_iff_not, Bool.not_eq_true', Bool.not_eq_false', Bool.not_true, Bool.not_false] at phs32
      refine ol_s rfl rfl hs32 rfl ?_
      refine ol_s rfl rfl hs32 rfl ?_
      refine ol_s rfl rfl hs32 rfl ?_
      refine ol_s rfl rfl hs32 rfl ?_
      refine ol_r (r_pickT rfl hs32 rfl) rfl ?_
      refine ol_r (r_assign rfl) rfl ?_
      refine ol_nil (to_k0 (fun _ _ h => h) (hK9 _ _ _ _ _ ?_))
      clear hK9
      refine wp_condT rfl ?_
      refine wp_seq' fun K11 hK11 => ?_
      refine wp_reg ?_
      refine ol_r (r_build rfl (fun _ => bd57 _)) rfl ?_
      refine ol_store (id := 6) rfl rfl rfl rfl sz57 rfl rfl (by first | decide | exact Nat.zero_lt_succ _ | simp) ?_
      refine ol_r (r_assign rfl) rfl ?_
      refine ol_nil (to_k0 (fun _ _ h => h) (hK11 _ _ _ _ _ ?_))
      clear hK11
      refine hQ.ret (rvs2 (rv_c (id := 6) (n := 6) rfl rfl ag57 rfl) (rv_t rfl)) (fun _ _ h => h) fun w hb hs hB hkd => ?_
      exact ⟨outA_no (cutR_9 (Decidable.not_not.1 hc15) (by show A.ss.length ≠ 0; omega) (.inr (.inl phs32))), hb⟩
     ·have phs32 := hs32; try simp only [decide_eq_true_eq, decide_eq_false_iff_not, Bool.not_eq_true', Bool.not_eq_false', Bool.not_true, Bool.not_false] at phs32
      refine ol_g rfl rfl hs32 ?_
      refine ol_r (r_move rfl) rfl ?_
      refine ol_g rfl rfl hs32 ?_
      refine ol_r (r_lda (id := 3) (n := 6) rfl rfl rfl ag57) rfl ?_
      refine ol_g rfl rfl hs32 ?_
      refine ol_call rfl rfl cb41 rfl (fun w1 hb1 hs1 hB1 => Calls.mono (record_Span A _ (hA.at hb1 hB1)) ?_)
      rintro e w2 ⟨rfl, hb2⟩
      refine After.below rfl hb1 hs1 hB1 hb2 ?_
      clear hb2 hB1 hs1 hb1 w2 w1
      refine ol_g rfl rfl hs32 ?_
      refine ol_r (r_gtr rfl rfl) rfl ?_
      refine ol_r (r_pickF rfl hs32 rfl) rfl ?_
      refine ol_r (r_assign rfl) rfl ?_
      refine ol_nil (to_k0 (fun _ _ h => h) (hK9 _ _ _ _ _ ?_))
      clear hK9
      refine wp_condD rfl (fun hc24 => ?_) (fun hc24 => ?_)
      ·refine wp_seq' fun K12 hK12 => ?_
       refine wp_reg ?_
       refine ol_r (r_build rfl (fun _ => bd57 _)) rfl ?_
       refine ol_store (id := 6) rfl rfl rfl rfl sz57 rfl rfl (by first | decide | exact Nat.zero_lt_succ _ | simp) ?_
       refine ol_r (r_assign rfl) rfl ?_
       refine ol_nil (to_k0 (fun _ _ h => h) (hK12 _ _ _ _ _ ?_))
       clear hK12
       refine hQ.ret (rvs2 (rv_c (id := 6) (n := 6) rfl rfl ag57 rfl) (rv_t rfl)) (fun _ _ h => h) fun w hb hs hB hkd => ?_
       exact ⟨outA_no (cutR_9 (Decidable.not_not.1 hc15) (by show A.ss.length ≠ 0; omega) (.inr (.inr hc24))), hb⟩
      ·refine wp_skip' (to_k0 (fun _ _ h => h) (hK6 _ _ _ _ _ ?_))
       clear hK6
       refine wp_seq' fun K13 hK13 => ?_
       refine wp_reg ?_
       have h0 : chkA A.d = 0 := Decidable.not_not.1 hc15
       have hg := goodA h0
       have hok : SmpOk A.start A.ss := hg.smp
       have hl20 := hok.len
       have hsp := hok.span
       have hcb := cut_bd hok (f := f) (t := t) (by omega) (by omega) (by omega) (by omega)
       refine ol_r (r_lda (id := 3) (n := 6) rfl rfl rfl ag57) rfl ?_
       refine ol_r (r_move rfl) rfl ?_
       refine ol_call rfl rfl cb42 rfl (fun w1 hb1 hs1 hB1 => Calls.mono (track_Where A f _ (hA.at hb1 hB1) hok (by omega) (by omega)) ?_)
       rintro e w2 ⟨rfl, hb2⟩
       refine After.below rfl hb1 hs1 hB1 hb2 ?_
       clear hb2 hB1 hs1 hb1 w2 w1
       refine ol_bs1 42 rfl rfl rw53 rfl rfl rfl fun a42 => ?_
       refine ol_r (r_assign rfl) rfl ?_
       refine ol_nil (to_k0 (fun _ _ h => h) (hK13 _ _ _ _ _ ?_))
       clear hK13
       refine wp_seq' fun K14 hK14 => ?_
       refine wp_seq' fun K15 hK15 => ?_
       refine wp_reg ?_
       refine ol_r (r_fa (o' := 3) rfl fl57_3 rfl) rfl ?_
       refine ol_r (r_ld (id := 3) rfl rfl rfl sc53) rfl ?_
       refine ol_r (r_len rfl sl53) rfl ?_
       refine ol_r (r_move rfl) rfl ?_
       refine ol_nil (to_k0 (fun _ _ h => h) (hK15 _ _ _ _ _ ?_))
       clear hK15
       refine wp_block' ?_
       apply wp_loopM (σ := Nat × Nat × Option Addr × Nat) (fun s => s.1 ≤ A.ss.length ∧ s.2.1 = (innL f t (A.ss.take s.1)).length + 1) (fun s => [(46, .int .i64 s.1), (9, .slice s.2.2.1 s.2.1 s.2.2.2)]) [(1, _), (2, _), (3, _), (6, _), (7, _), (44, _), (45, _)] (fun s => [(42, .row s.2.2.1 s.2.1 s.2.2.2 (encSmp.enc (whereV A.ss f :: innL f t (A.ss.take s.1))) 70 7)]) [(3, _), (6, _)] (fun s => A.ss.length - s.1) ((0, 1, _, 1))
       ·try dsimp only
        exact ⟨Nat.zero_le _, rfl⟩
       ·exact (sub_cons rfl (sub_cons rfl sub_nil))
       ·exact (sub_cons rfl (sub_cons rfl (sub_cons rfl (sub_cons rfl (sub_cons rfl (sub_cons rfl (sub_cons rfl sub_nil)))))))
       ·exact (subH_row rfl (by dsimp only; rfl) subH_nil)
       ·exact (subH_same rfl (subH_same rfl subH_nil))
       ·rintro ⟨k, cnt, oa, oc⟩ ⟨hk, hcnt⟩
        dsimp only at hk hcnt ⊢
        have hil := innL_len f t (A.ss.take k)
        rw [List.length_take] at hil
        intro K16 hK16
        refine wp_seq' fun K17 hK17 => ?_
        refine wp_reg ?_
        refine ol_r (r_lss rfl rfl) rfl ?_
        refine ol_nil (to_k0 (fun _ _ h => h) (hK17 _ _ _ _ _ ?_))
        clear hK17
        refine wp_seq' fun K18 hK18 => ?_
        refine wp_condD rfl (fun hc47 => ?_) (fun hc47 => ?_)
        ·refine wp_skip' (to_k0 (fun _ _ h => h) (hK18 _ _ _ _ _ ?_))
         clear hK18
         refine wp_seq' fun K19 hK19 => ?_
         refine wp_block' ?_
         refine wp_seq' fun K20 hK20 => ?_
         refine wp_reg ?_
         refine ol_ixr hA.s rfl rfl sl53 (by omega) rfl fun x48 hx48 => ?_
         try simp only [Int.toNat_natCast] at hx48
         refine ol_r (r_ldw rfl (fun w1 hb1 hs1 hB1 => Rd.loads hA.s ty70 hx48 hb1)) rfl ?_
         refine ol_alloc 11 z70 rfl fun b11 => ?_
         refine ol_store (id := 11) rfl rfl rfl rfl sz70 rfl rfl (by first | decide | exact Nat.zero_lt_succ _ | simp) ?_
         refine ol_nil (to_k0 (fun _ _ h => h) (hK20 _ _ _ _ _ ?_))
         clear hK20
         refine wp_seq' fun K21 hK21 => ?_
         refine wp_reg ?_
         refine ol_r (r_fa (o' := 0) rfl fl70_0 rfl) rfl ?_
         refine ol_r (r_ld (id := 11) rfl rfl rfl sc3) rfl ?_
         refine ol_r (r_move rfl) rfl ?_
         refine ol_r (r_gtr rfl rfl) rfl ?_
         refine ol_r (r_move rfl) rfl ?_
         refine ol_split (d := 54) rfl (fun hs54 => ?_) (fun hs54 => ?_)
         ·have phs54 := hs54; try simp only [decide_eq_true_eq, decide_eq_false_iff_not, Bool.not_eq_true', Bool.not_eq_false', Bool.not_true, Bool.not_false] at phs54
          refine ol_g rfl rfl hs54 ?_
          refine ol_r (r_fa (o' := 0) rfl fl70_0 rfl) rfl ?_
          refine ol_g rfl rfl hs54 ?_
          refine ol_r (r_ld (id := 11) rfl rfl rfl sc3) rfl ?_
          refine ol_g rfl rfl hs54 ?_
          refine ol_r (r_move rfl) rfl ?_
          refine ol_g rfl rfl hs54 ?_
          refine ol_r (r_lss rfl rfl) rfl ?_
          refine ol_r (r_pickT rfl hs54 rfl) rfl ?_
          refine ol_nil (to_k0 (fun _ _ h => h) (hK21 _ _ _ _ _ ?_))
          clear hK21
          refine wp_condD rfl (fun hc59 => ?_) (fun hc59 => ?_)
          ·refine wp_reg ?_
           refine ol_r (r_move rfl) rfl ?_
           refine ol_r (r_lda (id := 11) (n := 7) rfl rfl rfl ag70) rfl ?_
           refine ol_bs1 62 rfl rfl rw53 rfl rfl rfl fun a62 => ?_
           refine ol_append1 (id := 42) (id2 := 62) rfl rfl rfl rfl rfl rw53 (by omega) rfl fun a63 c63 => ?_
           refine ol_r (r_assign rfl) rfl ?_
           refine ol_nil (to_k0 (fun _ _ h => h) (hK19 _ _ _ _ _ ?_))
           clear hK19
           refine wp_reg ?_
           refine ol_r (r_add rfl rfl (by omega)) rfl ?_
           refine ol_r (r_move rfl) rfl ?_
           refine ol_nil (to_k0 (fun _ _ h => h) (hK16 ((k + 1, _, _, _)) _ _ ?_ ?_ (sub_cons rfl (sub_cons rfl sub_nil)) (sub_cons rfl (sub_cons rfl (sub_cons rfl (sub_cons rfl (sub_cons rfl (sub_cons rfl (sub_cons rfl sub_nil))))))) (by exact (subH_row rfl (by first | (dsimp only; first | exact cut_row hx48 ⟨by omega, by omega⟩ | (rw [innL_no hx48 (by omega)]); done) | (first | exact cut_row hx48 ⟨by omega, by omega⟩ | (rw [innL_no hx48 (by omega)]); done) | (dsimp only; done)) subH_nil)) (subH_same rfl (subH_same rfl subH_nil))))
           ·try dsimp only
            first
              | exact ⟨by omega, by rw [innL_yes hx48 ⟨by omega, by omega⟩]; simp [hcnt]⟩
           ·try dsimp only
            omega
          ·refine wp_skip' (to_k0 (fun _ _ h => h) (hK19 _ _ _ _ _ ?_))
           clear hK19
           refine wp_reg ?_
           refine ol_r (r_add rfl rfl (by omega)) rfl ?_
           refine ol_r (r_move rfl) rfl ?_
           refine ol_nil (to_k0 (fun _ _ h => h) (hK16 ((k + 1, _, _, _)) _ _ ?_ ?_ (sub_cons rfl (sub_cons rfl sub_nil)) (sub_cons rfl (sub_cons rfl (sub_cons rfl (sub_cons rfl (sub_cons rfl (sub_cons rfl (sub_cons rfl sub_nil))))))) (by exact (subH_row rfl (by dsimp only; first | exact cut_row hx48 ⟨by omega, by omega⟩ | (rw [innL_no hx48 (by omega)])) subH_nil)) (subH_same rfl (subH_same rfl subH_nil))))
           ·try dsimp only
            first
              | exact ⟨by omega, by rw [innL_no hx48 (by omega)]; exact hcnt⟩
           ·try dsimp only
            omega
         ·have phs54 := hs54; try simp only [decide_eq_true_eq, decide_eq_false_iff_not, Bool.not_eq_true', Bool.not_eq_false', Bool.not_true, Bool.not_false] at phs54
          refine ol_s rfl rfl hs54 rfl ?_
          refine ol_s rfl rfl hs54 rfl ?_
          refine ol_s rfl rfl hs54 rfl ?_
          refine ol_s rfl rfl hs54 rfl ?_
          refine ol_r (r_pickF rfl hs54 rfl) rfl ?_
          refine ol_nil (to_k0 (fun _ _ h => h) (hK21 _ _ _ _ _ ?_))
          clear hK21
          refine wp_condF rfl ?_
          refine wp_skip' (to_k0 (fun _ _ h => h) (hK19 _ _ _ _ _ ?_))
          clear hK19
          refine wp_reg ?_
          refine ol_r (r_add rfl rfl (by omega)) rfl ?_
          refine ol_r (r_move rfl) rfl ?_
          refine ol_nil (to_k0 (fun _ _ h => h) (hK16 ((k + 1, _, _, _)) _ _ ?_ ?_ (sub_cons rfl (sub_cons rfl sub_nil)) (sub_cons rfl (sub_cons rfl (sub_cons rfl (sub_cons rfl (sub_cons rfl (sub_cons rfl (sub_cons rfl sub_nil))))))) (by exact (subH_row rfl (by dsimp only; first | exact cut_row hx48 ⟨by omega, by omega⟩ | (rw [innL_no hx48 (by omega)])) subH_nil)) (subH_same rfl (subH_same rfl subH_nil))))
          ·try dsimp only
           first
             | exact ⟨by omega, by rw [innL_no hx48 (by omega)]; exact hcnt⟩
          ·try dsimp only
           omega
        ·refine wp_exit' (to_k0 (fun _ _ h => h) (hK14 _ _ _ _ _ ?_))
         clear hK14
         refine wp_seq' fun K22 hK22 => ?_
         refine wp_rega [(999, [(3, _)]), (11, [(6, _)]), (6, [(42, _)])] (by kernel_rfl) ⟨.inr (subH_same rfl subH_nil), ⟨.inr (subH_same rfl subH_nil), ⟨.inr (subH_same rfl subH_nil), trivial⟩⟩⟩ ?_
         refine aq_r 0 999 rfl (by kernel_rfl) (by kernel_rfl) (by kernel_rfl) (.head _) (by kernel_rfl) (by kernel_rfl) rfl (r_lda (id := 3) (n := 6) rfl rfl rfl ag57) ?_
         refine aq_r 1 999 rfl (by kernel_rfl) (by kernel_rfl) (by kernel_rfl) (.head _) (by kernel_rfl) (by kernel_rfl) rfl (r_move rfl) ?_
         refine aq_r 2 999 rfl (by kernel_rfl) (by kernel_rfl) (by kernel_rfl) (.head _) (by kernel_rfl) (by kernel_rfl) rfl (r_lda (id := 3) (n := 6) rfl rfl rfl ag57) ?_
         refine aq_r 3 999 rfl (by kernel_rfl) (by kernel_rfl) (by kernel_rfl) (.head _) (by kernel_rfl) (by kernel_rfl) rfl (r_move rfl) ?_
         refine aq_r 7 999 rfl (by kernel_rfl) (by kernel_rfl) (by kernel_rfl) (.head _) (by kernel_rfl) (by kernel_rfl) rfl (r_move rfl) ?_
         refine aq_one (i := 4) (by kernel_rfl) rfl fun K23 hK23 => ?_
         refine ol_call rfl rfl cb42 rfl (fun w1 hb1 hs1 hB1 => Calls.mono (track_Where A t _ (hA.at hb1 hB1) hok (by omega) (by omega)) ?_)
         rintro e w2 ⟨rfl, hb2⟩
         refine After.below rfl hb1 hs1 hB1 hb2 ?_
         clear hb2 hB1 hs1 hb1 w2 w1
         refine ol_nil (to_k0 (fun _ _ h => h) (hK23 _ _ ⟨.inr (by repeat' first | exact subH_nil | refine subH_same rfl ?_ | (refine subH_blk rfl (by repeat' first | exact sub_nil | refine sub_cons rfl ?_) ?_)), ⟨.inr (by repeat' first | exact subH_nil | refine subH_same rfl ?_ | (refine subH_blk rfl (by repeat' first | exact sub_nil | refine sub_cons rfl ?_) ?_)), ⟨.inr (by repeat' first | exact subH_nil | refine subH_same rfl ?_ | (refine subH_blk rfl (by repeat' first | exact sub_nil | refine sub_cons rfl ?_) ?_)), trivial⟩⟩⟩ ?_))
         clear hK23
         refine aq_one (i := 5) (by kernel_rfl) rfl fun K24 hK24 => ?_
         refine ol_bs1 70 rfl rfl rw53 rfl rfl rfl fun a70 => ?_
         refine ol_nil (to_k0 (fun _ _ h => h) (hK24 _ _ ⟨.inr (by repeat' first | exact subH_nil | refine subH_same rfl ?_ | (refine subH_blk rfl (by repeat' first | exact sub_nil | refine sub_cons rfl ?_) ?_)), ⟨.inr (by repeat' first | exact subH_nil | refine subH_same rfl ?_ | (refine subH_blk rfl (by repeat' first | exact sub_nil | refine sub_cons rfl ?_) ?_)), ⟨.inr (by repeat' first | exact subH_nil | refine subH_same rfl ?_ | (refine subH_blk rfl (by repeat' first | exact sub_nil | refine sub_cons rfl ?_) ?_)), trivial⟩⟩⟩ ?_))
         clear hK24
         refine aq_one (i := 6) (by kernel_rfl) rfl fun K25 hK25 => ?_
         refine ol_append1 (id := 42) (id2 := 70) rfl rfl rfl rfl rfl rw53 (by omega) rfl fun a71 c71 => ?_
         refine ol_nil (to_k0 (fun _ _ h => h) (hK25 _ _ ⟨.inr (by repeat' first | exact subH_nil | refine subH_same rfl ?_ | (refine subH_blk rfl (by repeat' first | exact sub_nil | refine sub_cons rfl ?_) ?_)), ⟨.inr (by repeat' first | exact subH_nil | refine subH_same rfl ?_ | (refine subH_blk rfl (by repeat' first | exact sub_nil | refine sub_cons rfl ?_) ?_)), ⟨.inl (by kernel_rfl), trivial⟩⟩⟩ ?_))
         clear hK25
         refine aq_one (i := 8) (by kernel_rfl) rfl fun K26 hK26 => ?_
         refine ol_call rfl rfl cb43 rfl (fun w1 hb1 hs1 hB1 => ?_)
         have hke : A.ss.length ≤ k := by omega
         have hcl := cut_len (f := f) (t := t) hke
         refine Calls.mono (track_part A _ _ _ (cutL A.ss f t) f _ (hA.at hb1 hB1) (Sat.rd hs1 (E := encSmp) (id := 42) (xs := cutL A.ss f t) (by rw [← cut_end hke]; rfl) rfl) hg (by omega) hcb.1 (by omega)) ?_
         rintro e w2 ⟨⟨sa, sn, sc, la, ln, lc, ta, tn, tc, rfl, hs2⟩, hb2⟩
         refine After.more rfl hb1 hs1 hB1 hb2 hs2 ?_
         clear hs2 hb2 hB1 hs1 hb1 w2 w1
         refine ol_nil (to_k0 (fun _ _ h => h) (hK26 _ _ ⟨.inr (by repeat' first | exact subH_nil | refine subH_same rfl ?_ | (refine subH_blk rfl (by repeat' first | exact sub_nil | refine sub_cons rfl ?_) ?_)), ⟨.inr (by repeat' first | exact subH_nil | refine subH_same rfl ?_ | (refine subH_blk rfl (by repeat' first | exact sub_nil | refine sub_cons rfl ?_) ?_)), ⟨.inl (by kernel_rfl), trivial⟩⟩⟩ ?_))
         clear hK26
         refine aq_r 9 999 rfl (by kernel_rfl) (by kernel_rfl) (by kernel_rfl) (.head _) (by kernel_rfl) (by kernel_rfl) rfl (r_extract rfl rfl) ?_
         refine aq_r 10 999 rfl (by kernel_rfl) (by kernel_rfl) (by kernel_rfl) (.head _) (by kernel_rfl) (by kernel_rfl) rfl (r_extract rfl rfl) ?_
         refine aq_one (i := 11) (by kernel_rfl) rfl fun K27 hK27 => ?_
         refine ol_store (id := 6) rfl rfl rfl rfl sz57 rfl rfl (by first | decide | exact Nat.zero_lt_succ _ | simp) ?_
         refine ol_nil (to_k0 (fun _ _ h => h) (hK27 _ _ ⟨.inr (by repeat' first | exact subH_nil | refine subH_same rfl ?_ | (refine subH_blk rfl (by repeat' first | exact sub_nil | refine sub_cons rfl ?_) ?_)), ⟨.inl (by kernel_rfl), ⟨.inl (by kernel_rfl), trivial⟩⟩⟩ ?_))
         clear hK27
         refine aq_r 12 999 rfl (by kernel_rfl) (by kernel_rfl) (by kernel_rfl) (.head _) (by kernel_rfl) (by kernel_rfl) rfl (r_assign rfl) ?_
         refine aq_done (by kernel_rfl) ?_
         refine (to_k0 (fun _ _ h => h) (hK22 _ _ _ _ _ ?_))
         clear hK22
         refine hQ.ret (rvs2 (rv_c (id := 6) (n := 6) rfl rfl ag57 rfl) (rv_t rfl)) (fun _ _ h => h) fun w hb hs hB hkd => ?_
         refine ⟨?_, hb⟩
         rw [cutR_0 h0 (by show A.ss.length ≠ 0; omega) (fun h => by rcases h with h | h | h <;> first | exact phs27 h | exact phs32 h | exact hc24 h)]
         exact ⟨sa, sn, sc, la, ln, lc, ta, tn, tc, rfl, hs.three 1001 1002 1003 1001 1002 1003 (by decide) (by decide) (by decide) rfl rfl rfl (Ent.le_refl _) (Ent.le_refl _) (Ent.le_refl _)⟩
end Go.Proofs.Ytfbmkepogcimlaa

/-
  What is told at the top: a rounded number and a name.
-/


namespace Go.Proofs.Ytfbmkepogcimlaa
open Go Go.RowKit Hx
set_option linter.unusedVariables false
set_option linter.unusedSimpArgs false
set_option maxRecDepth 8000
theorem way_even (h x : Int) (w : World) (hh : h = 0) (hx : x = 3) : Calls Try.prog 127 #[.bool true, .int .u64 x, .int .i64 h] w fun e w' => e = .returned (.bool true) ∧ Below w.heap.size w w' := by
  subst hh
  subst hx
  refine enterQ (N := 18) (C := fun _ => True) (H := []) (B := w.heap.size) (args := [_, _, _]) Try.func127 rfl rfl rfl (Nat.le_refl _) (Sat.nil _ _) fun Q hQ => ?_
  refine wp_seq' fun K1 hK1 => ?_
  refine wp_reg ?_
  refine ol_r (r_assign rfl) rfl ?_
  refine ol_nil (to_k0 (fun _ _ h => h) (hK1 _ _ _ _ _ ?_))
  clear hK1
  refine wp_seq' fun K2 hK2 => ?_
  refine wp_reg ?_
  refine ol_r (r_move rfl) rfl ?_
  refine ol_r (r_gtr rfl rfl) rfl ?_
  refine ol_r (r_move rfl) rfl ?_
  refine ol_split (d := 9) rfl (fun hs9 => ?_) (fun hs9 => ?_)
  ·have phs9 := hs9; try simp only [decide_eq_true_eq, decide_eq_false_iff_not, Bool.not_eq_true', Bool.not_eq_false', Bool.not_true, Bool.not_false] at phs9
   refine ol_s rfl rfl hs9 rfl ?_
   refine ol_s rfl rfl hs9 rfl ?_
   refine ol_s rfl rfl hs9 rfl ?_
   refine ol_u rfl rfl rfl ?_
   refine ol_u rfl rfl rfl ?_
   refine ol_u rfl rfl rfl ?_
   refine ol_s rfl rfl hs9 rfl ?_
   refine ol_r (r_pickT rfl hs9 rfl) rfl ?_
   refine ol_r (r_assign rfl) rfl ?_
   refine ol_nil (to_k0 (fun _ _ h => h) (hK2 _ _ _ _ _ ?_))
   clear hK2
   refine hQ.ret (rvs1 (rv_t rfl)) (fun _ _ h => h) fun w hb hs hB hkd => ?_
   first
     | exact ⟨rfl, hb⟩
     | (exfalso; simp at hs9; done)
     | (exfalso; simp at hs12; done)
  ·have phs9 := hs9; try simp only [decide_eq_true_eq, decide_eq_false_iff_not, Bool.not_eq_true', Bool.not_eq_false', Bool.not_true, Bool.not_false] at phs9
   refine ol_g rfl rfl hs9 ?_
   refine ol_r (r_move rfl) rfl ?_
   refine ol_g rfl rfl hs9 ?_
   refine ol_r (r_eql rfl rfl) rfl ?_
   refine ol_g rfl rfl hs9 ?_
   refine ol_r (r_move rfl) rfl ?_
   refine ol_split (d := 12) rfl (fun hs12 => ?_) (fun hs12 => ?_)
   ·have phs12 := hs12; try simp only [decide_eq_true_eq, decide_eq_false_iff_not, Bool.not_eq_true', Bool.not_eq_false', Bool.not_true, Bool.not_false] at phs12
    refine ol_g rfl rfl hs12 ?_
    refine ol_r (r_move rfl) rfl ?_
    refine ol_g rfl rfl hs12 ?_
    refine ol_r (r_remg rfl rfl (by decide) (by decide) (by decide)) rfl ?_
    refine ol_g rfl rfl hs12 ?_
    refine ol_r (r_eql rfl rfl) rfl ?_
    refine ol_g rfl rfl hs9 ?_
    refine ol_r (r_pickT rfl hs12 rfl) rfl ?_
    refine ol_r (r_pickF rfl hs9 rfl) rfl ?_
    refine ol_r (r_assign rfl) rfl ?_
    refine ol_nil (to_k0 (fun _ _ h => h) (hK2 _ _ _ _ _ ?_))
    clear hK2
    refine hQ.ret (rvs1 (rv_t rfl)) (fun _ _ h => h) fun w hb hs hB hkd => ?_
    first
      | exact ⟨rfl, hb⟩
      | (exfalso; simp at hs9; done)
      | (exfalso; simp at hs12; done)
   ·have phs12 := hs12; try simp only [decide_eq_true_eq, decide_eq_false_iff_not, Bool.not_eq_true', Bool.not_eq_false', Bool.not_true, Bool.not_false] at phs12
    refine ol_s rfl rfl hs12 rfl ?_
    refine ol_s rfl rfl hs12 rfl ?_
    refine ol_s rfl rfl hs12 rfl ?_
    refine ol_g rfl rfl hs9 ?_
    refine ol_r (r_pickF rfl hs12 rfl) rfl ?_
    refine ol_r (r_pickF rfl hs9 rfl) rfl ?_
    refine ol_r (r_assign rfl) rfl ?_
    refine ol_nil (to_k0 (fun _ _ h => h) (hK2 _ _ _ _ _ ?_))
    clear hK2
    refine hQ.ret (rvs1 (rv_t rfl)) (fun _ _ h => h) fun w hb hs hB hkd => ?_
    first
      | exact ⟨rfl, hb⟩
      | (exfalso; simp at hs9; done)
      | (exfalso; simp at hs12; done)
theorem quant_ScaleEven (w : World) :
    Calls Try.prog 64 #[.int .i64 (-7), .int .i64 1, .int .i64 2, .int .i64 5] w fun e w' => e = .returned (.tuple #[.int .i64 (-4), .int .i64 0]) ∧ Below w.heap.size w w' := by
  refine enterQ (N := 88) (C := fun _ => True) (H := []) (B := w.heap.size) (args := [_, _, _, _]) Try.func64 rfl rfl rfl (Nat.le_refl _) (Sat.nil _ _) fun Q hQ => ?_
  refine wp_seq' fun K1 hK1 => ?_
  refine wp_reg ?_
  refine ol_box 7 rfl rfl rfl fun b7 => ?_
  refine ol_r (r_assign rfl) rfl ?_
  refine ol_r (r_assign rfl) rfl ?_
  refine ol_nil (to_k0 (fun _ _ h => h) (hK1 _ _ _ _ _ ?_))
  clear hK1
  refine wp_seq' fun K2 hK2 => ?_
  refine wp_reg ?_
  refine ol_call rfl rfl cb91 rfl (fun w1 hb1 hs1 hB1 => Calls.mono (quant_ways _) ?_)
  rintro e w2 ⟨a18, n18, c18, rfl, hf18⟩
  refine After.fresh (id := 18) rfl hb1 hs1 hB1 hf18 ?_
  have hl18 := hf18.len; clear hf18 hB1 hs1 hb1 w2 w1
  refine ol_r (r_assign rfl) rfl ?_
  refine ol_nil (to_k0 (fun _ _ h => h) (hK2 _ _ _ _ _ ?_))
  clear hK2
  refine wp_seq' fun K3 hK3 => ?_
  refine wp_reg ?_
  have hn18 : n18 = 5 := by rw [← hl18]; rfl
  refine ol_r (r_move rfl) rfl ?_
  refine ol_r (r_func rfl) rfl ?_
  refine ol_call rfl rfl cb92 rfl (fun w1 hb1 hs1 hB1 => Calls.mono (indexFunc_way _ _ _ waysL _ _ (fun x => decide (x.1 = 5)) 4 _ (Sat.rd hs1 (E := encWay) (id := 18) rfl rfl) cb93 rfl (fun x w' _ h1 h2 => scale_is x 5 _ w' ((hs1.blk (id := 7) rfl).at h1 h2))) ?_)
  rintro e w2 ⟨rfl, hb2⟩
  refine After.below rfl hb1 hs1 hB1 hb2 ?_
  clear hb2 hB1 hs1 hb1 w2 w1
  refine ol_r (r_assign rfl) rfl ?_
  refine ol_nil (to_k0 (fun _ _ h => h) (hK3 _ _ _ _ _ ?_))
  clear hK3
  refine wp_seq' fun K4 hK4 => ?_
  refine wp_seq' fun K5 hK5 => ?_
  refine wp_reg ?_
  refine ol_r (r_move rfl) rfl ?_
  refine ol_r (r_lss rfl rfl) rfl ?_
  refine ol_nil (to_k0 (fun _ _ h => h) (hK5 _ _ _ _ _ ?_))
  clear hK5
  first | refine wp_condD rfl (fun hc23 => ?_) (fun hc23 => ?_) | refine wp_condN rfl (fun hc23 => ?_) (fun hc23 => ?_) | refine wp_condNB rfl (fun hc23 => ?_) (fun hc23 => ?_) | refine wp_cond' rfl (fun hc23 => ?_) (fun hc23 => ?_)
  ·exfalso
   omega
  ·refine wp_skip' (to_k0 (fun _ _ h => h) (hK4 _ _ _ _ _ ?_))
   clear hK4
   refine wp_seq' fun K6 hK6 => ?_
   refine wp_seq' fun K7 hK7 => ?_
   refine wp_reg ?_
   refine ol_r (r_move rfl) rfl ?_
   refine ol_r (r_leq rfl rfl) rfl ?_
   refine ol_r (r_move rfl) rfl ?_
   refine ol_split (d := 26) rfl (fun hs26 => ?_) (fun hs26 => ?_)
   ·have phs26 := hs26; try simp only [decide_eq_true_eq, decide_eq_false_iff_not, Bool.not_eq_true', Bool.not_eq_false', Bool.not_true, Bool.not_false] at phs26
    refine ol_s rfl rfl hs26 rfl ?_
    refine ol_s rfl rfl hs26 rfl ?_
    refine ol_r (r_pickT rfl hs26 rfl) rfl ?_
    refine ol_nil (to_k0 (fun _ _ h => h) (hK7 _ _ _ _ _ ?_))
    clear hK7
    refine wp_condT rfl ?_
    refine wp_seq' fun K8 hK8 => ?_
    refine wp_reg ?_
    refine ol_r (r_assign rfl) rfl ?_
    refine ol_r (r_assign rfl) rfl ?_
    refine ol_nil (to_k0 (fun _ _ h => h) (hK8 _ _ _ _ _ ?_))
    clear hK8
    refine hQ.ret (rvs2 (rv_t rfl) (rv_t rfl)) (fun _ _ h => h) fun w hb hs hB hkd => ?_
    first
      | exact ⟨retI (by decide), hb⟩
      | (exfalso; omega)
      | (exfalso; exact hc77 rfl)
      | (exfalso; cases hc77; done)
   ·have phs26 := hs26; try simp only [decide_eq_true_eq, decide_eq_false_iff_not, Bool.not_eq_true', Bool.not_eq_false', Bool.not_true, Bool.not_false] at phs26
    refine ol_g rfl rfl hs26 ?_
    refine ol_r (r_move rfl) rfl ?_
    refine ol_g rfl rfl hs26 ?_
    refine ol_r (r_lss rfl rfl) rfl ?_
    refine ol_r (r_pickF rfl hs26 rfl) rfl ?_
    refine ol_nil (to_k0 (fun _ _ h => h) (hK7 _ _ _ _ _ ?_))
    clear hK7
    first | refine wp_condD rfl (fun hc29 => ?_) (fun hc29 => ?_) | refine wp_condN rfl (fun hc29 => ?_) (fun hc29 => ?_) | refine wp_condNB rfl (fun hc29 => ?_) (fun hc29 => ?_) | refine wp_cond' rfl (fun hc29 => ?_) (fun hc29 => ?_)
    ·exfalso
     omega
    ·refine wp_skip' (to_k0 (fun _ _ h => h) (hK6 _ _ _ _ _ ?_))
     clear hK6
     refine wp_seq' fun K9 hK9 => ?_
     refine wp_reg ?_
     refine ol_r (r_move rfl) rfl ?_
     refine ol_r (r_lss rfl rfl) rfl ?_
     refine ol_r (r_assign rfl) rfl ?_
     refine ol_nil (to_k0 (fun _ _ h => h) (hK9 _ _ _ _ _ ?_))
     clear hK9
     refine wp_seq' fun K10 hK10 => ?_
     refine wp_reg ?_
     refine ol_r (r_move rfl) rfl ?_
     refine ol_r (r_convg (k2 := .u64) 18446744073709551609 rfl (by kernel_rfl) (by kernel_rfl) (by decide)) rfl ?_
     refine ol_r (r_assign rfl) rfl ?_
     refine ol_nil (to_k0 (fun _ _ h => h) (hK10 _ _ _ _ _ ?_))
     clear hK10
     refine wp_seq' fun K11 hK11 => ?_
     refine wp_seq' fun K12 hK12 => ?_
     refine wp_reg ?_
     refine ol_r (r_move rfl) rfl ?_
     refine ol_nil (to_k0 (fun _ _ h => h) (hK12 _ _ _ _ _ ?_))
     clear hK12
     first | refine wp_condD rfl (fun hc34 => ?_) (fun hc34 => ?_) | refine wp_condN rfl (fun hc34 => ?_) (fun hc34 => ?_) | refine wp_condNB rfl (fun hc34 => ?_) (fun hc34 => ?_) | refine wp_cond' rfl (fun hc34 => ?_) (fun hc34 => ?_)
     ·refine wp_reg ?_
      refine ol_r (r_move rfl) rfl ?_
      refine ol_r (r_negg 7 rfl (by decide)) rfl ?_
      refine ol_r (r_assign rfl) rfl ?_
      refine ol_nil (to_k0 (fun _ _ h => h) (hK11 _ _ _ _ _ ?_))
      clear hK11
      refine wp_seq' fun K13 hK13 => ?_
      refine wp_reg ?_
      refine ol_r (r_move rfl) rfl ?_
      refine ol_r (r_move rfl) rfl ?_
      refine ol_r (r_conv (k2 := .u64) rfl (by kernel_rfl) (by kernel_rfl) (wrap_u64 (by omega))) rfl ?_
      refine ol_call rfl rfl cb94 rfl (fun w1 hb1 hs1 hB1 => Calls.mono (bits_Mul64 7 1 _ (by omega) (by omega) (by omega)) ?_)
      rintro e w2 ⟨rfl, hb2⟩
      refine After.below rfl hb1 hs1 hB1 hb2 ?_
      clear hb2 hB1 hs1 hb1 w2 w1
      refine ol_r (r_move rfl) rfl ?_
      refine ol_r (r_extract rfl rfl) rfl ?_
      refine ol_r (r_extract rfl rfl) rfl ?_
      refine ol_r (r_assign rfl) rfl ?_
      refine ol_r (r_assign rfl) rfl ?_
      refine ol_nil (to_k0 (fun _ _ h => h) (hK13 _ _ _ _ _ ?_))
      clear hK13
      refine wp_seq' fun K14 hK14 => ?_
      refine wp_seq' fun K15 hK15 => ?_
      refine wp_reg ?_
      refine ol_r (r_move rfl) rfl ?_
      refine ol_r (r_move rfl) rfl ?_
      refine ol_r (r_conv (k2 := .u64) rfl (by kernel_rfl) (by kernel_rfl) (wrap_u64 (by omega))) rfl ?_
      refine ol_r (r_geq rfl rfl) rfl ?_
      refine ol_nil (to_k0 (fun _ _ h => h) (hK15 _ _ _ _ _ ?_))
      clear hK15
      first | refine wp_condD rfl (fun hc47 => ?_) (fun hc47 => ?_) | refine wp_condN rfl (fun hc47 => ?_) (fun hc47 => ?_) | refine wp_condNB rfl (fun hc47 => ?_) (fun hc47 => ?_) | refine wp_cond' rfl (fun hc47 => ?_) (fun hc47 => ?_)
      ·exfalso
       omega
      ·refine wp_skip' (to_k0 (fun _ _ h => h) (hK14 _ _ _ _ _ ?_))
       clear hK14
       refine wp_seq' fun K16 hK16 => ?_
       refine wp_reg ?_
       refine ol_r (r_move rfl) rfl ?_
       refine ol_r (r_move rfl) rfl ?_
       refine ol_r (r_move rfl) rfl ?_
       refine ol_r (r_conv (k2 := .u64) rfl (by kernel_rfl) (by kernel_rfl) (wrap_u64 (by omega))) rfl ?_
       refine ol_call rfl rfl cb95 rfl (fun w1 hb1 hs1 hB1 => Calls.mono (bits_Div64 (7 * 1) 2 _ (by omega) (by omega)) ?_)
       rintro e w2 ⟨rfl, hb2⟩
       refine After.below rfl hb1 hs1 hB1 hb2 ?_
       clear hb2 hB1 hs1 hb1 w2 w1
       refine ol_r (r_move rfl) rfl ?_
       refine ol_r (r_extract rfl rfl) rfl ?_
       refine ol_r (r_extract rfl rfl) rfl ?_
       refine ol_r (r_assign rfl) rfl ?_
       refine ol_r (r_assign rfl) rfl ?_
       refine ol_nil (to_k0 (fun _ _ h => h) (hK16 _ _ _ _ _ ?_))
       clear hK16
       refine wp_seq' fun K17 hK17 => ?_
       refine wp_seq' fun K18 hK18 => ?_
       refine wp_regq (by kernel_rfl) (by kernel_rfl) ?_
       refine ql_r (r_move rfl) rfl ?_
       refine ql_r (r_gtr rfl rfl) rfl ?_
       refine ql_r (r_move rfl) rfl ?_
       refine ql_split (d := 58) rfl (fun hs58 => ?_) (fun hs58 => ?_)
       ·have phs58 := hs58; try simp only [decide_eq_true_eq, decide_eq_false_iff_not, Bool.not_eq_true', Bool.not_eq_false', Bool.not_true, Bool.not_false] at phs58
        refine ql_g rfl rfl hs58 ?_
        refine ql_r (r_move rfl) rfl ?_
        refine ql_g rfl rfl hs58 ?_
        refine ql_r (r_leq rfl rfl) rfl ?_
        refine ql_r (r_pickT rfl hs58 rfl) rfl ?_
        refine ql_r (r_move rfl) rfl ?_
        refine ql_split (d := 62) rfl (fun hs62 => ?_) (fun hs62 => ?_)
        ·have phs62 := hs62; try simp only [decide_eq_true_eq, decide_eq_false_iff_not, Bool.not_eq_true', Bool.not_eq_false', Bool.not_true, Bool.not_false] at phs62
         refine ql_g rfl rfl hs62 ?_
         refine ql_r (r_move rfl) rfl ?_
         refine ql_g rfl rfl hs62 ?_
         refine ql_r (r_move rfl) rfl ?_
         refine ql_g rfl rfl hs62 ?_
         refine ql_ixo (id := 18) encWay waysL rfl rfl rfl rfl sl163 (by omega) (by omega) rfl fun x65 hx65 => ?_
         try simp only [Int.toNat_natCast] at hx65
         try simp only [Int.toNat_natCast] at hx65
         refine ql_g rfl rfl hs62 ?_
         have h65 := Option.some.inj (hx65.symm.trans (show _ = some ((5, 127) : Int × FuncId) from rfl))
         subst h65
         refine ql_r (r_faO (id := 18) rfl rfl rfl hx65 fl168_1) rfl ?_
         refine ql_g rfl rfl hs62 ?_
         refine ql_r (r_ldw rfl (fun w1 hb1 hs1 hB1 => ld_ownF (id := 18) (o := 1) hs1 rfl rfl sc166 hx65 rfl)) rfl ?_
         refine ql_g rfl rfl hs62 ?_
         refine ql_r (r_move rfl) rfl ?_
         refine ql_g rfl rfl hs62 ?_
         refine ql_r (r_move rfl) rfl ?_
         refine ql_g rfl rfl hs62 ?_
         refine ql_r (r_move rfl) rfl ?_
         refine ql_g rfl rfl hs62 ?_
         refine ql_r (r_move rfl) rfl ?_
         refine ql_g rfl rfl hs62 ?_
         refine ql_r (r_conv (k2 := .u64) rfl (by kernel_rfl) (by kernel_rfl) (wrap_u64 (by omega))) rfl ?_
         refine ql_g rfl rfl hs62 ?_
         refine ql_r (r_move rfl) rfl ?_
         refine ql_g rfl rfl hs62 ?_
         refine ql_r (r_subg _ rfl rfl (wrap_u64 (by omega))) rfl ?_
         refine ql_g rfl rfl hs62 ?_
         refine ql_call rfl rfl cb96 rfl (fun w1 hb1 hs1 hB1 => cmp_Compareu _ _ _) ?_
         refine ql_g rfl rfl hs62 ?_
         refine ql_call rfl rfl cb127 rfl (fun w1 hb1 hs1 hB1 => way_even _ _ _ (by decide) (by decide)) ?_
         refine ql_r (r_pickT rfl hs62 rfl) rfl ?_
         refine ql_nil (to_k0 (fun _ _ h => h) (hK18 _ _ _ _ _ ?_))
         clear hK18
         first | refine wp_condD rfl (fun hc77 => ?_) (fun hc77 => ?_) | refine wp_condN rfl (fun hc77 => ?_) (fun hc77 => ?_) | refine wp_condNB rfl (fun hc77 => ?_) (fun hc77 => ?_) | refine wp_cond' rfl (fun hc77 => ?_) (fun hc77 => ?_)
         ·refine wp_reg ?_
          refine ol_r (r_move rfl) rfl ?_
          refine ol_r (r_addg _ rfl rfl (wrap_u64 (by omega))) rfl ?_
          refine ol_r (r_assign rfl) rfl ?_
          refine ol_nil (to_k0 (fun _ _ h => h) (hK17 _ _ _ _ _ ?_))
          clear hK17
          refine wp_seq' fun K19 hK19 => ?_
          refine wp_seq' fun K20 hK20 => ?_
          refine wp_reg ?_
          refine ol_r (r_move rfl) rfl ?_
          refine ol_r (r_gtr rfl rfl) rfl ?_
          refine ol_nil (to_k0 (fun _ _ h => h) (hK20 _ _ _ _ _ ?_))
          clear hK20
          first | refine wp_condD rfl (fun hc81 => ?_) (fun hc81 => ?_) | refine wp_condN rfl (fun hc81 => ?_) (fun hc81 => ?_) | refine wp_condNB rfl (fun hc81 => ?_) (fun hc81 => ?_) | refine wp_cond' rfl (fun hc81 => ?_) (fun hc81 => ?_)
          ·exfalso
           omega
          ·refine wp_skip' (to_k0 (fun _ _ h => h) (hK19 _ _ _ _ _ ?_))
           clear hK19
           refine wp_seq' fun K21 hK21 => ?_
           refine wp_seq' fun K22 hK22 => ?_
           refine wp_reg ?_
           refine ol_r (r_move rfl) rfl ?_
           refine ol_nil (to_k0 (fun _ _ h => h) (hK22 _ _ _ _ _ ?_))
           clear hK22
           first | refine wp_condD rfl (fun hc82 => ?_) (fun hc82 => ?_) | refine wp_condN rfl (fun hc82 => ?_) (fun hc82 => ?_) | refine wp_condNB rfl (fun hc82 => ?_) (fun hc82 => ?_) | refine wp_cond' rfl (fun hc82 => ?_) (fun hc82 => ?_)
           ·refine wp_seq' fun K23 hK23 => ?_
            refine wp_reg ?_
            refine ol_r (r_move rfl) rfl ?_
            refine ol_r (r_conv (k2 := .i64) rfl (by kernel_rfl) (by kernel_rfl) (IntWalk.i64_in _ (by omega))) rfl ?_
            refine ol_r (r_neg rfl (by omega)) rfl ?_
            refine ol_r (r_assign rfl) rfl ?_
            refine ol_r (r_assign rfl) rfl ?_
            refine ol_nil (to_k0 (fun _ _ h => h) (hK23 _ _ _ _ _ ?_))
            clear hK23
            refine hQ.ret (rvs2 (rv_t rfl) (rv_t rfl)) (fun _ _ h => h) fun w hb hs hB hkd => ?_
            first
              | exact ⟨retI (by decide), hb⟩
              | (exfalso; omega)
              | (exfalso; exact hc77 rfl)
              | (exfalso; cases hc77; done)
           ·refine wp_skip' (to_k0 (fun _ _ h => h) (hK21 _ _ _ _ _ ?_))
            clear hK21
            refine wp_seq' fun K24 hK24 => ?_
            refine wp_reg ?_
            refine ol_r (r_move rfl) rfl ?_
            refine ol_r (r_conv (k2 := .i64) rfl (by kernel_rfl) (by kernel_rfl) (IntWalk.i64_in _ (by omega))) rfl ?_
            refine ol_r (r_assign rfl) rfl ?_
            refine ol_r (r_assign rfl) rfl ?_
            refine ol_nil (to_k0 (fun _ _ h => h) (hK24 _ _ _ _ _ ?_))
            clear hK24
            refine hQ.ret (rvs2 (rv_t rfl) (rv_t rfl)) (fun _ _ h => h) fun w hb hs hB hkd => ?_
            first
              | exact ⟨retI (by decide), hb⟩
              | (exfalso; omega)
              | (exfalso; exact hc77 rfl)
              | (exfalso; cases hc77; done)
         ·refine wp_skip' (to_k0 (fun _ _ h => h) (hK17 _ _ _ _ _ ?_))
          clear hK17
          refine wp_seq' fun K25 hK25 => ?_
          refine wp_seq' fun K26 hK26 => ?_
          refine wp_reg ?_
          refine ol_r (r_move rfl) rfl ?_
          refine ol_r (r_gtr rfl rfl) rfl ?_
          refine ol_nil (to_k0 (fun _ _ h => h) (hK26 _ _ _ _ _ ?_))
          clear hK26
          first | refine wp_condD rfl (fun hc81 => ?_) (fun hc81 => ?_) | refine wp_condN rfl (fun hc81 => ?_) (fun hc81 => ?_) | refine wp_condNB rfl (fun hc81 => ?_) (fun hc81 => ?_) | refine wp_cond' rfl (fun hc81 => ?_) (fun hc81 => ?_)
          ·exfalso
           omega
          ·refine wp_skip' (to_k0 (fun _ _ h => h) (hK25 _ _ _ _ _ ?_))
           clear hK25
           refine wp_seq' fun K27 hK27 => ?_
           refine wp_seq' fun K28 hK28 => ?_
           refine wp_reg ?_
           refine ol_r (r_move rfl) rfl ?_
           refine ol_nil (to_k0 (fun _ _ h => h) (hK28 _ _ _ _ _ ?_))
           clear hK28
           first | refine wp_condD rfl (fun hc82 => ?_) (fun hc82 => ?_) | refine wp_condN rfl (fun hc82 => ?_) (fun hc82 => ?_) | refine wp_condNB rfl (fun hc82 => ?_) (fun hc82 => ?_) | refine wp_cond' rfl (fun hc82 => ?_) (fun hc82 => ?_)
           ·refine wp_seq' fun K29 hK29 => ?_
            refine wp_reg ?_
            refine ol_r (r_move rfl) rfl ?_
            refine ol_r (r_conv (k2 := .i64) rfl (by kernel_rfl) (by kernel_rfl) (IntWalk.i64_in _ (by omega))) rfl ?_
            refine ol_r (r_neg rfl (by omega)) rfl ?_
            refine ol_r (r_assign rfl) rfl ?_
            refine ol_r (r_assign rfl) rfl ?_
            refine ol_nil (to_k0 (fun _ _ h => h) (hK29 _ _ _ _ _ ?_))
            clear hK29
            refine hQ.ret (rvs2 (rv_t rfl) (rv_t rfl)) (fun _ _ h => h) fun w hb hs hB hkd => ?_
            first
              | exact ⟨retI (by decide), hb⟩
              | (exfalso; omega)
              | (exfalso; exact hc77 rfl)
              | (exfalso; cases hc77; done)
           ·refine wp_skip' (to_k0 (fun _ _ h => h) (hK27 _ _ _ _ _ ?_))
            clear hK27
            refine wp_seq' fun K30 hK30 => ?_
            refine wp_reg ?_
            refine ol_r (r_move rfl) rfl ?_
            refine ol_r (r_conv (k2 := .i64) rfl (by kernel_rfl) (by kernel_rfl) (IntWalk.i64_in _ (by omega))) rfl ?_
            refine ol_r (r_assign rfl) rfl ?_
            refine ol_r (r_assign rfl) rfl ?_
            refine ol_nil (to_k0 (fun _ _ h => h) (hK30 _ _ _ _ _ ?_))
            clear hK30
            refine hQ.ret (rvs2 (rv_t rfl) (rv_t rfl)) (fun _ _ h => h) fun w hb hs hB hkd => ?_
            first
              | exact ⟨retI (by decide), hb⟩
              | (exfalso; omega)
              | (exfalso; exact hc77 rfl)
              | (exfalso; cases hc77; done)
        ·have phs62 := hs62; try simp only [decide_eq_true_eq, decide_eq_false_iff_not, Bool.not_eq_true', Bool.not_eq_false', Bool.not_true, Bool.not_false] at phs62
         refine ql_s rfl rfl hs62 rfl ?_
         refine ql_s rfl rfl hs62 rfl ?_
         refine ql_s rfl rfl hs62 rfl ?_
         refine ql_s rfl rfl hs62 rfl ?_
         refine ql_s rfl rfl hs62 rfl ?_
         refine ql_s rfl rfl hs62 rfl ?_
         refine ql_s rfl rfl hs62 rfl ?_
         refine ql_s rfl rfl hs62 rfl ?_
         refine ql_s rfl rfl hs62 rfl ?_
         refine ql_s rfl rfl hs62 rfl ?_
         refine ql_s rfl rfl hs62 rfl ?_
         refine ql_s rfl rfl hs62 rfl ?_
         refine ql_s rfl rfl hs62 rfl ?_
         refine ql_s rfl rfl hs62 rfl ?_
         refine ql_r (r_pickF rfl hs62 rfl) rfl ?_
         refine ql_nil (to_k0 (fun _ _ h => h) (hK18 _ _ _ _ _ ?_))
         clear hK18
         refine wp_condF rfl ?_
         refine wp_skip' (to_k0 (fun _ _ h => h) (hK17 _ _ _ _ _ ?_))
         clear hK17
         refine wp_seq' fun K31 hK31 => ?_
         refine wp_seq' fun K32 hK32 => ?_
         refine wp_reg ?_
         refine ol_r (r_move rfl) rfl ?_
         refine ol_r (r_gtr rfl rfl) rfl ?_
         refine ol_nil (to_k0 (fun _ _ h => h) (hK32 _ _ _ _ _ ?_))
         clear hK32
         first | refine wp_condD rfl (fun hc81 => ?_) (fun hc81 => ?_) | refine wp_condN rfl (fun hc81 => ?_) (fun hc81 => ?_) | refine wp_condNB rfl (fun hc81 => ?_) (fun hc81 => ?_) | refine wp_cond' rfl (fun hc81 => ?_) (fun hc81 => ?_)
         ·exfalso
          omega
         ·refine wp_skip' (to_k0 (fun _ _ h => h) (hK31 _ _ _ _ _ ?_))
          clear hK31
          refine wp_seq' fun K33 hK33 => ?_
          refine wp_seq' fun K34 hK34 => ?_
          refine wp_reg ?_
          refine ol_r (r_move rfl) rfl ?_
          refine ol_nil (to_k0 (fun _ _ h => h) (hK34 _ _ _ _ _ ?_))
          clear hK34
          first | refine wp_condD rfl (fun hc82 => ?_) (fun hc82 => ?_) | refine wp_condN rfl (fun hc82 => ?_) (fun hc82 => ?_) | refine wp_condNB rfl (fun hc82 => ?_) (fun hc82 => ?_) | refine wp_cond' rfl (fun hc82 => ?_) (fun hc82 => ?_)
          ·refine wp_seq' fun K35 hK35 => ?_
           refine wp_reg ?_
           refine ol_r (r_move rfl) rfl ?_
           refine ol_r (r_conv (k2 := .i64) rfl (by kernel_rfl) (by kernel_rfl) (IntWalk.i64_in _ (by omega))) rfl ?_
           refine ol_r (r_neg rfl (by omega)) rfl ?_
           refine ol_r (r_assign rfl) rfl ?_
           refine ol_r (r_assign rfl) rfl ?_
           refine ol_nil (to_k0 (fun _ _ h => h) (hK35 _ _ _ _ _ ?_))
           clear hK35
           refine hQ.ret (rvs2 (rv_t rfl) (rv_t rfl)) (fun _ _ h => h) fun w hb hs hB hkd => ?_
           first
             | exact ⟨retI (by decide), hb⟩
             | (exfalso; omega)
             | (exfalso; exact hc77 rfl)
             | (exfalso; cases hc77; done)
          ·refine wp_skip' (to_k0 (fun _ _ h => h) (hK33 _ _ _ _ _ ?_))
           clear hK33
           refine wp_seq' fun K36 hK36 => ?_
           refine wp_reg ?_
           refine ol_r (r_move rfl) rfl ?_
           refine ol_r (r_conv (k2 := .i64) rfl (by kernel_rfl) (by kernel_rfl) (IntWalk.i64_in _ (by omega))) rfl ?_
           refine ol_r (r_assign rfl) rfl ?_
           refine ol_r (r_assign rfl) rfl ?_
           refine ol_nil (to_k0 (fun _ _ h => h) (hK36 _ _ _ _ _ ?_))
           clear hK36
           refine hQ.ret (rvs2 (rv_t rfl) (rv_t rfl)) (fun _ _ h => h) fun w hb hs hB hkd => ?_
           first
             | exact ⟨retI (by decide), hb⟩
             | (exfalso; omega)
             | (exfalso; exact hc77 rfl)
             | (exfalso; cases hc77; done)
       ·have phs58 := hs58; try simp only [decide_eq_true_eq, decide_eq_false_iff_not, Bool.not_eq_true', Bool.not_eq_false', Bool.not_true, Bool.not_false] at phs58
        refine ql_s rfl rfl hs58 rfl ?_
        refine ql_s rfl rfl hs58 rfl ?_
        refine ql_r (r_pickF rfl hs58 rfl) rfl ?_
        refine ql_r (r_move rfl) rfl ?_
        refine ql_s rfl rfl rfl rfl ?_
        refine ql_s rfl rfl rfl rfl ?_
        refine ql_s rfl rfl rfl rfl ?_
        refine ql_s rfl rfl rfl rfl ?_
        refine ql_s rfl rfl rfl rfl ?_
        refine ql_s rfl rfl rfl rfl ?_
        refine ql_s rfl rfl rfl rfl ?_
        refine ql_s rfl rfl rfl rfl ?_
        refine ql_s rfl rfl rfl rfl ?_
        refine ql_s rfl rfl rfl rfl ?_
        refine ql_s rfl rfl rfl rfl ?_
        refine ql_s rfl rfl rfl rfl ?_
        refine ql_s rfl rfl rfl rfl ?_
        refine ql_s rfl rfl rfl rfl ?_
        refine ql_r (r_pickF rfl rfl rfl) rfl ?_
        refine ql_nil (to_k0 (fun _ _ h => h) (hK18 _ _ _ _ _ ?_))
        clear hK18
        refine wp_condF rfl ?_
        refine wp_skip' (to_k0 (fun _ _ h => h) (hK17 _ _ _ _ _ ?_))
        clear hK17
        refine wp_seq' fun K37 hK37 => ?_
        refine wp_seq' fun K38 hK38 => ?_
        refine wp_reg ?_
        refine ol_r (r_move rfl) rfl ?_
        refine ol_r (r_gtr rfl rfl) rfl ?_
        refine ol_nil (to_k0 (fun _ _ h => h) (hK38 _ _ _ _ _ ?_))
        clear hK38
        first | refine wp_condD rfl (fun hc81 => ?_) (fun hc81 => ?_) | refine wp_condN rfl (fun hc81 => ?_) (fun hc81 => ?_) | refine wp_condNB rfl (fun hc81 => ?_) (fun hc81 => ?_) | refine wp_cond' rfl (fun hc81 => ?_) (fun hc81 => ?_)
        ·exfalso
         omega
        ·refine wp_skip' (to_k0 (fun _ _ h => h) (hK37 _ _ _ _ _ ?_))
         clear hK37
         refine wp_seq' fun K39 hK39 => ?_
         refine wp_seq' fun K40 hK40 => ?_
         refine wp_reg ?_
         refine ol_r (r_move rfl) rfl ?_
         refine ol_nil (to_k0 (fun _ _ h => h) (hK40 _ _ _ _ _ ?_))
         clear hK40
         first | refine wp_condD rfl (fun hc82 => ?_) (fun hc82 => ?_) | refine wp_condN rfl (fun hc82 => ?_) (fun hc82 => ?_) | refine wp_condNB rfl (fun hc82 => ?_) (fun hc82 => ?_) | refine wp_cond' rfl (fun hc82 => ?_) (fun hc82 => ?_)
         ·refine wp_seq' fun K41 hK41 => ?_
          refine wp_reg ?_
          refine ol_r (r_move rfl) rfl ?_
          refine ol_r (r_conv (k2 := .i64) rfl (by kernel_rfl) (by kernel_rfl) (IntWalk.i64_in _ (by omega))) rfl ?_
          refine ol_r (r_neg rfl (by omega)) rfl ?_
          refine ol_r (r_assign rfl) rfl ?_
          refine ol_r (r_assign rfl) rfl ?_
          refine ol_nil (to_k0 (fun _ _ h => h) (hK41 _ _ _ _ _ ?_))
          clear hK41
          refine hQ.ret (rvs2 (rv_t rfl) (rv_t rfl)) (fun _ _ h => h) fun w hb hs hB hkd => ?_
          first
            | exact ⟨retI (by decide), hb⟩
            | (exfalso; omega)
            | (exfalso; exact hc77 rfl)
            | (exfalso; cases hc77; done)
         ·refine wp_skip' (to_k0 (fun _ _ h => h) (hK39 _ _ _ _ _ ?_))
          clear hK39
          refine wp_seq' fun K42 hK42 => ?_
          refine wp_reg ?_
          refine ol_r (r_move rfl) rfl ?_
          refine ol_r (r_conv (k2 := .i64) rfl (by kernel_rfl) (by kernel_rfl) (IntWalk.i64_in _ (by omega))) rfl ?_
          refine ol_r (r_assign rfl) rfl ?_
          refine ol_r (r_assign rfl) rfl ?_
          refine ol_nil (to_k0 (fun _ _ h => h) (hK42 _ _ _ _ _ ?_))
          clear hK42
          refine hQ.ret (rvs2 (rv_t rfl) (rv_t rfl)) (fun _ _ h => h) fun w hb hs hB hkd => ?_
          first
            | exact ⟨retI (by decide), hb⟩
            | (exfalso; omega)
            | (exfalso; exact hc77 rfl)
            | (exfalso; cases hc77; done)
     ·exfalso
      omega
theorem quant_Div7 (w : World) : Calls Try.prog 31 #[.int .i64 (-7), .int .i64 2, .int .i64 5] w fun e w' => e = .returned (.tuple #[.int .i64 (-4), .int .i64 0]) ∧ Below w.heap.size w w' := by
  refine enterQ (N := 14) (C := fun _ => True) (H := []) (B := w.heap.size) (args := [_, _, _]) Try.func31 rfl rfl rfl (Nat.le_refl _) (Sat.nil _ _) fun Q hQ => ?_
  refine wp_seq' fun K1 hK1 => ?_
  refine wp_reg ?_
  refine ol_r (r_assign rfl) rfl ?_
  refine ol_r (r_assign rfl) rfl ?_
  refine ol_nil (to_k0 (fun _ _ h => h) (hK1 _ _ _ _ _ ?_))
  clear hK1
  refine wp_seq' fun K2 hK2 => ?_
  refine wp_reg ?_
  refine ol_r (r_move rfl) rfl ?_
  refine ol_r (r_move rfl) rfl ?_
  refine ol_r (r_move rfl) rfl ?_
  refine ol_call rfl rfl cb64 rfl (fun w1 hb1 hs1 hB1 => Calls.mono (quant_ScaleEven _) ?_)
  rintro e w2 ⟨rfl, hb2⟩
  refine After.below rfl hb1 hs1 hB1 hb2 ?_
  clear hb2 hB1 hs1 hb1 w2 w1
  refine ol_r (r_extract rfl rfl) rfl ?_
  refine ol_r (r_extract rfl rfl) rfl ?_
  refine ol_r (r_assign rfl) rfl ?_
  refine ol_r (r_assign rfl) rfl ?_
  refine ol_nil (to_k0 (fun _ _ h => h) (hK2 _ _ _ _ _ ?_))
  clear hK2
  refine hQ.ret (rvs2 (rv_t rfl) (rv_t rfl)) (fun _ _ h => h) fun w hb hs hB hkd => ?_
  exact ⟨rfl, hb⟩
theorem top_told (w : World) : Calls Try.prog 7 #[] w fun e w' => e = .returned (.bool true) ∧ Below w.heap.size w w' := by
  have h1 : nameB ⟨#[97, 46, 66, 45, 49]⟩ = true := by decide
  have h2 : nameB ⟨#[]⟩ = false := by decide
  refine enterQ (N := 20) (C := fun _ => True) (H := []) (B := w.heap.size) (args := []) Try.func7 rfl rfl rfl (Nat.le_refl _) (Sat.nil _ _) fun Q hQ => ?_
  refine wp_seq' fun K1 hK1 => ?_
  refine wp_reg ?_
  refine ol_r (r_assign rfl) rfl ?_
  refine ol_nil (to_k0 (fun _ _ h => h) (hK1 _ _ _ _ _ ?_))
  clear hK1
  refine wp_seq' fun K2 hK2 => ?_
  refine wp_reg ?_
  refine ol_call rfl rfl cb31 rfl (fun w1 hb1 hs1 hB1 => Calls.mono (quant_Div7 _) ?_)
  rintro e w2 ⟨rfl, hb2⟩
  refine After.below rfl hb1 hs1 hB1 hb2 ?_
  clear hb2 hB1 hs1 hb1 w2 w1
  refine ol_r (r_move rfl) rfl ?_
  refine ol_r (r_extract rfl rfl) rfl ?_
  refine ol_r (r_extract rfl rfl) rfl ?_
  refine ol_r (r_assign rfl) rfl ?_
  refine ol_r (r_assign rfl) rfl ?_
  refine ol_nil (to_k0 (fun _ _ h => h) (hK2 _ _ _ _ _ ?_))
  clear hK2
  refine wp_seq' fun K3 hK3 => ?_
  refine wp_reg ?_
  refine ol_r (r_move rfl) rfl ?_
  refine ol_r (r_eql rfl rfl) rfl ?_
  refine ol_r (r_move rfl) rfl ?_
  refine ol_split (d := 9) rfl (fun hs9 => ?_) (fun hs9 => ?_)
  ·have phs9 := hs9; try simp only [decide_eq_true_eq, decide_eq_false_iff_not, Bool.not_eq_true', Bool.not_eq_false', Bool.not_true, Bool.not_false] at phs9
   refine ol_g rfl rfl hs9 ?_
   refine ol_r (r_move rfl) rfl ?_
   refine ol_g rfl rfl hs9 ?_
   refine ol_r (r_eql rfl rfl) rfl ?_
   refine ol_r (r_pickT rfl hs9 rfl) rfl ?_
   refine ol_r (r_move rfl) rfl ?_
   refine ol_split (d := 13) rfl (fun hs13 => ?_) (fun hs13 => ?_)
   ·have phs13 := hs13; try simp only [decide_eq_true_eq, decide_eq_false_iff_not, Bool.not_eq_true', Bool.not_eq_false', Bool.not_true, Bool.not_false] at phs13
    refine ol_g rfl rfl hs13 ?_
    refine ol_call rfl rfl cb32 rfl (fun w1 hb1 hs1 hB1 => Calls.mono (quant_IsName _ _ (by decide)) ?_)
    rintro e w2 ⟨rfl, hb2⟩
    refine After.below rfl hb1 hs1 hB1 hb2 ?_
    clear hb2 hB1 hs1 hb1 w2 w1
    refine ol_r (r_pickT rfl hs13 rfl) rfl ?_
    refine ol_r (r_move rfl) rfl ?_
    refine ol_split (d := 16) rfl (fun hs16 => ?_) (fun hs16 => ?_)
    ·have phs16 := hs16; try simp only [decide_eq_true_eq, decide_eq_false_iff_not, Bool.not_eq_true', Bool.not_eq_false', Bool.not_true, Bool.not_false] at phs16
     refine ol_g rfl rfl hs16 ?_
     refine ol_call rfl rfl cb32 rfl (fun w1 hb1 hs1 hB1 => Calls.mono (quant_IsName _ _ (by decide)) ?_)
     rintro e w2 ⟨rfl, hb2⟩
     refine After.below rfl hb1 hs1 hB1 hb2 ?_
     clear hb2 hB1 hs1 hb1 w2 w1
     refine ol_g rfl rfl hs16 ?_
     refine ol_r (r_not rfl) rfl ?_
     refine ol_r (r_pickT rfl hs16 rfl) rfl ?_
     refine ol_r (r_assign rfl) rfl ?_
     refine ol_nil (to_k0 (fun _ _ h => h) (hK3 _ _ _ _ _ ?_))
     clear hK3
     refine hQ.ret (rvs1 (rv_t rfl)) (fun _ _ h => h) fun w hb hs hB hkd => ?_
     exact ⟨by rw [h2]; rfl, hb⟩
    ·have phs16 := hs16; try simp only [decide_eq_true_eq, decide_eq_false_iff_not, Bool.not_eq_true', Bool.not_eq_false', Bool.not_true, Bool.not_false] at phs16
     exfalso
     rw [h1] at hs16; cases hs16
   ·have phs13 := hs13; try simp only [decide_eq_true_eq, decide_eq_false_iff_not, Bool.not_eq_true', Bool.not_eq_false', Bool.not_true, Bool.not_false] at phs13
    exfalso
    exact phs13 trivial
  ·have phs9 := hs9; try simp only [decide_eq_true_eq, decide_eq_false_iff_not, Bool.not_eq_true', Bool.not_eq_false', Bool.not_true, Bool.not_false] at phs9
   exfalso
   exact phs9 trivial
end Go.Proofs.Ytfbmkepogcimlaa

/-
  A walk in two declarations: a part of a function's code, by the way to it.
-/

namespace Go.Proofs.Ytfbmkepogcimlaa.Hx
open Go
def pathC : Code → List Nat → Code
  | .seq a _, 0 :: r => pathC a r
  | .seq _ b, _ :: r => pathC b r
  | c, _ => c
end Go.Proofs.Ytfbmkepogcimlaa.Hx

/-
  TopSegmentsAreFound: one sample more, just between two others, changes no effort; and an effort is found, too, in a part of an activity, cut at samples, in which it lies.
-/





namespace Go.Proofs.Ytfbmkepogcimlaa
open Go Go.RowKit Hx
set_option linter.unusedVariables false
set_option linter.unusedSimpArgs false
set_option maxRecDepth 8000
def mkV (D : ActD) (sa : Option Addr) (sn sc : Nat) (la : Option Addr) (ln lc : Nat) (ta : Option Addr) (tn tc : Nat) : ActV := ⟨D.name, D.sport, D.start, sa, sn, sc, la, ln, lc, ta, tn, tc, D.ss, D.ls, D.ts⟩
/-- Sizes that a model's activity keeps. -/
structure SzD (D : ActD) : Prop where
  nm : D.name.size ≤ 9223372036854775807
  lm : ∀ x ∈ D.ls, x.name.size ≤ 9223372036854775807
  tm : ∀ x ∈ D.ts, x.size ≤ 9223372036854775807
  lo : ∀ x ∈ D.ss, -9223372036854775808 ≤ x.at_ ∧ x.at_ ≤ 9223372036854775807
theorem okD {D : ActD} {w : World} {sa : Option Addr} {sn sc : Nat} {la : Option Addr} {ln lc : Nat} {ta : Option Addr} {tn tc : Nat} (h1 : Rd encSmp w.heap.size w sa sn sc D.ss) (h2 : Rd encLap w.heap.size w la ln lc D.ls) (h3 : Rd encStr w.heap.size w ta tn tc D.ts) (hz : SzD D) :
    (mkV D sa sn sc la ln lc ta tn tc).Ok w.heap.size w := ⟨h1, h2, h3, hz.nm, hz.lm, hz.tm, hz.lo⟩
theorem effortsD {D : ActD} {w : World} {sa : Option Addr} {sn sc : Nat} {la : Option Addr} {ln lc : Nat} {ta : Option Addr} {tn tc : Nat} (nm : ByteArray) (ga : Option Addr) (gn gc : Nat) (gs : List GateR) (hn : nm.size ≤ 9223372036854775807) (hS : Rd encGate w.heap.size w ga gn gc gs) (h : (mkV D sa sn sc la ln lc ta tn tc).Ok w.heap.size w) :
    Calls Try.prog 12 #[.agg #[.string nm, .slice ga gn gc], .agg #[.string D.name, .int .i64 D.sport, .int .i64 D.start, .slice sa sn sc, .slice la ln lc, .slice ta tn tc]] w fun e w' => ∃ a c L, e = .returned (.tuple #[.slice a L.length c, .int .i64 (effR nm gs D).2]) ∧ Below w.heap.size w w' ∧ OwnE w.heap.size w' 63 3 5 10000000 a L.length c L ∧ L.map (·.2) = (effR nm gs D).1 := by
  have h9 := match_Efforts nm ga gn gc gs (mkV D sa sn sc la ln lc ta tn tc) w hn hS h
  have e : (mkV D sa sn sc la ln lc ta tn tc).d = D := rfl
  rw [e] at h9
  exact h9
theorem effR_00 {nm : ByteArray} {gs : List GateR} {d : ActD} (h : ¬orL [chkSeg nm gs, chkA d] ≠ 0) : effR nm gs d = (effL gs.length (crossS gs (stepsL d.ss) (stepsL d.ss).length), 0) := if_neg h
theorem effR_ee {nm : ByteArray} {gs : List GateR} {d : ActD} (h : orL [chkSeg nm gs, chkA d] ≠ 0) : (effR nm gs d).2 ≠ 0 := by unfold effR; rw [if_pos h]; exact h
theorem or_parts {nm : ByteArray} {gs : List GateR} {d : ActD} : ¬orL [chkSeg nm gs, chkA d] ≠ 0 ↔ chkSeg nm gs = 0 ∧ chkA d = 0 := by
  unfold orL orL orL
  by_cases h1 : chkSeg nm gs ≠ 0
  · rw [if_pos h1]; exact ⟨fun h => absurd h1 h, fun h => absurd h.1 h1⟩
  · rw [if_neg h1]
    by_cases h2 : chkA d ≠ 0
    · rw [if_pos h2]; exact ⟨fun h => absurd h2 h, fun h => absurd h.2 h2⟩
    · rw [if_neg h2]; exact ⟨fun _ => ⟨Decidable.not_not.1 h1, Decidable.not_not.1 h2⟩, fun _ h => h rfl⟩
theorem eff_tms {nm : ByteArray} {gs : List GateR} {st : Int} {ss : List SmpR} (hseg : SegOk nm gs) (hok : SmpOk st ss) : ∀ l ∈ effL gs.length (crossS gs (stepsL ss) (stepsL ss).length), l.length = gs.length ∧ ∀ t ∈ l, 0 ≤ t ∧ t ≤ 1000000000 := by
  intro l hl
  have h1 := (effN_rows hseg.len.1 (crossS gs (stepsL ss) (stepsL ss).length) _).2 l hl
  refine ⟨h1.1, fun t ht => ?_⟩
  obtain ⟨i, hi⟩ := List.getElem?_of_mem ht
  obtain ⟨c, hc, _, rfl⟩ := h1.2 i t hi
  have := cross_bd hseg.g hok hc
  omega
/-- A cut at samples. -/
theorem cut_at {a : ActD} (hg : GoodA a) {i j : Nat} {x y : SmpR} (hij : i < j) (hx : a.ss[i]? = some x) (hy : a.ss[j]? = some y) (h0 : ¬(cutR a x.at_ y.at_).2 ≠ 0) : (cutR a x.at_ y.at_).1 = partD a (pcS a.ss i (j - i + 1)) x.at_ ∧ chkA (partD a (pcS a.ss i (j - i + 1)) x.at_) = 0 := by
  have hb := hg.smp.bd x (List.mem_of_getElem? hx)
  have hlt := upT hg.smp hij hx hy
  have hyl := (List.getElem?_eq_some_iff.1 hy).1
  have hl := List.getElem?_eq_getElem (l := a.ss) (i := a.ss.length - 1) (by omega)
  have hsp := spanL_get hl (by omega)
  have hle : y.at_ ≤ spanL a.ss := by
    by_cases h : j = a.ss.length - 1
    · subst h; rw [hl] at hy; rw [← Option.some.inj hy, hsp]; exact Int.le_refl _
    · have := upT hg.smp (show j < a.ss.length - 1 by omega) hy hl; omega
  have e : cutR a x.at_ y.at_ = partR a (pcS a.ss i (j - i + 1)) x.at_ := by
    rw [cutR_0 hg.chk (by omega) (by omega), cut_pc hg.smp hij hx hy]
  rw [e] at h0 ⊢
  by_cases h2 : chkA (partD a (pcS a.ss i (j - i + 1)) x.at_) ≠ 0
  · exfalso; unfold partR at h0; rw [if_pos h2] at h0; exact h0 h2
  · rw [partR_0 h2]; exact ⟨rfl, Decidable.not_not.1 h2⟩
theorem part_szD (A : ActV) {C : Nat} {w : World} (hA : A.Ok C w) (l : List SmpR) (b : Int) (hc : chkA (partD A.d l b) = 0) : SzD (partD A.d l b) := by
  have hg := goodA hc
  refine ⟨hA.nm, fun x hx => ?_, hA.tm, fun x hx => ?_⟩
  · obtain ⟨y, hy, rfl⟩ := List.mem_map.1 (List.mem_filter.1 hx).1
    exact hA.lm y hy
  · have := hg.smp.bd x hx
    omega
theorem shL_snoc (b : Int) {l : List Int} {k : Nat} {t : Int} (h : l[k]? = some t) : shL b (l.take (k + 1)) = shL b (l.take k) ++ [t - 1000 * b] := by
  unfold shL; rw [take_succ_get h, List.map_append]; rfl
theorem law_seg_err (nm : ByteArray) (ga : Option Addr) (gn gc : Nat) (gs : List GateR) (A : ActV) (k fr to : Int) (w : World) (hn : nm.size ≤ 9223372036854775807) (hS : Rd encGate w.heap.size w ga gn gc gs) (hA : A.Ok w.heap.size w) (hno : orL [chkSeg nm gs, chkA A.d] ≠ 0) :
    Calls Try.prog 4 #[.agg #[.string nm, .slice ga gn gc], .agg #[.string A.name, .int .i64 A.sport, .int .i64 A.start, .slice A.sa A.sn A.sc, .slice A.la A.ln A.lc, .slice A.ta A.tn A.tc], .int .i64 k, .int .i64 fr, .int .i64 to] w fun e w' => e = .returned (.bool true) ∧ Below w.heap.size w w' := by
  refine enterQ (N := 157) (C := fun _ => True) (H := []) (B := w.heap.size) (args := [_, _, _, _, _]) Try.func4 rfl rfl rfl (Nat.le_refl _) (Sat.nil _ _) fun Q hQ => ?_
  refine wp_seq' fun K1 hK1 => ?_
  refine wp_reg ?_
  refine ol_box 5 rfl rfl rfl fun b5 => ?_
  refine ol_box 6 rfl rfl rfl fun b6 => ?_
  refine ol_r (r_assign rfl) rfl ?_
  refine ol_nil (to_k0 (fun _ _ h => h) (hK1 _ _ _ _ _ ?_))
  clear hK1
  refine wp_seq' fun K2 hK2 => ?_
  refine wp_reg ?_
  refine ol_r (r_lda (id := 5) (n := 2) rfl rfl rfl ag52) rfl ?_
  refine ol_r (r_lda (id := 6) (n := 6) rfl rfl rfl ag57) rfl ?_
  refine ol_call rfl rfl cb12 rfl (fun w1 hb1 hs1 hB1 => ?_)
  refine Calls.mono (match_Efforts nm _ _ _ gs A _ hn (hS.at hb1 hB1) (hA.at hb1 hB1)) ?_
  rintro e w2 ⟨a5, c5, L, rfl, hb2, hs2, hL⟩
  refine After.below rfl hb1 hs1 hB1 hb2 ?_
  clear hs2 hb2 hB1 hs1 hb1 w2 w1
  refine ol_r (r_move rfl) rfl ?_
  refine ol_r (r_extract rfl rfl) rfl ?_
  refine ol_r (r_extract rfl rfl) rfl ?_
  refine ol_r (r_assign rfl) rfl ?_
  refine ol_r (r_assign rfl) rfl ?_
  refine ol_nil (to_k0 (fun _ _ h => h) (hK2 _ _ _ _ _ ?_))
  clear hK2
  refine wp_seq' fun K3 hK3 => ?_
  refine wp_seq' fun K4 hK4 => ?_
  refine wp_reg ?_
  refine ol_r (r_move rfl) rfl ?_
  refine ol_r (r_neq rfl rfl) rfl ?_
  refine ol_nil (to_k0 (fun _ _ h => h) (hK4 _ _ _ _ _ ?_))
  clear hK4
  first | refine wp_condD rfl (fun hc36 => ?_) (fun hc36 => ?_) | refine wp_condN rfl (fun hc36 => ?_) (fun hc36 => ?_) | refine wp_condNB rfl (fun hc36 => ?_) (fun hc36 => ?_) | refine wp_cond' rfl (fun hc36 => ?_) (fun hc36 => ?_)
  ·refine wp_seq' fun K5 hK5 => ?_
   refine wp_reg ?_
   refine ol_call rfl rfl cb7 rfl (fun w1 hb1 hs1 hB1 => Calls.mono (top_told _) ?_)
   rintro e w2 ⟨rfl, hb2⟩
   refine After.below rfl hb1 hs1 hB1 hb2 ?_
   clear hb2 hB1 hs1 hb1 w2 w1
   refine ol_r (r_assign rfl) rfl ?_
   refine ol_nil (to_k0 (fun _ _ h => h) (hK5 _ _ _ _ _ ?_))
   clear hK5
   refine hQ.ret (rvs1 (rv_t rfl)) (fun _ _ h => h) fun w hb hs hB hkd => ?_
   exact ⟨rfl, hb⟩
  ·exfalso
   exact hc36 (effR_ee hno)
theorem law_seg_10 (nm : ByteArray) (ga : Option Addr) (gn gc : Nat) (gs : List GateR) (A : ActV) (fr to : Int) (w : World) (hn : nm.size ≤ 9223372036854775807) (hS : Rd encGate w.heap.size w ga gn gc gs) (hA : A.Ok w.heap.size w) (hno : ¬orL [chkSeg nm gs, chkA A.d] ≠ 0)
    (L : List (Sl × List Int)) (hL : L.map (·.2) = effL gs.length (crossS gs (stepsL A.ss) (stepsL A.ss).length)) (hLf : L.length ≤ 9223372036854775807) (hinn : ∀ (j : Nat) (x : Sl × List Int), L[j]? = some x → x.2.length = x.1.2.1 ∧ x.1.2.1 ≤ 9223372036854775807) (b5 b6 b13 : Nat) (ea : Option Addr) (ec : Nat) (Q : Exit → Act → World → Prop)
    (hQ : Hx.Ends Try.prog ⟨157, fun _ => True, [], false⟩ w.heap.size w Try.f4.results (fun e w' => e = .returned (.bool true) ∧ Below w.heap.size w w') Q) :
    WP Try.prog ⟨157, fun _ => True, [], false⟩ w.heap.size w (pathC (Try.f4.body.getD .skip) [1, 1, 1, 1, 1]) Q [(5, .pointer (some ⟨b5, 0, none⟩)), (6, .pointer (some ⟨b6, 0, none⟩)), (13, .pointer (some ⟨b13, 0, none⟩)), (3, .int .i64 fr), (4, .int .i64 to), (11, .slice ea L.length ec)]
      ([(1005, .row ea L.length ec (encSl.enc (L.map (·.1))) 63 1), (5, .blk b5 (pairs 0 [.string nm, .slice ga gn gc]) 52), (6, .blk b6 (pairs 0 [.string A.name, .int .i64 A.sport, .int .i64 A.start, .slice A.sa A.sn A.sc, .slice A.la A.ln A.lc, .slice A.ta A.tn A.tc]) 57), (13, .blk b13 (pairs 0 [.func (.func 13) #[] #[]]) 65)] ++ innH 3 10000000 L) := by
  have hsn := hA.s.len
  have hfit := hA.s.fit
  have hgn := hS.len
  obtain ⟨hcs, hca⟩ := or_parts.1 hno
  have hseg := segOk hcs
  have hga := goodA hca
  have hok := hga.smp
  have hgl := hseg.len
  have hmem : ∀ (j : Nat) (x : Sl × List Int), L[j]? = some x → x.2 ∈ effL gs.length (crossS gs (stepsL A.ss) (stepsL A.ss).length) := fun j x hx => by
    have h1 : x.2 ∈ L.map (·.2) := List.mem_map_of_mem (List.mem_of_getElem? hx)
    rw [hL] at h1; exact h1
  have hml : (L.map (·.1)).length = L.length := List.length_map _
  show WP _ _ _ _ (Code.seq _ _) _ _ _
  refine wp_seq' fun K1 hK1 => ?_
  refine wp_seq' fun K2 hK2 => ?_
  refine wp_reg ?_
  refine ol_r (r_move rfl) rfl ?_
  refine ol_r (r_lss rfl rfl) rfl ?_
  refine ol_r (r_move rfl) rfl ?_
  refine ol_split (d := 62) rfl (fun hs62 => ?_) (fun hs62 => ?_)
  ·have phs62 := hs62; try simp only [decide_eq_true_eq, decide_eq_false_iff_not, Bool.not_eq_true', Bool.not_eq_false', Bool.not_true, Bool.not_false] at phs62
   refine ol_s rfl rfl hs62 rfl ?_
   refine ol_s rfl rfl hs62 rfl ?_
   refine ol_s rfl rfl hs62 rfl ?_
   refine ol_r (r_pickT rfl hs62 rfl) rfl ?_
   refine ol_r (r_move rfl) rfl ?_
   refine ol_s rfl rfl rfl rfl ?_
   refine ol_s rfl rfl rfl rfl ?_
   refine ol_s rfl rfl rfl rfl ?_
   refine ol_s rfl rfl rfl rfl ?_
   refine ol_s rfl rfl rfl rfl ?_
   refine ol_r (r_pickT rfl rfl rfl) rfl ?_
   refine ol_nil (to_k0 (fun _ _ h => h) (hK2 _ _ _ _ _ ?_))
   clear hK2
   refine wp_condT rfl ?_
   refine wp_seq' fun K3 hK3 => ?_
   refine wp_reg ?_
   refine ol_call rfl rfl cb7 rfl (fun w1 hb1 hs1 hB1 => Calls.mono (top_told _) ?_)
   rintro e w2 ⟨rfl, hb2⟩
   refine After.below rfl hb1 hs1 hB1 hb2 ?_
   clear hb2 hB1 hs1 hb1 w2 w1
   refine ol_r (r_assign rfl) rfl ?_
   refine ol_nil (to_k0 (fun _ _ h => h) (hK3 _ _ _ _ _ ?_))
   clear hK3
   refine hQ.ret (rvs1 (rv_t rfl)) (fun _ _ h => h) fun w hb hs hB hkd => ?_
   exact ⟨rfl, hb⟩
  ·have phs62 := hs62; try simp only [decide_eq_true_eq, decide_eq_false_iff_not, Bool.not_eq_true', Bool.not_eq_false', Bool.not_true, Bool.not_false] at phs62
   refine ol_g rfl rfl hs62 ?_
   refine ol_r (r_move rfl) rfl ?_
   refine ol_g rfl rfl hs62 ?_
   refine ol_r (r_move rfl) rfl ?_
   refine ol_g rfl rfl hs62 ?_
   refine ol_r (r_geq rfl rfl) rfl ?_
   refine ol_r (r_pickF rfl hs62 rfl) rfl ?_
   refine ol_r (r_move rfl) rfl ?_
   refine ol_split (d := 67) rfl (fun hs67 => ?_) (fun hs67 => ?_)
   ·have phs67 := hs67; try simp only [decide_eq_true_eq, decide_eq_false_iff_not, Bool.not_eq_true', Bool.not_eq_false', Bool.not_true, Bool.not_false] at phs67
    refine ol_s rfl rfl hs67 rfl ?_
    refine ol_s rfl rfl hs67 rfl ?_
    refine ol_s rfl rfl hs67 rfl ?_
    refine ol_s rfl rfl hs67 rfl ?_
    refine ol_s rfl rfl hs67 rfl ?_
    refine ol_r (r_pickT rfl hs67 rfl) rfl ?_
    refine ol_nil (to_k0 (fun _ _ h => h) (hK2 _ _ _ _ _ ?_))
    clear hK2
    refine wp_condT rfl ?_
    refine wp_seq' fun K4 hK4 => ?_
    refine wp_reg ?_
    refine ol_call rfl rfl cb7 rfl (fun w1 hb1 hs1 hB1 => Calls.mono (top_told _) ?_)
    rintro e w2 ⟨rfl, hb2⟩
    refine After.below rfl hb1 hs1 hB1 hb2 ?_
    clear hb2 hB1 hs1 hb1 w2 w1
    refine ol_r (r_assign rfl) rfl ?_
    refine ol_nil (to_k0 (fun _ _ h => h) (hK4 _ _ _ _ _ ?_))
    clear hK4
    refine hQ.ret (rvs1 (rv_t rfl)) (fun _ _ h => h) fun w hb hs hB hkd => ?_
    exact ⟨rfl, hb⟩
   ·have phs67 := hs67; try simp only [decide_eq_true_eq, decide_eq_false_iff_not, Bool.not_eq_true', Bool.not_eq_false', Bool.not_true, Bool.not_false] at phs67
    refine ol_g rfl rfl hs67 ?_
    refine ol_r (r_move rfl) rfl ?_
    refine ol_g rfl rfl hs67 ?_
    refine ol_r (r_fa (o' := 3) rfl fl57_3 rfl) rfl ?_
    refine ol_g rfl rfl hs67 ?_
    refine ol_r (r_ld (id := 6) rfl rfl rfl sc53) rfl ?_
    refine ol_g rfl rfl hs67 ?_
    refine ol_r (r_len rfl sl53) rfl ?_
    refine ol_g rfl rfl hs67 ?_
    refine ol_r (r_geq rfl rfl) rfl ?_
    refine ol_r (r_pickF rfl hs67 rfl) rfl ?_
    refine ol_nil (to_k0 (fun _ _ h => h) (hK2 _ _ _ _ _ ?_))
    clear hK2
    first | refine wp_condD rfl (fun hc73 => ?_) (fun hc73 => ?_) | refine wp_condN rfl (fun hc73 => ?_) (fun hc73 => ?_) | refine wp_condNB rfl (fun hc73 => ?_) (fun hc73 => ?_) | refine wp_cond' rfl (fun hc73 => ?_) (fun hc73 => ?_)
    ·refine wp_seq' fun K5 hK5 => ?_
     refine wp_reg ?_
     refine ol_call rfl rfl cb7 rfl (fun w1 hb1 hs1 hB1 => Calls.mono (top_told _) ?_)
     rintro e w2 ⟨rfl, hb2⟩
     refine After.below rfl hb1 hs1 hB1 hb2 ?_
     clear hb2 hB1 hs1 hb1 w2 w1
     refine ol_r (r_assign rfl) rfl ?_
     refine ol_nil (to_k0 (fun _ _ h => h) (hK5 _ _ _ _ _ ?_))
     clear hK5
     refine hQ.ret (rvs1 (rv_t rfl)) (fun _ _ h => h) fun w hb hs hB hkd => ?_
     exact ⟨rfl, hb⟩
    ·refine wp_skip' (to_k0 (fun _ _ h => h) (hK1 _ _ _ _ _ ?_))
     clear hK1
     refine wp_seq' fun K6 hK6 => ?_
     refine wp_regq (by kernel_rfl) (by kernel_rfl) ?_
     refine ql_r (r_fa (o' := 3) rfl fl57_3 rfl) rfl ?_
     refine ql_r (r_ld (id := 6) rfl rfl rfl sc53) rfl ?_
     refine ql_r (r_move rfl) rfl ?_
     refine ql_ixr hA.s rfl rfl sl53 (by omega) rfl fun x78 hx78 => ?_
     try simp only [Int.toNat_natCast] at hx78
     refine ql_r (r_faw rfl (ix_some hA.s (by omega)) fl70_0) rfl ?_
     refine ql_r (r_ldw rfl (fun w1 hb1 hs1 hB1 => Rd.loadsF (o := 0) hA.s sc3 hx78 hb1 rfl)) rfl ?_
     refine ql_r (r_fa (o' := 3) rfl fl57_3 rfl) rfl ?_
     refine ql_r (r_ld (id := 6) rfl rfl rfl sc53) rfl ?_
     refine ql_r (r_move rfl) rfl ?_
     refine ql_ixr hA.s rfl rfl sl53 (by omega) rfl fun x84 hx84 => ?_
     try simp only [Int.toNat_natCast] at hx84
     refine ql_r (r_faw rfl (ix_some hA.s (by omega)) fl70_0) rfl ?_
     refine ql_r (r_ldw rfl (fun w1 hb1 hs1 hB1 => Rd.loadsF (o := 0) hA.s sc3 hx84 hb1 rfl)) rfl ?_
     have bx := hok.bd x78 (List.mem_of_getElem? hx78)
     have b_y := hok.bd x84 (List.mem_of_getElem? hx84)
     refine ql_r (r_assign rfl) rfl ?_
     refine ql_r (r_assign rfl) rfl ?_
     refine ql_nil (to_k0 (fun _ _ h => h) (hK6 _ _ _ _ _ ?_))
     clear hK6
     refine wp_seq' fun K7 hK7 => ?_
     refine wp_reg ?_
     refine ol_r (r_lda (id := 6) (n := 6) rfl rfl rfl ag57) rfl ?_
     refine ol_r (r_move rfl) rfl ?_
     refine ol_r (r_move rfl) rfl ?_
     refine ol_call rfl rfl cb17 rfl (fun w1 hb1 hs1 hB1 => ?_)
     refine Calls.mono (track_Cut A x78.at_ x84.at_ _ (hA.at hb1 hB1)) ?_
     rintro e w2 ⟨⟨sa1, sn1, sc1, la1, ln1, lc1, ta1, tn1, tc1, rfl, hs2⟩, hb2⟩
     refine After.more rfl hb1 hs1 hB1 hb2 (hs2.three 1001 1002 1003 1011 1012 1013 (by decide) (by decide) (by decide) rfl rfl rfl (Ent.le_refl _) (Ent.le_refl _) (Ent.le_refl _)) ?_
     clear hs2 hb2 hB1 hs1 hb1 w2 w1
     refine ol_r (r_move rfl) rfl ?_
     refine ol_r (r_extract rfl rfl) rfl ?_
     refine ol_r (r_extract rfl rfl) rfl ?_
     refine ol_alloc 20 z57 rfl fun b20 => ?_
     refine ol_store (id := 20) rfl rfl rfl rfl sz57 rfl rfl (by first | decide | exact Nat.zero_lt_succ _ | simp) ?_
     refine ol_r (r_assign rfl) rfl ?_
     refine ol_nil (to_k0 (fun _ _ h => h) (hK7 _ _ _ _ _ ?_))
     clear hK7
     refine wp_seq' fun K8 hK8 => ?_
     refine wp_seq' fun K9 hK9 => ?_
     refine wp_reg ?_
     refine ol_r (r_move rfl) rfl ?_
     refine ol_r (r_neq rfl rfl) rfl ?_
     refine ol_nil (to_k0 (fun _ _ h => h) (hK9 _ _ _ _ _ ?_))
     clear hK9
     first | refine wp_condD rfl (fun hc95 => ?_) (fun hc95 => ?_) | refine wp_condN rfl (fun hc95 => ?_) (fun hc95 => ?_) | refine wp_condNB rfl (fun hc95 => ?_) (fun hc95 => ?_) | refine wp_cond' rfl (fun hc95 => ?_) (fun hc95 => ?_)
     ·refine wp_seq' fun K10 hK10 => ?_
      refine wp_reg ?_
      refine ol_call rfl rfl cb7 rfl (fun w1 hb1 hs1 hB1 => Calls.mono (top_told _) ?_)
      rintro e w2 ⟨rfl, hb2⟩
      refine After.below rfl hb1 hs1 hB1 hb2 ?_
      clear hb2 hB1 hs1 hb1 w2 w1
      refine ol_r (r_assign rfl) rfl ?_
      refine ol_nil (to_k0 (fun _ _ h => h) (hK10 _ _ _ _ _ ?_))
      clear hK10
      refine hQ.ret (rvs1 (rv_t rfl)) (fun _ _ h => h) fun w hb hs hB hkd => ?_
      exact ⟨rfl, hb⟩
     ·refine wp_skip' (to_k0 (fun _ _ h => h) (hK8 _ _ _ _ _ ?_))
      clear hK8
      refine wp_seq' fun K11 hK11 => ?_
      refine wp_reg ?_
      obtain ⟨hcut, hcc⟩ := cut_at hga (i := fr.toNat) (j := to.toNat) (by omega) hx78 hx84 hc95
      have hsz : SzD (cutR A.d x78.at_ x84.at_).1 := by rw [hcut]; exact part_szD A hA _ _ hcc
      have hnoD : ¬orL [chkSeg nm gs, chkA (cutR A.d x78.at_ x84.at_).1] ≠ 0 := by rw [hcut]; exact or_parts.2 ⟨hcs, hcc⟩
      refine ol_r (r_lda (id := 5) (n := 2) rfl rfl rfl ag52) rfl ?_
      refine ol_r (r_lda (id := 20) (n := 6) rfl rfl rfl ag57) rfl ?_
      refine ol_call rfl rfl cb12 rfl (fun w1 hb1 hs1 hB1 => ?_)
      refine Calls.mono (effortsD (D := (cutR A.d x78.at_ x84.at_).1) nm _ _ _ gs hn (hS.at hb1 hB1) (okD (Sat.rd hs1 (id := 1011) rfl rfl) (Sat.rd hs1 (id := 1012) rfl rfl) (Sat.rd hs1 (id := 1013) rfl rfl) hsz)) ?_
      rintro e w2 ⟨a22, c22, M, rfl, hb2, hs2, hM⟩
      rw [effR_00 hnoD] at hM ⊢
      refine After.moreE rfl hb1 hs1 hB1 hb2 (hs2.num (by decide) 1022 20000000000000000000 (by decide)) (by decide) (fun i hi _ => ?_) ?_
      · repeat' refine (look_cons_ne _ _ (by omega)).trans ?_
        exact look_inn_none (.inr (by omega))
      clear hs2 hb2 hB1 hs1 hb1 w2 w1
      refine ol_r (r_move rfl) rfl ?_
      refine ol_r (r_extract rfl rfl) rfl ?_
      refine ol_r (r_extract rfl rfl) rfl ?_
      refine ol_r (r_assign rfl) rfl ?_
      refine ol_r (r_assign rfl) rfl ?_
      refine ol_nil (to_k0 (fun _ _ h => h) (hK11 _ _ _ _ _ ?_))
      clear hK11
      refine wp_seq' fun K12 hK12 => ?_
      refine wp_seq' fun K13 hK13 => ?_
      refine wp_reg ?_
      refine ol_r (r_move rfl) rfl ?_
      refine ol_r (r_len rfl sl58) rfl ?_
      refine ol_r (r_move rfl) rfl ?_
      refine ol_nil (to_k0 (fun _ _ h => h) (hK13 _ _ _ _ _ ?_))
      clear hK13
      refine wp_block' ?_
      apply wp_loopT (σ := Nat) (fun s => s ≤ L.length) (fun s => [(105, .int .i64 s)]) [(13, _), (18, _), (19, _), (22, _), (23, _), (103, _), (104, _)] (fun s => []) [(5, _), (6, _), (13, _), (20, _), (1005, _), (1011, _), (1012, _), (1013, _), (1022, _)] (fun s => innH 3 10000000 L ++ innH 3 20000000000000000000 M) (fun s => L.length - s) (0)
      ·try dsimp only
       exact Nat.zero_le _
      ·exact (sub_cons rfl sub_nil)
      ·exact (sub_cons rfl (sub_cons rfl (sub_cons rfl (sub_cons rfl (sub_cons rfl (sub_cons rfl (sub_cons rfl sub_nil)))))))
      ·exact subH_nil
      ·exact (subH_same rfl (subH_same rfl (subH_same rfl (subH_same rfl (subH_same rfl (subH_same rfl (subH_same rfl (subH_same rfl (subH_same rfl subH_nil)))))))))
      ·refine subH_app (subH_inn fun j x hj => ?_) (subH_inn fun j x hj => ?_)
       · repeat' refine (look_cons_ne _ _ (by omega)).trans ?_
         exact look_inn_app hj
       · repeat' refine (look_cons_ne _ _ (by omega)).trans ?_
         exact (look_inn_skip (.inr (by omega))).trans (look_inn hj)
      ·rintro k hk
       intro K14 hK14
       refine wp_seq' fun K15 hK15 => ?_
       refine wp_reg ?_
       refine ol_r (r_lss rfl rfl) rfl ?_
       refine ol_nil (to_k0 (fun _ _ h => h) (hK15 _ _ _ _ _ ?_))
       clear hK15
       refine wp_seq' fun K16 hK16 => ?_
       first | refine wp_condD rfl (fun hc106 => ?_) (fun hc106 => ?_) | refine wp_condN rfl (fun hc106 => ?_) (fun hc106 => ?_) | refine wp_condNB rfl (fun hc106 => ?_) (fun hc106 => ?_) | refine wp_cond' rfl (fun hc106 => ?_) (fun hc106 => ?_)
       ·refine wp_skip' (to_k0 (fun _ _ h => h) (hK16 _ _ _ _ _ ?_))
        clear hK16
        refine wp_seq' fun K17 hK17 => ?_
        refine wp_block' ?_
        refine wp_seq' fun K18 hK18 => ?_
        refine wp_reg ?_
        refine ol_ixo (id := 1005) encSl _ rfl rfl rfl rfl sl58 (by omega) rfl fun x107 hx107 => ?_
        try simp only [Int.toNat_natCast] at hx107
        try simp only [Int.toNat_natCast] at hx107
        refine ol_r (r_ldw rfl (fun w1 hb1 hs1 hB1 => ld_own (id := 1005) hs1 rfl rfl ty63 hx107)) rfl ?_
        obtain ⟨z, hz, hez⟩ : ∃ z, L[k]? = some z ∧ z.1 = x107 := by
          have h9 : (L.map (·.1))[k]? = some x107 := by simpa using hx107
          rw [List.getElem?_map] at h9
          obtain ⟨y0, e1, e2⟩ := Option.map_eq_some_iff.1 h9
          exact ⟨y0, e1, e2⟩
        subst hez
        have hzi := hinn k z hz
        obtain ⟨hzl, hzt⟩ := eff_tms hseg hok z.2 (hmem k z hz)
        refine ol_alloc 25 z63 rfl fun b25 => ?_
        refine ol_store (id := 25) rfl rfl rfl rfl sz63 rfl rfl (by first | decide | exact Nat.zero_lt_succ _ | simp) ?_
        refine ol_nil (to_k0 (fun _ _ h => h) (hK18 _ _ _ _ _ ?_))
        clear hK18
        refine wp_seq' fun K19 hK19 => ?_
        refine wp_seq' fun K20 hK20 => ?_
        refine wp_reg ?_
        refine ol_r (r_fa (o' := 0) rfl fl63_0 rfl) rfl ?_
        refine ol_r (r_ld (id := 25) rfl rfl rfl sc61) rfl ?_
        refine ol_ixo (id := (10000000 + k)) encI z.2 rfl ((by (repeat' refine (look_cons_ne _ _ (by omega)).trans ?_); exact look_inn_app hz)) rfl rfl sl61 (by omega) rfl fun x111 hx111 => ?_
        try simp only [Int.toNat_natCast] at hx111
        refine ol_r (r_ldw rfl (fun w1 hb1 hs1 hB1 => show Loads _ _ _ _ (.int .i64 x111) from ld_own (id := (10000000 + k)) hs1 ((by (repeat' refine (look_cons_ne _ _ (by omega)).trans ?_); exact look_inn_app hz)) rfl ty3 hx111)) rfl ?_
        refine ol_r (r_move rfl) rfl ?_
        refine ol_r (r_mul rfl rfl (by omega)) rfl ?_
        refine ol_r (r_leq rfl rfl) rfl ?_
        refine ol_r (r_move rfl) rfl ?_
        refine ol_split (d := 116) rfl (fun hs116 => ?_) (fun hs116 => ?_)
        ·have phs116 := hs116; try simp only [decide_eq_true_eq, decide_eq_false_iff_not, Bool.not_eq_true', Bool.not_eq_false', Bool.not_true, Bool.not_false] at phs116
         refine ol_s rfl rfl hs116 rfl ?_
         refine ol_s rfl rfl hs116 rfl ?_
         refine ol_s rfl rfl hs116 rfl ?_
         refine ol_s rfl rfl hs116 rfl ?_
         refine ol_s rfl rfl hs116 rfl ?_
         refine ol_s rfl rfl hs116 rfl ?_
         refine ol_s rfl rfl hs116 rfl ?_
         refine ol_s rfl rfl hs116 rfl ?_
         refine ol_s rfl rfl hs116 rfl ?_
         refine ol_s rfl rfl hs116 rfl ?_
         refine ol_s rfl rfl hs116 rfl ?_
         refine ol_r (r_pickT rfl hs116 rfl) rfl ?_
         refine ol_nil (to_k0 (fun _ _ h => h) (hK20 _ _ _ _ _ ?_))
         clear hK20
         refine wp_condT rfl ?_
         refine wp_exit' (to_k0 (fun _ _ h => h) (hK17 _ _ _ _ _ ?_))
         clear hK17
         refine wp_reg ?_
         refine ol_r (r_add rfl rfl (by omega)) rfl ?_
         refine ol_r (r_move rfl) rfl ?_
         refine ol_nil (to_k0 (fun _ _ h => h) (hK14 (k + 1) _ _ ?_ ?_ (sub_cons rfl sub_nil) (sub_cons rfl (sub_cons rfl (sub_cons rfl (sub_cons rfl (sub_cons rfl (sub_cons rfl (sub_cons rfl sub_nil))))))) (by exact subH_nil) (subH_same rfl (subH_same rfl (subH_same rfl (subH_same rfl (subH_same rfl (subH_same rfl (subH_same rfl (subH_same rfl (subH_same rfl subH_nil))))))))) ?_))
         ·try dsimp only
          omega
         ·try dsimp only
          omega
         ·try dsimp only
          refine subH_app (subH_inn fun j x hj => ?_) (subH_inn fun j x hj => ?_)
          · repeat' refine (look_cons_ne _ _ (by omega)).trans ?_
            exact look_inn_app hj
          · repeat' refine (look_cons_ne _ _ (by omega)).trans ?_
            exact (look_inn_skip (.inr (by omega))).trans (look_inn hj)
        ·have phs116 := hs116; try simp only [decide_eq_true_eq, decide_eq_false_iff_not, Bool.not_eq_true', Bool.not_eq_false', Bool.not_true, Bool.not_false] at phs116
         refine ol_g rfl rfl hs116 ?_
         refine ol_r (r_fa (o' := 0) rfl fl63_0 rfl) rfl ?_
         refine ol_g rfl rfl hs116 ?_
         refine ol_r (r_ld (id := 25) rfl rfl rfl sc61) rfl ?_
         refine ol_g rfl rfl hs116 ?_
         refine ol_r (r_fa (o' := 0) rfl fl63_0 rfl) rfl ?_
         refine ol_g rfl rfl hs116 ?_
         refine ol_r (r_ld (id := 25) rfl rfl rfl sc61) rfl ?_
         refine ol_g rfl rfl hs116 ?_
         refine ol_r (r_len rfl sl61) rfl ?_
         refine ol_g rfl rfl hs116 ?_
         refine ol_r (r_sub rfl rfl (by omega)) rfl ?_
         refine ol_g rfl rfl hs116 ?_
         refine ol_ixo (id := (10000000 + k)) encI z.2 rfl ((by (repeat' refine (look_cons_ne _ _ (by omega)).trans ?_); exact look_inn_app hz)) rfl rfl sl61 (by omega) rfl fun x123 hx123 => ?_
         try simp only [Int.toNat_natCast] at hx123
         refine ol_g rfl rfl hs116 ?_
         refine ol_r (r_ldw rfl (fun w1 hb1 hs1 hB1 => show Loads _ _ _ _ (.int .i64 x123) from ld_own (id := (10000000 + k)) hs1 ((by (repeat' refine (look_cons_ne _ _ (by omega)).trans ?_); exact look_inn_app hz)) rfl ty3 hx123)) rfl ?_
         refine ol_g rfl rfl hs116 ?_
         refine ol_r (r_move rfl) rfl ?_
         refine ol_g rfl rfl hs116 ?_
         refine ol_r (r_mul rfl rfl (by omega)) rfl ?_
         refine ol_g rfl rfl hs116 ?_
         refine ol_r (r_geq rfl rfl) rfl ?_
         refine ol_r (r_pickF rfl hs116 rfl) rfl ?_
         refine ol_nil (to_k0 (fun _ _ h => h) (hK20 _ _ _ _ _ ?_))
         clear hK20
         first | refine wp_condD rfl (fun hc128 => ?_) (fun hc128 => ?_) | refine wp_condN rfl (fun hc128 => ?_) (fun hc128 => ?_) | refine wp_condNB rfl (fun hc128 => ?_) (fun hc128 => ?_) | refine wp_cond' rfl (fun hc128 => ?_) (fun hc128 => ?_)
         ·refine wp_exit' (to_k0 (fun _ _ h => h) (hK17 _ _ _ _ _ ?_))
          clear hK17
          refine wp_reg ?_
          refine ol_r (r_add rfl rfl (by omega)) rfl ?_
          refine ol_r (r_move rfl) rfl ?_
          refine ol_nil (to_k0 (fun _ _ h => h) (hK14 (k + 1) _ _ ?_ ?_ (sub_cons rfl sub_nil) (sub_cons rfl (sub_cons rfl (sub_cons rfl (sub_cons rfl (sub_cons rfl (sub_cons rfl (sub_cons rfl sub_nil))))))) (by exact subH_nil) (subH_same rfl (subH_same rfl (subH_same rfl (subH_same rfl (subH_same rfl (subH_same rfl (subH_same rfl (subH_same rfl (subH_same rfl subH_nil))))))))) ?_))
          ·try dsimp only
           omega
          ·try dsimp only
           omega
          ·try dsimp only
           refine subH_app (subH_inn fun j x hj => ?_) (subH_inn fun j x hj => ?_)
           · repeat' refine (look_cons_ne _ _ (by omega)).trans ?_
             exact look_inn_app hj
           · repeat' refine (look_cons_ne _ _ (by omega)).trans ?_
             exact (look_inn_skip (.inr (by omega))).trans (look_inn hj)
         ·refine wp_skip' (to_k0 (fun _ _ h => h) (hK19 _ _ _ _ _ ?_))
          clear hK19
          refine wp_seq' fun K21 hK21 => ?_
          refine wp_reg ?_
          refine ol_r (r_build rfl (fun _ => bd63 _)) rfl ?_
          refine ol_alloc 26 z63 rfl fun b26 => ?_
          refine ol_nilrow 3026 3 1 ?_
          refine ol_store (id := 26) rfl rfl rfl rfl sz63 rfl rfl (by first | decide | exact Nat.zero_lt_succ _ | simp) ?_
          refine ol_nil (to_k0 (fun _ _ h => h) (hK21 _ _ _ _ _ ?_))
          clear hK21
          refine wp_seq' fun K22 hK22 => ?_
          refine wp_seq' fun K23 hK23 => ?_
          refine wp_reg ?_
          refine ol_r (r_fa (o' := 0) rfl fl63_0 rfl) rfl ?_
          refine ol_r (r_ld (id := 25) rfl rfl rfl sc61) rfl ?_
          refine ol_r (r_len rfl sl61) rfl ?_
          refine ol_r (r_move rfl) rfl ?_
          refine ol_nil (to_k0 (fun _ _ h => h) (hK23 _ _ _ _ _ ?_))
          clear hK23
          refine wp_block' ?_
          apply wp_loopT (σ := Nat × Option Addr × Nat) (fun s => s.1 ≤ z.1.2.1) (fun s => [(133, .int .i64 s.1)]) [(13, _), (18, _), (19, _), (22, _), (23, _), (26, _), (103, _), (104, _), (105, _), (131, _), (132, _)] (fun s => [(26, .blk b26 (pairs 0 [.slice s.2.1 s.1 s.2.2]) 63), (3026, .row s.2.1 s.1 s.2.2 (encI.enc (shL x78.at_ (z.2.take s.1))) 3 1)]) [(5, _), (6, _), (13, _), (20, _), (25, _), (1005, _), (1011, _), (1012, _), (1013, _), (1022, _)] (fun s => innH 3 10000000 L ++ innH 3 20000000000000000000 M) (fun s => z.1.2.1 - s.1) ((0, none, 0))
          ·try dsimp only
           exact Nat.zero_le _
          ·exact (sub_cons rfl sub_nil)
          ·exact (sub_cons rfl (sub_cons rfl (sub_cons rfl (sub_cons rfl (sub_cons rfl (sub_cons rfl (sub_cons rfl (sub_cons rfl (sub_cons rfl (sub_cons rfl (sub_cons rfl sub_nil)))))))))))
          ·exact (subH_blk rfl (by repeat' first | exact sub_nil | refine sub_cons rfl ?_) (subH_row rfl (by first | (dsimp only; rfl; done) | (rfl; done) | (dsimp only; done)) subH_nil))
          ·exact (subH_same rfl (subH_same rfl (subH_same rfl (subH_same rfl (subH_same rfl (subH_same rfl (subH_same rfl (subH_same rfl (subH_same rfl (subH_same rfl subH_nil))))))))))
          ·refine subH_app (subH_inn fun j x hj => ?_) (subH_inn fun j x hj => ?_)
           · repeat' refine (look_cons_ne _ _ (by omega)).trans ?_
             exact look_inn_app hj
           · repeat' refine (look_cons_ne _ _ (by omega)).trans ?_
             exact (look_inn_skip (.inr (by omega))).trans (look_inn hj)
          ·rintro ⟨i, ma, mc⟩ hi
           dsimp only at hi ⊢
           intro K24 hK24
           refine wp_seq' fun K25 hK25 => ?_
           refine wp_reg ?_
           refine ol_r (r_lss rfl rfl) rfl ?_
           refine ol_nil (to_k0 (fun _ _ h => h) (hK25 _ _ _ _ _ ?_))
           clear hK25
           refine wp_seq' fun K26 hK26 => ?_
           first | refine wp_condD rfl (fun hc134 => ?_) (fun hc134 => ?_) | refine wp_condN rfl (fun hc134 => ?_) (fun hc134 => ?_) | refine wp_condNB rfl (fun hc134 => ?_) (fun hc134 => ?_) | refine wp_cond' rfl (fun hc134 => ?_) (fun hc134 => ?_)
           ·refine wp_skip' (to_k0 (fun _ _ h => h) (hK26 _ _ _ _ _ ?_))
            clear hK26
            refine wp_seq' fun K27 hK27 => ?_
            refine wp_block' ?_
            refine wp_seq' fun K28 hK28 => ?_
            refine wp_reg ?_
            refine ol_ixo (id := (10000000 + k)) encI z.2 rfl ((by (repeat' refine (look_cons_ne _ _ (by omega)).trans ?_); exact look_inn_app hz)) rfl rfl sl61 (by omega) rfl fun x135 hx135 => ?_
            try simp only [Int.toNat_natCast] at hx135
            refine ol_r (r_ldw rfl (fun w1 hb1 hs1 hB1 => show Loads _ _ _ _ (.int .i64 x135) from ld_own (id := (10000000 + k)) hs1 ((by (repeat' refine (look_cons_ne _ _ (by omega)).trans ?_); exact look_inn_app hz)) rfl ty3 hx135)) rfl ?_
            have ht := hzt x135 (List.mem_of_getElem? hx135)
            refine ol_r (r_assign rfl) rfl ?_
            refine ol_nil (to_k0 (fun _ _ h => h) (hK28 _ _ _ _ _ ?_))
            clear hK28
            refine wp_reg ?_
            refine ol_r (r_fa (o' := 0) rfl fl63_0 rfl) rfl ?_
            refine ol_r (r_ld (id := 26) rfl rfl rfl sc61) rfl ?_
            refine ol_r (r_move rfl) rfl ?_
            refine ol_r (r_move rfl) rfl ?_
            refine ol_r (r_mul rfl rfl (by omega)) rfl ?_
            refine ol_r (r_sub rfl rfl (by omega)) rfl ?_
            refine ol_bs1 143 rfl rfl rw61 rfl rfl rfl fun a143 => ?_
            refine ol_append1 (id := 3026) (id2 := 143) rfl rfl rfl rfl rfl rw61 (by omega) rfl fun a144 c144 => ?_
            refine ol_r (r_fa (o' := 0) rfl fl63_0 rfl) rfl ?_
            refine ol_store (id := 26) rfl rfl rfl rfl sz61 rfl rfl (by first | decide | exact Nat.zero_lt_succ _ | simp) ?_
            refine ol_nil (to_k0 (fun _ _ h => h) (hK27 _ _ _ _ _ ?_))
            clear hK27
            refine wp_reg ?_
            refine ol_r (r_add rfl rfl (by omega)) rfl ?_
            refine ol_r (r_move rfl) rfl ?_
            refine ol_nil (to_k0 (fun _ _ h => h) (hK24 ((i + 1, _, _)) _ _ ?_ ?_ (sub_cons rfl sub_nil) (sub_cons rfl (sub_cons rfl (sub_cons rfl (sub_cons rfl (sub_cons rfl (sub_cons rfl (sub_cons rfl (sub_cons rfl (sub_cons rfl (sub_cons rfl (sub_cons rfl sub_nil))))))))))) (by exact (subH_blk rfl (by repeat' first | exact sub_nil | refine sub_cons rfl ?_) (subH_row rfl (by first | (dsimp only; rw [shL_snoc x78.at_ hx135, encI_snoc]; done) | (rw [shL_snoc x78.at_ hx135, encI_snoc]; done) | (dsimp only; done)) subH_nil))) (subH_same rfl (subH_same rfl (subH_same rfl (subH_same rfl (subH_same rfl (subH_same rfl (subH_same rfl (subH_same rfl (subH_same rfl (subH_same rfl subH_nil)))))))))) ?_))
            ·try dsimp only
             omega
            ·try dsimp only
             omega
            ·try dsimp only
             refine subH_app (subH_inn fun j x hj => ?_) (subH_inn fun j x hj => ?_)
             · repeat' refine (look_cons_ne _ _ (by omega)).trans ?_
               exact look_inn_app hj
             · repeat' refine (look_cons_ne _ _ (by omega)).trans ?_
               exact (look_inn_skip (.inr (by omega))).trans (look_inn hj)
           ·refine wp_exit' (to_k0 (fun _ _ h => h) (hK22 _ _ _ _ _ ?_))
            clear hK22
            refine wp_seq' fun K29 hK29 => ?_
            refine wp_reg ?_
            have hiz : i = z.1.2.1 := by omega
            subst hiz
            rw [show z.2.take z.1.2.1 = z.2 from List.take_of_length_le (by omega)]
            refine ol_r (r_move rfl) rfl ?_
            refine ol_r (r_neq rfl rfl) rfl ?_
            refine ol_r (r_move rfl) rfl ?_
            refine ol_split (d := 149) rfl (fun hs149 => ?_) (fun hs149 => ?_)
            ·have phs149 := hs149; try simp only [decide_eq_true_eq, decide_eq_false_iff_not, Bool.not_eq_true', Bool.not_eq_false', Bool.not_true, Bool.not_false] at phs149
             exfalso
             exact phs149 rfl
            ·have phs149 := hs149; try simp only [decide_eq_true_eq, decide_eq_false_iff_not, Bool.not_eq_true', Bool.not_eq_false', Bool.not_true, Bool.not_false] at phs149
             refine ol_g rfl rfl hs149 ?_
             refine ol_r (r_move rfl) rfl ?_
             refine ol_g rfl rfl hs149 ?_
             have hfound : shL x78.at_ z.2 ∈ M.map (·.2) := by
               rw [hM, hcut]
               refine cut_found (t := x111) (u := x123) hseg.g hok (by omega) hx78 hx84 (hmem k z hz) ?_ ?_ (by omega) (by omega)
               · rw [List.head?_eq_getElem?]; exact hx111
               · rw [List.getLast?_eq_getElem?, ← hx123]; congr 1; omega
             refine ol_r (r_func rfl) rfl ?_
             refine ol_g rfl rfl hs149 ?_
             refine ol_call rfl rfl cb18 rfl (fun w1 hb1 hs1 hB1 => ?_)
             refine Calls.mono (contains_found _ _ _ M (ma, z.1.2.1, mc) (shL x78.at_ z.2) b13 b26 _ (Sat.rdE hs1 (id := 1022) (base := 20000000000000000000) (U := 3) rfl (fun j x hj => by (repeat' refine (look_cons_ne _ _ (by omega)).trans ?_); exact (look_inn_skip (.inr (by omega))).trans (look_inn hj))) (Sat.blk hs1 (id := 13) rfl) (Sat.blk hs1 (id := 26) rfl) (Sat.rd hs1 (id := 3026) (E := encI) rfl rfl) hfound) ?_
             rintro e w2 ⟨rfl, hb2⟩
             refine After.below rfl hb1 hs1 hB1 hb2 ?_
             clear hb2 hB1 hs1 hb1 w2 w1
             refine ol_g rfl rfl hs149 ?_
             refine ol_r (r_not rfl) rfl ?_
             refine ol_r (r_pickF rfl hs149 rfl) rfl ?_
             refine ol_nil (to_k0 (fun _ _ h => h) (hK29 _ _ _ _ _ ?_))
             clear hK29
             first | refine wp_condD rfl (fun hc154 => ?_) (fun hc154 => ?_) | refine wp_condN rfl (fun hc154 => ?_) (fun hc154 => ?_) | refine wp_condNB rfl (fun hc154 => ?_) (fun hc154 => ?_) | refine wp_cond' rfl (fun hc154 => ?_) (fun hc154 => ?_)
             ·exfalso
              cases hc154
             ·refine wp_skip' (to_k0 (fun _ _ h => h) (hK17 _ _ _ _ _ ?_))
              clear hK17
              refine wp_reg ?_
              refine ol_r (r_add rfl rfl (by omega)) rfl ?_
              refine ol_r (r_move rfl) rfl ?_
              refine ol_nil (to_k0 (fun _ _ h => h) (hK14 (k + 1) _ _ ?_ ?_ (sub_cons rfl sub_nil) (sub_cons rfl (sub_cons rfl (sub_cons rfl (sub_cons rfl (sub_cons rfl (sub_cons rfl (sub_cons rfl sub_nil))))))) (by exact subH_nil) (subH_same rfl (subH_same rfl (subH_same rfl (subH_same rfl (subH_same rfl (subH_same rfl (subH_same rfl (subH_same rfl (subH_same rfl subH_nil))))))))) ?_))
              ·try dsimp only
               omega
              ·try dsimp only
               omega
              ·try dsimp only
               refine subH_app (subH_inn fun j x hj => ?_) (subH_inn fun j x hj => ?_)
               · repeat' refine (look_cons_ne _ _ (by omega)).trans ?_
                 exact look_inn_app hj
               · repeat' refine (look_cons_ne _ _ (by omega)).trans ?_
                 exact (look_inn_skip (.inr (by omega))).trans (look_inn hj)
       ·refine wp_exit' (to_k0 (fun _ _ h => h) (hK12 _ _ _ _ _ ?_))
        clear hK12
        refine wp_seq' fun K30 hK30 => ?_
        refine wp_reg ?_
        refine ol_call rfl rfl cb7 rfl (fun w1 hb1 hs1 hB1 => Calls.mono (top_told _) ?_)
        rintro e w2 ⟨rfl, hb2⟩
        refine After.below rfl hb1 hs1 hB1 hb2 ?_
        clear hb2 hB1 hs1 hb1 w2 w1
        refine ol_r (r_assign rfl) rfl ?_
        refine ol_nil (to_k0 (fun _ _ h => h) (hK30 _ _ _ _ _ ?_))
        clear hK30
        refine hQ.ret (rvs1 (rv_t rfl)) (fun _ _ h => h) fun w hb hs hB hkd => ?_
        exact ⟨rfl, hb⟩
theorem law_seg_no (nm : ByteArray) (ga : Option Addr) (gn gc : Nat) (gs : List GateR) (A : ActV) (k fr to : Int) (w : World) (hn : nm.size ≤ 9223372036854775807) (hS : Rd encGate w.heap.size w ga gn gc gs) (hA : A.Ok w.heap.size w) (hno : ¬orL [chkSeg nm gs, chkA A.d] ≠ 0)
    (hbd : ∀ x ∈ A.ss, SmpB x) (hni : ∀ p q, 0 ≤ k → A.ss[k.toNat]? = some p → A.ss[k.toNat + 1]? = some q → A.ss.length < 20000 → ¬((p.at_ + q.at_) % 2 = 0 ∧ (p.x + q.x).tmod 2 = 0 ∧ (p.y + q.y).tmod 2 = 0)) :
    Calls Try.prog 4 #[.agg #[.string nm, .slice ga gn gc], .agg #[.string A.name, .int .i64 A.sport, .int .i64 A.start, .slice A.sa A.sn A.sc, .slice A.la A.ln A.lc, .slice A.ta A.tn A.tc], .int .i64 k, .int .i64 fr, .int .i64 to] w fun e w' => e = .returned (.bool true) ∧ Below w.heap.size w w' := by
  refine enterQ (N := 157) (C := fun _ => True) (H := []) (B := w.heap.size) (args := [_, _, _, _, _]) Try.func4 rfl rfl rfl (Nat.le_refl _) (Sat.nil _ _) fun Q hQ => ?_
  refine wp_seq' fun K1 hK1 => ?_
  refine wp_reg ?_
  refine ol_box 5 rfl rfl rfl fun b5 => ?_
  refine ol_box 6 rfl rfl rfl fun b6 => ?_
  refine ol_r (r_assign rfl) rfl ?_
  refine ol_nil (to_k0 (fun _ _ h => h) (hK1 _ _ _ _ _ ?_))
  clear hK1
  refine wp_seq' fun K2 hK2 => ?_
  refine wp_reg ?_
  refine ol_r (r_lda (id := 5) (n := 2) rfl rfl rfl ag52) rfl ?_
  refine ol_r (r_lda (id := 6) (n := 6) rfl rfl rfl ag57) rfl ?_
  refine ol_call rfl rfl cb12 rfl (fun w1 hb1 hs1 hB1 => ?_)
  refine Calls.mono (match_Efforts nm _ _ _ gs A _ hn (hS.at hb1 hB1) (hA.at hb1 hB1)) ?_
  rintro e w2 ⟨a5, c5, L, rfl, hb2, hs2, hL⟩
  rw [effR_00 hno] at hL ⊢
  have hLf := (hs2.rd (by decide)).out.fit
  have hinn : ∀ (j : Nat) (x : Sl × List Int), L[j]? = some x → x.2.length = x.1.2.1 ∧ x.1.2.1 ≤ 9223372036854775807 := fun j x hj => ⟨((hs2.rd (by decide)).inn j x hj).len, ((hs2.rd (by decide)).inn j x hj).fit⟩
  refine After.moreE rfl hb1 hs1 hB1 hb2 (hs2.num (by decide) 1005 10000000 (by decide)) (by decide) (fun i hi _ => ?_) ?_
  · repeat' refine (look_cons_ne _ _ (by omega)).trans ?_
    rfl
  clear hs2 hb2 hB1 hs1 hb1 w2 w1
  refine ol_r (r_move rfl) rfl ?_
  refine ol_r (r_extract rfl rfl) rfl ?_
  refine ol_r (r_extract rfl rfl) rfl ?_
  refine ol_r (r_assign rfl) rfl ?_
  refine ol_r (r_assign rfl) rfl ?_
  refine ol_nil (to_k0 (fun _ _ h => h) (hK2 _ _ _ _ _ ?_))
  clear hK2
  refine wp_seq' fun K3 hK3 => ?_
  refine wp_seq' fun K4 hK4 => ?_
  refine wp_reg ?_
  refine ol_r (r_move rfl) rfl ?_
  refine ol_r (r_neq rfl rfl) rfl ?_
  refine ol_nil (to_k0 (fun _ _ h => h) (hK4 _ _ _ _ _ ?_))
  clear hK4
  first | refine wp_condD rfl (fun hc36 => ?_) (fun hc36 => ?_) | refine wp_condN rfl (fun hc36 => ?_) (fun hc36 => ?_) | refine wp_condNB rfl (fun hc36 => ?_) (fun hc36 => ?_) | refine wp_cond' rfl (fun hc36 => ?_) (fun hc36 => ?_)
  ·exfalso
   exact hc36 rfl
  ·refine wp_skip' (to_k0 (fun _ _ h => h) (hK3 _ _ _ _ _ ?_))
   clear hK3
   refine wp_seq' fun K5 hK5 => ?_
   refine wp_reg ?_
   refine ol_alloc 13 z65 rfl fun b13 => ?_
   refine ol_store (id := 13) rfl rfl rfl rfl sz65 rfl rfl (by first | decide | exact Nat.zero_lt_succ _ | simp) ?_
   refine ol_nil (to_k0 (fun _ _ h => h) (hK5 _ _ _ _ _ ?_))
   clear hK5
   refine wp_seq' fun K6 hK6 => ?_
   refine wp_seq' fun K7 hK7 => ?_
   refine wp_reg ?_
   refine ol_r (r_lda (id := 6) (n := 6) rfl rfl rfl ag57) rfl ?_
   refine ol_r (r_move rfl) rfl ?_
   refine ol_call rfl rfl cb15 rfl (fun w1 hb1 hs1 hB1 => Calls.mono (hMidst_no A k _ (hA.at hb1 hB1) hbd hni) ?_)
   rintro e w2 ⟨rfl, hb2⟩
   refine After.below rfl hb1 hs1 hB1 hb2 ?_
   clear hb2 hB1 hs1 hb1 w2 w1
   refine ol_r (r_move rfl) rfl ?_
   refine ol_r (r_extract rfl rfl) rfl ?_
   refine ol_r (r_extract rfl rfl) rfl ?_
   refine ol_alloc 14 z57 rfl fun b14 => ?_
   refine ol_store (id := 14) rfl rfl rfl rfl sz57 rfl rfl (by first | decide | exact Nat.zero_lt_succ _ | simp) ?_
   refine ol_r (r_assign rfl) rfl ?_
   refine ol_nil (to_k0 (fun _ _ h => h) (hK7 _ _ _ _ _ ?_))
   clear hK7
   refine wp_seq' fun K8 hK8 => ?_
   refine wp_reg ?_
   refine ol_r (r_move rfl) rfl ?_
   refine ol_nil (to_k0 (fun _ _ h => h) (hK8 _ _ _ _ _ ?_))
   clear hK8
   first | refine wp_condD rfl (fun hc44 => ?_) (fun hc44 => ?_) | refine wp_condN rfl (fun hc44 => ?_) (fun hc44 => ?_) | refine wp_condNB rfl (fun hc44 => ?_) (fun hc44 => ?_) | refine wp_cond' rfl (fun hc44 => ?_) (fun hc44 => ?_)
   ·exfalso
    cases hc44
   ·refine wp_skip' (to_k0 (fun _ _ h => h) (hK6 _ _ _ _ _ ?_))
    clear hK6
    refine WP.sub (law_seg_10 nm ga gn gc gs A fr to w hn hS hA hno L hL hLf hinn _ _ _ _ _ Q hQ) (by repeat' first | exact sub_nil | refine sub_cons rfl ?_) ?_
    refine subH_app (by repeat' first | exact subH_nil | refine subH_same rfl ?_ | (refine subH_blk rfl (by repeat' first | exact sub_nil | refine sub_cons rfl ?_) ?_)) (subH_inn fun j x hj => ?_)
    repeat' refine (look_cons_ne _ _ (by omega)).trans ?_
    first | exact look_inn hj | exact look_inn_app hj
theorem law_seg_yes (nm : ByteArray) (ga : Option Addr) (gn gc : Nat) (gs : List GateR) (A : ActV) (k : Nat) (p q : SmpR) (fr to : Int) (w : World) (hn : nm.size ≤ 9223372036854775807) (hS : Rd encGate w.heap.size w ga gn gc gs) (hA : A.Ok w.heap.size w) (hno : ¬orL [chkSeg nm gs, chkA A.d] ≠ 0)
    (hbd : ∀ x ∈ A.ss, SmpB x) (hp : A.ss[k]? = some p) (hq : A.ss[k + 1]? = some q) (hl : A.ss.length < 20000) (h1 : (p.at_ + q.at_) % 2 = 0) (h2 : (p.x + q.x).tmod 2 = 0) (h3 : (p.y + q.y).tmod 2 = 0) :
    Calls Try.prog 4 #[.agg #[.string nm, .slice ga gn gc], .agg #[.string A.name, .int .i64 A.sport, .int .i64 A.start, .slice A.sa A.sn A.sc, .slice A.la A.ln A.lc, .slice A.ta A.tn A.tc], .int .i64 (k : Int), .int .i64 fr, .int .i64 to] w fun e w' => e = .returned (.bool true) ∧ Below w.heap.size w w' := by
  obtain ⟨hcs, hca⟩ := or_parts.1 hno
  have h1' : (p.at_ + q.at_).tmod 2 = 0 := by
    have bp := (hbd p (List.mem_of_getElem? hp)).1
    have bq := (hbd q (List.mem_of_getElem? hq)).1
    rw [Int.tmod_eq_emod_of_nonneg (by omega)]; exact h1
  have hm := mid_ok h1' h2 h3
  have hgi := ins_good (goodA hca) hp hq hl hm
  have hnoI : ¬orL [chkSeg nm gs, chkA (insD A.d k (midR p q))] ≠ 0 := or_parts.2 ⟨hcs, hgi.chk⟩
  have hI : effL gs.length (crossS gs (stepsL (insD A.d k (midR p q)).ss) (stepsL (insD A.d k (midR p q)).ss).length) = effL gs.length (crossS gs (stepsL A.ss) (stepsL A.ss).length) := by
    rw [effL_G, effL_G]
    exact congrArg (fun l => (effF gs.length ([], []) l).1) (crossG_ins hp hq hm gs)
  have szI : SzD (insD A.d k (midR p q)) := ⟨hA.nm, hA.lm, hA.tm, fun x hx => by have := hgi.smp.bd x hx; omega⟩
  refine enterQ (N := 157) (C := fun _ => True) (H := []) (B := w.heap.size) (args := [_, _, _, _, _]) Try.func4 rfl rfl rfl (Nat.le_refl _) (Sat.nil _ _) fun Q hQ => ?_
  refine wp_seq' fun K1 hK1 => ?_
  refine wp_reg ?_
  refine ol_box 5 rfl rfl rfl fun b5 => ?_
  refine ol_box 6 rfl rfl rfl fun b6 => ?_
  refine ol_r (r_assign rfl) rfl ?_
  refine ol_nil (to_k0 (fun _ _ h => h) (hK1 _ _ _ _ _ ?_))
  clear hK1
  refine wp_seq' fun K2 hK2 => ?_
  refine wp_reg ?_
  refine ol_r (r_lda (id := 5) (n := 2) rfl rfl rfl ag52) rfl ?_
  refine ol_r (r_lda (id := 6) (n := 6) rfl rfl rfl ag57) rfl ?_
  refine ol_call rfl rfl cb12 rfl (fun w1 hb1 hs1 hB1 => ?_)
  refine Calls.mono (match_Efforts nm _ _ _ gs A _ hn (hS.at hb1 hB1) (hA.at hb1 hB1)) ?_
  rintro e w2 ⟨a5, c5, L, rfl, hb2, hs2, hL⟩
  rw [effR_00 hno] at hL ⊢
  have hLf := (hs2.rd (by decide)).out.fit
  have hinn : ∀ (j : Nat) (x : Sl × List Int), L[j]? = some x → x.2.length = x.1.2.1 ∧ x.1.2.1 ≤ 9223372036854775807 := fun j x hj => ⟨((hs2.rd (by decide)).inn j x hj).len, ((hs2.rd (by decide)).inn j x hj).fit⟩
  refine After.moreE rfl hb1 hs1 hB1 hb2 (hs2.num (by decide) 1005 10000000 (by decide)) (by decide) (fun i hi _ => ?_) ?_
  · repeat' refine (look_cons_ne _ _ (by omega)).trans ?_
    rfl
  clear hs2 hb2 hB1 hs1 hb1 w2 w1
  refine ol_r (r_move rfl) rfl ?_
  refine ol_r (r_extract rfl rfl) rfl ?_
  refine ol_r (r_extract rfl rfl) rfl ?_
  refine ol_r (r_assign rfl) rfl ?_
  refine ol_r (r_assign rfl) rfl ?_
  refine ol_nil (to_k0 (fun _ _ h => h) (hK2 _ _ _ _ _ ?_))
  clear hK2
  refine wp_seq' fun K3 hK3 => ?_
  refine wp_seq' fun K4 hK4 => ?_
  refine wp_reg ?_
  refine ol_r (r_move rfl) rfl ?_
  refine ol_r (r_neq rfl rfl) rfl ?_
  refine ol_nil (to_k0 (fun _ _ h => h) (hK4 _ _ _ _ _ ?_))
  clear hK4
  first | refine wp_condD rfl (fun hc36 => ?_) (fun hc36 => ?_) | refine wp_condN rfl (fun hc36 => ?_) (fun hc36 => ?_) | refine wp_condNB rfl (fun hc36 => ?_) (fun hc36 => ?_) | refine wp_cond' rfl (fun hc36 => ?_) (fun hc36 => ?_)
  ·exfalso
   exact hc36 rfl
  ·refine wp_skip' (to_k0 (fun _ _ h => h) (hK3 _ _ _ _ _ ?_))
   clear hK3
   refine wp_seq' fun K5 hK5 => ?_
   refine wp_reg ?_
   refine ol_alloc 13 z65 rfl fun b13 => ?_
   refine ol_store (id := 13) rfl rfl rfl rfl sz65 rfl rfl (by first | decide | exact Nat.zero_lt_succ _ | simp) ?_
   refine ol_nil (to_k0 (fun _ _ h => h) (hK5 _ _ _ _ _ ?_))
   clear hK5
   refine wp_seq' fun K6 hK6 => ?_
   refine wp_seq' fun K7 hK7 => ?_
   refine wp_reg ?_
   refine ol_r (r_lda (id := 6) (n := 6) rfl rfl rfl ag57) rfl ?_
   refine ol_r (r_move rfl) rfl ?_
   refine ol_call rfl rfl cb15 rfl (fun w1 hb1 hs1 hB1 => ?_)
   refine Calls.mono (hMidst_yes A k p q _ (hA.at hb1 hB1) hp hq hl (hbd p (List.mem_of_getElem? hp)) (hbd q (List.mem_of_getElem? hq)) h1 h2 h3) ?_
   rintro e w2 ⟨a14, c14, rfl, hf⟩
   refine After.fresh (id := 2014) rfl hb1 hs1 hB1 hf ?_
   clear hf hB1 hs1 hb1 w2 w1
   refine ol_r (r_move rfl) rfl ?_
   refine ol_r (r_extract rfl rfl) rfl ?_
   refine ol_r (r_extract rfl rfl) rfl ?_
   refine ol_alloc 14 z57 rfl fun b14 => ?_
   refine ol_store (id := 14) rfl rfl rfl rfl sz57 rfl rfl (by first | decide | exact Nat.zero_lt_succ _ | simp) ?_
   refine ol_r (r_assign rfl) rfl ?_
   refine ol_nil (to_k0 (fun _ _ h => h) (hK7 _ _ _ _ _ ?_))
   clear hK7
   refine wp_seq' fun K8 hK8 => ?_
   refine wp_reg ?_
   refine ol_r (r_move rfl) rfl ?_
   refine ol_nil (to_k0 (fun _ _ h => h) (hK8 _ _ _ _ _ ?_))
   clear hK8
   first | refine wp_condD rfl (fun hc44 => ?_) (fun hc44 => ?_) | refine wp_condN rfl (fun hc44 => ?_) (fun hc44 => ?_) | refine wp_condNB rfl (fun hc44 => ?_) (fun hc44 => ?_) | refine wp_cond' rfl (fun hc44 => ?_) (fun hc44 => ?_)
   ·refine wp_seq' fun K9 hK9 => ?_
    refine wp_reg ?_
    refine ol_r (r_lda (id := 5) (n := 2) rfl rfl rfl ag52) rfl ?_
    refine ol_r (r_lda (id := 14) (n := 6) rfl rfl rfl ag57) rfl ?_
    refine ol_call rfl rfl cb12 rfl (fun w1 hb1 hs1 hB1 => ?_)
    refine Calls.mono (effortsD (D := insD A.d k (midR p q)) nm _ _ _ gs hn (hS.at hb1 hB1) (okD (Sat.rd hs1 (id := 2014) rfl rfl) (hA.l.at hb1 hB1) (hA.t.at hb1 hB1) szI)) ?_
    rintro e w2 ⟨a16, c16, M, rfl, hb2, hs2, hM⟩
    rw [effR_00 hnoI] at hM ⊢
    have hLM : L.map (·.2) = M.map (·.2) := hL.trans (hI.symm.trans hM.symm)
    have hln : M.length = L.length := by have := congrArg List.length hLM; rw [List.length_map, List.length_map] at this; exact this.symm
    refine After.moreE rfl hb1 hs1 hB1 hb2 (hs2.num (by decide) 1016 20000000000000000000 (by decide)) (by decide) (fun i hi _ => ?_) ?_
    · repeat' refine (look_cons_ne _ _ (by omega)).trans ?_
      exact look_inn_none (.inr (by omega))
    rw [hln]
    clear hs2 hb2 hB1 hs1 hb1 w2 w1
    refine ol_r (r_move rfl) rfl ?_
    refine ol_r (r_extract rfl rfl) rfl ?_
    refine ol_r (r_extract rfl rfl) rfl ?_
    refine ol_r (r_assign rfl) rfl ?_
    refine ol_r (r_assign rfl) rfl ?_
    refine ol_nil (to_k0 (fun _ _ h => h) (hK9 _ _ _ _ _ ?_))
    clear hK9
    refine wp_seq' fun K10 hK10 => ?_
    refine wp_reg ?_
    refine ol_r (r_move rfl) rfl ?_
    refine ol_r (r_neq rfl rfl) rfl ?_
    refine ol_r (r_move rfl) rfl ?_
    refine ol_split (d := 53) rfl (fun hs53 => ?_) (fun hs53 => ?_)
    ·have phs53 := hs53; try simp only [decide_eq_true_eq, decide_eq_false_iff_not, Bool.not_eq_true', Bool.not_eq_false', Bool.not_true, Bool.not_false] at phs53
     exfalso
     exact phs53 rfl
    ·have phs53 := hs53; try simp only [decide_eq_true_eq, decide_eq_false_iff_not, Bool.not_eq_true', Bool.not_eq_false', Bool.not_true, Bool.not_false] at phs53
     refine ol_g rfl rfl hs53 ?_
     refine ol_r (r_move rfl) rfl ?_
     refine ol_g rfl rfl hs53 ?_
     refine ol_r (r_move rfl) rfl ?_
     refine ol_g rfl rfl hs53 ?_
     refine ol_r (r_ld (id := 13) rfl rfl rfl sc65) rfl ?_
     refine ol_g rfl rfl hs53 ?_
     refine ol_call rfl rfl cb16 rfl (fun w1 hb1 hs1 hB1 => Calls.mono (top_same_func _ _ _ _ _ L M _ (Sat.rdE hs1 (id := 1005) (base := 10000000) (U := 3) rfl (fun j x hj => by (repeat' refine (look_cons_ne _ _ (by omega)).trans ?_); exact look_inn_app hj)) (Sat.rdE hs1 (id := 1016) (base := 20000000000000000000) (U := 3) (by rw [← hln]; rfl) (fun j x hj => by (repeat' refine (look_cons_ne _ _ (by omega)).trans ?_); exact (look_inn_skip (.inr (by omega))).trans (look_inn hj))) hLM) ?_)
     rintro e w2 ⟨rfl, hb2⟩
     refine After.below rfl hb1 hs1 hB1 hb2 ?_
     clear hb2 hB1 hs1 hb1 w2 w1
     refine ol_g rfl rfl hs53 ?_
     refine ol_r (r_not rfl) rfl ?_
     refine ol_r (r_pickF rfl hs53 rfl) rfl ?_
     refine ol_nil (to_k0 (fun _ _ h => h) (hK10 _ _ _ _ _ ?_))
     clear hK10
     first | refine wp_condD rfl (fun hc59 => ?_) (fun hc59 => ?_) | refine wp_condN rfl (fun hc59 => ?_) (fun hc59 => ?_) | refine wp_condNB rfl (fun hc59 => ?_) (fun hc59 => ?_) | refine wp_cond' rfl (fun hc59 => ?_) (fun hc59 => ?_)
     ·exfalso
      cases hc59
     ·refine wp_skip' (to_k0 (fun _ _ h => h) (hK6 _ _ _ _ _ ?_))
      clear hK6
      refine WP.sub (law_seg_10 nm ga gn gc gs A fr to w hn hS hA hno L hL hLf hinn _ _ _ _ _ Q hQ) (by repeat' first | exact sub_nil | refine sub_cons rfl ?_) ?_
      refine subH_app (by repeat' first | exact subH_nil | refine subH_same rfl ?_ | (refine subH_blk rfl (by repeat' first | exact sub_nil | refine sub_cons rfl ?_) ?_)) (subH_inn fun j x hj => ?_)
      repeat' refine (look_cons_ne _ _ (by omega)).trans ?_
      first | exact look_inn hj | exact look_inn_app hj
   ·exfalso
    cases hc44
theorem law_segments (nm : ByteArray) (ga : Option Addr) (gn gc : Nat) (gs : List GateR) (A : ActV) (k fr to : Int) (w : World) (hn : nm.size ≤ 9223372036854775807) (hS : Rd encGate w.heap.size w ga gn gc gs) (hA : A.Ok w.heap.size w) :
    Calls Try.prog 4 #[.agg #[.string nm, .slice ga gn gc], .agg #[.string A.name, .int .i64 A.sport, .int .i64 A.start, .slice A.sa A.sn A.sc, .slice A.la A.ln A.lc, .slice A.ta A.tn A.tc], .int .i64 k, .int .i64 fr, .int .i64 to] w fun e w' => e = .returned (.bool true) ∧ Below w.heap.size w w' := by
  by_cases hno : orL [chkSeg nm gs, chkA A.d] ≠ 0
  · exact law_seg_err nm ga gn gc gs A k fr to w hn hS hA hno
  · have hok := (goodA (or_parts.1 hno).2).smp
    have hbd : ∀ x ∈ A.ss, SmpB x := fun x hx => by
      have := hok.bd x hx
      exact ⟨by omega, by omega, by omega⟩
    by_cases hy : ∃ p q, 0 ≤ k ∧ A.ss[k.toNat]? = some p ∧ A.ss[k.toNat + 1]? = some q ∧ A.ss.length < 20000 ∧ (p.at_ + q.at_) % 2 = 0 ∧ (p.x + q.x).tmod 2 = 0 ∧ (p.y + q.y).tmod 2 = 0
    · obtain ⟨p, q, hk, hp, hq, hl, h1, h2, h3⟩ := hy
      obtain ⟨m, rfl⟩ := Int.eq_ofNat_of_zero_le hk
      exact law_seg_yes nm ga gn gc gs A m p q fr to w hn hS hA hno hbd hp hq hl h1 h2 h3
    · exact law_seg_no nm ga gn gc gs A k fr to w hn hS hA hno hbd fun p q hk hp hq hl h => hy ⟨p, q, hk, hp, hq, hl, h⟩
end Go.Proofs.Ytfbmkepogcimlaa
