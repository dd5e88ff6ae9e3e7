/-
  Climb: program and reference.
-/
import Derived.Test.YtogcclagmobkiaaClimbM
import Derived.Test.YtogcclagmobkiaaRoot
import Derived.Test.YtogcclagmobkiaaCheck
namespace Go.Proofs.Ytogcclagmobkiaa
open Go Go.RowKit Hx
set_option linter.unusedVariables false
set_option linter.unusedSimpArgs false
set_option maxRecDepth 8000
theorem track_plus (a b n : Int) (w : World) (h : -9223372036854775808 ≤ a + n ∧ a + n ≤ 9223372036854775807) :
    Calls Try.prog 106 #[.agg #[.int .i64 a, .int .i64 b], .int .i64 n] w fun e w' => e = .returned (.agg #[.int .i64 (a + n), .int .i64 b]) ∧ Below w.heap.size w w' := by
  refine enterQ (N := 12) (C := fun _ => True) (H := []) (B := w.heap.size) (args := [_, _]) Try.func106 rfl rfl rfl (Nat.le_refl _) (Sat.nil _ _) fun Q hQ => ?_
  refine wp_seq' fun K1 hK1 => ?_
  refine wp_reg ?_
  refine ol_box 2 rfl rfl rfl fun b2 => ?_
  refine ol_alloc 4 z118 rfl fun b4 => ?_
  refine ol_nil (to_k0 (fun _ _ h => h) (hK1 _ _ _ _ _ ?_))
  clear hK1
  refine wp_seq' fun K2 hK2 => ?_
  refine wp_reg ?_
  refine ol_r (r_fa (o' := 0) rfl fl118_0 rfl) rfl ?_
  refine ol_r (r_ld (id := 2) rfl rfl rfl sc3) rfl ?_
  refine ol_r (r_move rfl) rfl ?_
  refine ol_r (r_add rfl rfl (by omega)) rfl ?_
  refine ol_r (r_fa (o' := 1) rfl fl118_1 rfl) rfl ?_
  refine ol_r (r_ld (id := 2) rfl rfl rfl sc3) rfl ?_
  refine ol_r (r_build rfl (fun _ => bd118_0_1 _ _ _)) rfl ?_
  refine ol_store (id := 4) rfl rfl rfl rfl sz118 rfl rfl (by first | decide | exact Nat.zero_lt_succ _ | simp) ?_
  refine ol_nil (to_k0 (fun _ _ h => h) (hK2 _ _ _ _ _ ?_))
  clear hK2
  refine hQ.ret (rvs1 (rv_c (id := 4) (n := 2) rfl rfl ag118 rfl)) (fun _ _ h => h) fun w hb hs hB hkd => ?_
  exact ⟨rfl, hb⟩
theorem track_better (a b : Int × Int) (w : World) :
    Calls Try.prog 107 #[.agg #[.int .i64 a.1, .int .i64 a.2], .agg #[.int .i64 b.1, .int .i64 b.2]] w fun e w' => e = .returned (.bool (betB a b)) ∧ Below w.heap.size w w' := by
  refine enterQ (N := 24) (C := fun _ => True) (H := []) (B := w.heap.size) (args := [_, _]) Try.func107 rfl rfl rfl (Nat.le_refl _) (Sat.nil _ _) fun Q hQ => ?_
  refine wp_seq' fun K1 hK1 => ?_
  refine wp_reg ?_
  refine ol_box 2 rfl rfl rfl fun b2 => ?_
  refine ol_box 3 rfl rfl rfl fun b3 => ?_
  refine ol_r (r_assign rfl) rfl ?_
  refine ol_nil (to_k0 (fun _ _ h => h) (hK1 _ _ _ _ _ ?_))
  clear hK1
  refine wp_seq' fun K2 hK2 => ?_
  refine wp_reg ?_
  refine ol_r (r_fa (o' := 0) rfl fl118_0 rfl) rfl ?_
  refine ol_r (r_ld (id := 2) rfl rfl rfl sc3) rfl ?_
  refine ol_r (r_fa (o' := 0) rfl fl118_0 rfl) rfl ?_
  refine ol_r (r_ld (id := 3) rfl rfl rfl sc3) rfl ?_
  refine ol_r (r_gtr rfl rfl) rfl ?_
  refine ol_r (r_move rfl) rfl ?_
  refine ol_split (d := 10) rfl (fun hs10 => ?_) (fun hs10 => ?_)
  ·have phs10 := hs10; try simp only [decide_eq_true_eq, decide_eq_false_iff_not, Bool.not_eq_true', Bool.not_eq_false', Bool.not_true, Bool.not_false] at phs10
   refine ol_s rfl rfl hs10 rfl ?_
   refine ol_s rfl rfl hs10 rfl ?_
   refine ol_s rfl rfl hs10 rfl ?_
   refine ol_s rfl rfl hs10 rfl ?_
   refine ol_s rfl rfl hs10 rfl ?_
   refine ol_s rfl rfl hs10 rfl ?_
   refine ol_u rfl rfl rfl ?_
   refine ol_u rfl rfl rfl ?_
   refine ol_u rfl rfl rfl ?_
   refine ol_u rfl rfl rfl ?_
   refine ol_u rfl rfl rfl ?_
   refine ol_s rfl rfl hs10 rfl ?_
   refine ol_r (r_pickT rfl hs10 rfl) rfl ?_
   refine ol_r (r_assign rfl) rfl ?_
   refine ol_nil (to_k0 (fun _ _ h => h) (hK2 _ _ _ _ _ ?_))
   clear hK2
   refine hQ.ret (rvs1 (rv_t rfl)) (fun _ _ h => h) fun w hb hs hB hkd => ?_
   exact ⟨by unfold betB; rw [show decide (b.1 < a.1) = true from hs10, Bool.true_or], hb⟩
  ·have phs10 := hs10; try simp only [decide_eq_true_eq, decide_eq_false_iff_not, Bool.not_eq_true', Bool.not_eq_false', Bool.not_true, Bool.not_false] at phs10
   refine ol_g rfl rfl hs10 ?_
   refine ol_r (r_fa (o' := 0) rfl fl118_0 rfl) rfl ?_
   refine ol_g rfl rfl hs10 ?_
   refine ol_r (r_ld (id := 2) rfl rfl rfl sc3) rfl ?_
   refine ol_g rfl rfl hs10 ?_
   refine ol_r (r_fa (o' := 0) rfl fl118_0 rfl) rfl ?_
   refine ol_g rfl rfl hs10 ?_
   refine ol_r (r_ld (id := 3) rfl rfl rfl sc3) rfl ?_
   refine ol_g rfl rfl hs10 ?_
   refine ol_r (r_eql rfl rfl) rfl ?_
   refine ol_g rfl rfl hs10 ?_
   refine ol_r (r_move rfl) rfl ?_
   refine ol_split (d := 16) rfl (fun hs16 => ?_) (fun hs16 => ?_)
   ·have phs16 := hs16; try simp only [decide_eq_true_eq, decide_eq_false_iff_not, Bool.not_eq_true', Bool.not_eq_false', Bool.not_true, Bool.not_false] at phs16
    refine ol_g rfl rfl hs16 ?_
    refine ol_r (r_fa (o' := 1) rfl fl118_1 rfl) rfl ?_
    refine ol_g rfl rfl hs16 ?_
    refine ol_r (r_ld (id := 2) rfl rfl rfl sc3) rfl ?_
    refine ol_g rfl rfl hs16 ?_
    refine ol_r (r_fa (o' := 1) rfl fl118_1 rfl) rfl ?_
    refine ol_g rfl rfl hs16 ?_
    refine ol_r (r_ld (id := 3) rfl rfl rfl sc3) rfl ?_
    refine ol_g rfl rfl hs16 ?_
    refine ol_r (r_lss rfl rfl) rfl ?_
    refine ol_g rfl rfl hs10 ?_
    refine ol_r (r_pickT rfl hs16 rfl) rfl ?_
    refine ol_r (r_pickF rfl hs10 rfl) rfl ?_
    refine ol_r (r_assign rfl) rfl ?_
    refine ol_nil (to_k0 (fun _ _ h => h) (hK2 _ _ _ _ _ ?_))
    clear hK2
    refine hQ.ret (rvs1 (rv_t rfl)) (fun _ _ h => h) fun w hb hs hB hkd => ?_
    exact ⟨by unfold betB; rw [show decide (b.1 < a.1) = false from hs10, show decide (a.1 = b.1) = true from hs16, Bool.false_or, Bool.true_and], hb⟩
   ·have phs16 := hs16; try simp only [decide_eq_true_eq, decide_eq_false_iff_not, Bool.not_eq_true', Bool.not_eq_false', Bool.not_true, Bool.not_false] at phs16
    refine ol_s rfl rfl hs16 rfl ?_
    refine ol_s rfl rfl hs16 rfl ?_
    refine ol_s rfl rfl hs16 rfl ?_
    refine ol_s rfl rfl hs16 rfl ?_
    refine ol_s rfl rfl hs16 rfl ?_
    refine ol_g rfl rfl hs10 ?_
    refine ol_r (r_pickF rfl hs16 rfl) rfl ?_
    refine ol_r (r_pickF rfl hs10 rfl) rfl ?_
    refine ol_r (r_assign rfl) rfl ?_
    refine ol_nil (to_k0 (fun _ _ h => h) (hK2 _ _ _ _ _ ?_))
    clear hK2
    refine hQ.ret (rvs1 (rv_t rfl)) (fun _ _ h => h) fun w hb hs hB hkd => ?_
    exact ⟨by unfold betB; rw [show decide (b.1 < a.1) = false from hs10, show decide (a.1 = b.1) = false from hs16]; rfl, hb⟩
theorem pickB_n {a b : Int × Int} (h : betB a b = false) : pickB a b = b := pickB_f (by rw [h]; simp)
theorem clm_eq {s : Clm} {th : Int} {x : SmpR} {o u d : Int × Int} (ho : o = s.on x.z) (hu : u = pickB (o.1 - th - x.z, o.2 + 1) s.u) (hd : d = pickB (o.1 - th + x.z, o.2 + 1) s.d) : (⟨u, d, o⟩ : Clm) = s.next th x := by
  subst ho; subst hu; subst hd; rfl
theorem drop_take_all {α : Type} {xs : List α} {n : Nat} (h : xs.length = n) : ((xs.drop ((1 : Int)).toNat).take ((n : Int).toNat - ((1 : Int)).toNat)) = xs.tail := by
  rw [show ((1 : Int)).toNat = 1 from rfl, List.drop_one, List.take_of_length_le (by rw [List.length_tail]; omega)]
theorem betB_4 {a b c d : Int} : betB (a, b) (c, d) = (decide (c < a) || (decide (a = c) && decide (b < d))) := rfl
theorem track_Climb (A : ActV) (th : Int) (w : World) (hA : A.Ok w.heap.size w) :
    Calls Try.prog 55 #[.agg #[.string A.name, .int .i64 A.sport, .int .i64 A.start, .slice A.sa A.sn A.sc, .slice A.la A.ln A.lc, .slice A.ta A.tn A.tc], .int .i64 th] w fun e w' => e = .returned (.tuple #[.agg #[.int .i64 (climbR A.d th).1.1, .int .i64 (climbR A.d th).1.2.1, .int .i64 (climbR A.d th).1.2.2], .int .i64 (climbR A.d th).2]) ∧ Below w.heap.size w w' := by
  have hsn := hA.s.len
  have hsf := hA.s.fit
  refine enterQ (N := 120) (C := fun _ => True) (H := []) (B := w.heap.size) (args := [_, _]) Try.func55 rfl rfl rfl (Nat.le_refl _) (Sat.nil _ _) fun Q hQ => ?_
  refine wp_seq' fun K1 hK1 => ?_
  refine wp_reg ?_
  refine ol_box 2 rfl rfl rfl fun b2 => ?_
  refine ol_alloc 4 z71 rfl fun b4 => ?_
  refine ol_r (r_assign rfl) rfl ?_
  refine ol_nil (to_k0 (fun _ _ h => h) (hK1 _ _ _ _ _ ?_))
  clear hK1
  refine wp_seq' fun K2 hK2 => ?_
  refine wp_seq' fun K3 hK3 => ?_
  refine wp_reg ?_
  refine ol_r (r_lda (id := 2) (n := 6) rfl rfl rfl ag26) rfl ?_
  refine ol_call rfl rfl cb40 rfl (fun w1 hb1 hs1 hB1 => Calls.mono (record_Check A _ (hA.at hb1 hB1)) ?_)
  rintro e w2 ⟨rfl, hb2⟩
  refine After.below rfl hb1 hs1 hB1 hb2 ?_
  clear hb2 hB1 hs1 hb1 w2 w1
  refine ol_r (r_assign rfl) rfl ?_
  refine ol_nil (to_k0 (fun _ _ h => h) (hK3 _ _ _ _ _ ?_))
  clear hK3
  refine wp_seq' fun K4 hK4 => ?_
  refine wp_reg ?_
  refine ol_r (r_move rfl) rfl ?_
  refine ol_r (r_neq rfl rfl) rfl ?_
  refine ol_nil (to_k0 (fun _ _ h => h) (hK4 _ _ _ _ _ ?_))
  clear hK4
  refine wp_condD rfl (fun hc22 => ?_) (fun hc22 => ?_)
  ·refine wp_seq' fun K5 hK5 => ?_
   refine wp_reg ?_
   refine ol_r (r_build rfl (fun _ => bd71 _)) rfl ?_
   refine ol_r (r_move rfl) rfl ?_
   refine ol_store (id := 4) rfl rfl rfl rfl sz71 rfl rfl (by first | decide | exact Nat.zero_lt_succ _ | simp) ?_
   refine ol_r (r_assign rfl) rfl ?_
   refine ol_nil (to_k0 (fun _ _ h => h) (hK5 _ _ _ _ _ ?_))
   clear hK5
   refine hQ.ret (rvs2 (rv_c (id := 4) (n := 3) rfl rfl ag71 rfl) (rv_t rfl)) (fun _ _ h => h) fun w hb hs hB hkd => ?_
   first
     | (have h := climbR_e (th := th) hc22
        exact ⟨by rw [h], hb⟩)
  ·refine wp_skip' (to_k0 (fun _ _ h => h) (hK2 _ _ _ _ _ ?_))
   clear hK2
   refine wp_seq' fun K6 hK6 => ?_
   refine wp_seq' fun K7 hK7 => ?_
   refine wp_reg ?_
   have h0 : chkA A.d = 0 := Decidable.not_not.1 hc22
   have hok : SmpOk A.start A.ss := (goodA h0).smp
   have hl20 := hok.len
   refine ol_r (r_move rfl) rfl ?_
   refine ol_call rfl rfl cb41 rfl (fun w1 hb1 hs1 hB1 => Calls.mono (track_in _ _ _ _) ?_)
   rintro e w2 ⟨rfl, hb2⟩
   refine After.below rfl hb1 hs1 hB1 hb2 ?_
   clear hb2 hB1 hs1 hb1 w2 w1
   refine ol_r (r_not rfl) rfl ?_
   refine ol_nil (to_k0 (fun _ _ h => h) (hK7 _ _ _ _ _ ?_))
   clear hK7
   refine wp_condNB rfl (fun hc27 => ?_) (fun hc27 => ?_)
   ·refine wp_seq' fun K8 hK8 => ?_
    refine wp_reg ?_
    refine ol_r (r_build rfl (fun _ => bd71 _)) rfl ?_
    refine ol_store (id := 4) rfl rfl rfl rfl sz71 rfl rfl (by first | decide | exact Nat.zero_lt_succ _ | simp) ?_
    refine ol_r (r_assign rfl) rfl ?_
    refine ol_nil (to_k0 (fun _ _ h => h) (hK8 _ _ _ _ _ ?_))
    clear hK8
    refine hQ.ret (rvs2 (rv_c (id := 4) (n := 3) rfl rfl ag71 rfl) (rv_t rfl)) (fun _ _ h => h) fun w hb hs hB hkd => ?_
    first
      | (have h := climbR_9 (Decidable.not_not.1 hc22) (th := th) (by have := inB_not.1 hc27; omega)
         exact ⟨by rw [h], hb⟩)
   ·refine wp_skip' (to_k0 (fun _ _ h => h) (hK6 _ _ _ _ _ ?_))
    clear hK6
    refine wp_seq' fun K9 hK9 => ?_
    refine wp_seq' fun K10 hK10 => ?_
    refine wp_reg ?_
    refine ol_r (r_fa (o' := 3) rfl fl26_3 rfl) rfl ?_
    refine ol_r (r_ld (id := 2) rfl rfl rfl sc22) rfl ?_
    refine ol_r (r_len rfl sl22) rfl ?_
    refine ol_r (r_lss rfl rfl) rfl ?_
    refine ol_nil (to_k0 (fun _ _ h => h) (hK10 _ _ _ _ _ ?_))
    clear hK10
    refine wp_condD rfl (fun hc32 => ?_) (fun hc32 => ?_)
    ·refine wp_seq' fun K11 hK11 => ?_
     refine wp_reg ?_
     refine ol_r (r_build rfl (fun _ => bd71 _)) rfl ?_
     refine ol_store (id := 4) rfl rfl rfl rfl sz71 rfl rfl (by first | decide | exact Nat.zero_lt_succ _ | simp) ?_
     refine ol_r (r_assign rfl) rfl ?_
     refine ol_nil (to_k0 (fun _ _ h => h) (hK11 _ _ _ _ _ ?_))
     clear hK11
     refine hQ.ret (rvs2 (rv_c (id := 4) (n := 3) rfl rfl ag71 rfl) (rv_t rfl)) (fun _ _ h => h) fun w hb hs hB hkd => ?_
     first
       | (have h := climbR_0 (Decidable.not_not.1 hc22) (th := th) (inB_iff.1 hc27) (by show A.ss.length < 2; omega)
          exact ⟨by rw [h], hb⟩)
    ·refine wp_skip' (to_k0 (fun _ _ h => h) (hK9 _ _ _ _ _ ?_))
     clear hK9
     refine wp_seq' fun K12 hK12 => ?_
     refine wp_reg ?_
     refine ol_r (r_fa (o' := 3) rfl fl26_3 rfl) rfl ?_
     refine ol_r (r_ld (id := 2) rfl rfl rfl sc22) rfl ?_
     refine ol_ixr hA.s rfl rfl sl22 (by omega) rfl fun x36 hx36 => ?_
     try simp only [Int.toNat_natCast] at hx36
     refine ol_r (r_faw rfl (ix_some hA.s (by omega)) fl28_3) rfl ?_
     refine ol_r (r_ldw rfl (fun w1 hb1 hs1 hB1 => Rd.loadsF (o := 3) hA.s sc3 hx36 hb1 rfl)) rfl ?_
     refine ol_r (r_assign rfl) rfl ?_
     refine ol_nil (to_k0 (fun _ _ h => h) (hK12 _ _ _ _ _ ?_))
     clear hK12
     refine wp_seq' fun K13 hK13 => ?_
     refine wp_reg ?_
     refine ol_r (r_move rfl) rfl ?_
     have hz0 := hok.hgt (List.mem_of_getElem? hx36)
     have hth := inB_iff.1 hc27
     have hzz := zAt_eq hx36
     refine ol_r (r_neg rfl (by omega)) rfl ?_
     refine ol_r (r_build rfl (fun _ => bd118_0_1 _ _ _)) rfl ?_
     refine ol_r (r_move rfl) rfl ?_
     refine ol_r (r_build rfl (fun _ => bd118_0_1 _ _ _)) rfl ?_
     refine ol_alloc 8 z118 rfl fun b8 => ?_
     refine ol_alloc 9 z118 rfl fun b9 => ?_
     refine ol_store (id := 8) rfl rfl rfl rfl sz118 rfl rfl (by first | decide | exact Nat.zero_lt_succ _ | simp) ?_
     refine ol_store (id := 9) rfl rfl rfl rfl sz118 rfl rfl (by first | decide | exact Nat.zero_lt_succ _ | simp) ?_
     refine ol_nil (to_k0 (fun _ _ h => h) (hK13 _ _ _ _ _ ?_))
     clear hK13
     refine wp_seq' fun K14 hK14 => ?_
     refine wp_reg ?_
     refine ol_alloc 10 z118 rfl fun b10 => ?_
     refine ol_nil (to_k0 (fun _ _ h => h) (hK14 _ _ _ _ _ ?_))
     clear hK14
     refine wp_seq' fun K15 hK15 => ?_
     refine wp_seq' fun K16 hK16 => ?_
     refine wp_reg ?_
     refine ol_r (r_fa (o' := 3) rfl fl26_3 rfl) rfl ?_
     refine ol_r (r_ld (id := 2) rfl rfl rfl sc22) rfl ?_
     refine ol_slr hA.s rfl rfl rfl sl22 (by simp only [Option.getD_some, Option.getD_none]; omega) rfl fun a46 c46 hl46 => ?_
     try simp only [Option.getD_some, Option.getD_none] at hl46 ⊢
     rw [drop_take_all hsn] at hl46
     have hzs : ∀ x ∈ A.ss.tail, -100000 ≤ x.z ∧ x.z ≤ 100000 := fun x hx => hok.hgt (List.mem_of_mem_tail hx)
     refine ol_r (r_len rfl sl22) rfl ?_
     refine ol_r (r_move rfl) rfl ?_
     refine ol_nil (to_k0 (fun _ _ h => h) (hK16 _ _ _ _ _ ?_))
     clear hK16
     refine wp_block' ?_
     apply wp_loopM (σ := Nat × Clm) (fun s => s.1 ≤ A.ss.length - 1 ∧ s.2 = clmK th x36.z A.ss.tail s.1) (fun s => [(48, .int .i64 s.1)]) [(1, _), (2, _), (4, _), (5, _), (7, _), (8, _), (9, _), (10, _), (46, _), (47, _)] (fun s => [(8, .blk b8 [(0, .int .i64 s.2.u.1), (1, .int .i64 s.2.u.2)] 118), (9, .blk b9 [(0, .int .i64 s.2.d.1), (1, .int .i64 s.2.d.2)] 118), (10, .blk b10 [(0, .int .i64 s.2.o.1), (1, .int .i64 s.2.o.2)] 118)]) [(2, _), (4, _)] (fun s => A.ss.length - s.1) ((0, Clm.init x36.z))
     ·try dsimp only
      exact ⟨Nat.zero_le _, rfl⟩
     ·exact (sub_cons rfl sub_nil)
     ·exact (sub_cons rfl (sub_cons rfl (sub_cons rfl (sub_cons rfl (sub_cons rfl (sub_cons rfl (sub_cons rfl (sub_cons rfl (sub_cons rfl (sub_cons rfl sub_nil))))))))))
     ·exact (subH_blk rfl (sub_cons rfl (sub_cons rfl sub_nil)) (subH_blk rfl (sub_cons rfl (sub_cons rfl sub_nil)) (subH_blk rfl (sub_cons rfl (sub_cons rfl sub_nil)) subH_nil)))
     ·exact (subH_same rfl (subH_same rfl subH_nil))
     ·rintro ⟨k, ⟨⟨ua, uc⟩, ⟨da, dc⟩, ⟨oa, oc⟩⟩⟩ ⟨hk, hc⟩
      dsimp only at hk hc ⊢
      have hbd := clmK_bd hz0 hzs hth k (by rw [List.length_tail]; exact hk)
      rw [← hc] at hbd
      obtain ⟨⟨u1, u2, u3, u4⟩, ⟨d1, d2, d3, d4⟩, ⟨o1, o2, o3, o4⟩⟩ := hbd
      dsimp only at u1 u2 u3 u4 d1 d2 d3 d4 o1 o2 o3 o4
      intro K17 hK17
      refine wp_seq' fun K18 hK18 => ?_
      refine wp_reg ?_
      refine ol_r (r_lss rfl rfl) rfl ?_
      refine ol_nil (to_k0 (fun _ _ h => h) (hK18 _ _ _ _ _ ?_))
      clear hK18
      refine wp_seq' fun K19 hK19 => ?_
      refine wp_condD rfl (fun hc49 => ?_) (fun hc49 => ?_)
      ·refine wp_skip' (to_k0 (fun _ _ h => h) (hK19 _ _ _ _ _ ?_))
       clear hK19
       refine wp_seq' fun K20 hK20 => ?_
       refine wp_block' ?_
       refine wp_seq' fun K21 hK21 => ?_
       refine wp_reg ?_
       refine ol_ixr hl46 rfl rfl sl22 (by omega) rfl fun x50 hx50 => ?_
       try simp only [Int.toNat_natCast] at hx50
       refine ol_r (r_ldw rfl (fun w1 hb1 hs1 hB1 => Rd.loads hl46 ty28 hx50 hb1)) rfl ?_
       refine ol_alloc 12 z28 rfl fun b12 => ?_
       refine ol_store (id := 12) rfl rfl rfl rfl sz28 rfl rfl (by first | decide | exact Nat.zero_lt_succ _ | simp) ?_
       refine ol_nil (to_k0 (fun _ _ h => h) (hK21 _ _ _ _ _ ?_))
       clear hK21
       refine wp_seq' fun K22 hK22 => ?_
       refine wp_reg ?_
       refine ol_r (r_lda (id := 8) (n := 2) rfl rfl rfl ag118) rfl ?_
       have hz := hzs _ (List.mem_of_getElem? hx50)
       refine ol_r (r_fa (o' := 3) rfl fl28_3 rfl) rfl ?_
       refine ol_r (r_ld (id := 12) rfl rfl rfl sc3) rfl ?_
       refine ol_call rfl rfl cb106 rfl (fun w1 hb1 hs1 hB1 => Calls.mono (track_plus _ _ _ _ (by omega)) ?_)
       rintro e w2 ⟨rfl, hb2⟩
       refine After.below rfl hb1 hs1 hB1 hb2 ?_
       clear hb2 hB1 hs1 hb1 w2 w1
       refine ol_store (id := 10) rfl rfl rfl rfl sz118 rfl rfl (by first | decide | exact Nat.zero_lt_succ _ | simp) ?_
       refine ol_nil (to_k0 (fun _ _ h => h) (hK22 _ _ _ _ _ ?_))
       clear hK22
       refine wp_seq' fun K23 hK23 => ?_
       refine wp_seq' fun K24 hK24 => ?_
       refine wp_reg ?_
       refine ol_r (r_lda (id := 9) (n := 2) rfl rfl rfl ag118) rfl ?_
       refine ol_r (r_fa (o' := 3) rfl fl28_3 rfl) rfl ?_
       refine ol_r (r_ld (id := 12) rfl rfl rfl sc3) rfl ?_
       refine ol_r (r_neg rfl (by omega)) rfl ?_
       refine ol_call rfl rfl cb106 rfl (fun w1 hb1 hs1 hB1 => Calls.mono (track_plus _ _ _ _ (by omega)) ?_)
       rintro e w2 ⟨rfl, hb2⟩
       refine After.below rfl hb1 hs1 hB1 hb2 ?_
       clear hb2 hB1 hs1 hb1 w2 w1
       refine ol_alloc 13 z118 rfl fun b13 => ?_
       refine ol_store (id := 13) rfl rfl rfl rfl sz118 rfl rfl (by first | decide | exact Nat.zero_lt_succ _ | simp) ?_
       refine ol_nil (to_k0 (fun _ _ h => h) (hK24 _ _ _ _ _ ?_))
       clear hK24
       refine wp_seq' fun K25 hK25 => ?_
       refine wp_reg ?_
       refine ol_r (r_lda (id := 13) (n := 2) rfl rfl rfl ag118) rfl ?_
       refine ol_r (r_lda (id := 10) (n := 2) rfl rfl rfl ag118) rfl ?_
       refine ol_call rfl rfl cb107 rfl (fun w1 hb1 hs1 hB1 => Calls.mono (track_better (_, _) (_, _) _) ?_)
       rintro e w2 ⟨rfl, hb2⟩
       refine After.below rfl hb1 hs1 hB1 hb2 ?_
       clear hb2 hB1 hs1 hb1 w2 w1
       refine ol_nil (to_k0 (fun _ _ h => h) (hK25 _ _ _ _ _ ?_))
       clear hK25
       refine wp_cond' rfl (fun hc63 => ?_) (fun hc63 => ?_)
       ·refine wp_reg ?_
        refine ol_r (r_lda (id := 13) (n := 2) rfl rfl rfl ag118) rfl ?_
        refine ol_store (id := 10) rfl rfl rfl rfl sz118 rfl rfl (by first | decide | exact Nat.zero_lt_succ _ | simp) ?_
        refine ol_nil (to_k0 (fun _ _ h => h) (hK23 _ _ _ _ _ ?_))
        clear hK23
        refine wp_seq' fun K26 hK26 => ?_
        refine wp_reg ?_
        refine ol_r (r_fa (o' := 0) rfl fl118_0 rfl) rfl ?_
        refine ol_r (r_ld (id := 10) rfl rfl rfl sc3) rfl ?_
        refine ol_r (r_move rfl) rfl ?_
        refine ol_r (r_sub rfl rfl (by omega)) rfl ?_
        refine ol_r (r_fa (o' := 1) rfl fl118_1 rfl) rfl ?_
        refine ol_r (r_ld (id := 10) rfl rfl rfl sc3) rfl ?_
        refine ol_r (r_add rfl rfl (by omega)) rfl ?_
        refine ol_r (r_build rfl (fun _ => bd118_0_1 _ _ _)) rfl ?_
        refine ol_alloc 14 z118 rfl fun b14 => ?_
        refine ol_store (id := 14) rfl rfl rfl rfl sz118 rfl rfl (by first | decide | exact Nat.zero_lt_succ _ | simp) ?_
        refine ol_nil (to_k0 (fun _ _ h => h) (hK26 _ _ _ _ _ ?_))
        clear hK26
        refine wp_seq' fun K27 hK27 => ?_
        refine wp_seq' fun K28 hK28 => ?_
        refine wp_reg ?_
        refine ol_r (r_lda (id := 14) (n := 2) rfl rfl rfl ag118) rfl ?_
        refine ol_r (r_fa (o' := 3) rfl fl28_3 rfl) rfl ?_
        refine ol_r (r_ld (id := 12) rfl rfl rfl sc3) rfl ?_
        refine ol_r (r_neg rfl (by omega)) rfl ?_
        refine ol_call rfl rfl cb106 rfl (fun w1 hb1 hs1 hB1 => Calls.mono (track_plus _ _ _ _ (by omega)) ?_)
        rintro e w2 ⟨rfl, hb2⟩
        refine After.below rfl hb1 hs1 hB1 hb2 ?_
        clear hb2 hB1 hs1 hb1 w2 w1
        refine ol_alloc 15 z118 rfl fun b15 => ?_
        refine ol_store (id := 15) rfl rfl rfl rfl sz118 rfl rfl (by first | decide | exact Nat.zero_lt_succ _ | simp) ?_
        refine ol_nil (to_k0 (fun _ _ h => h) (hK28 _ _ _ _ _ ?_))
        clear hK28
        refine wp_seq' fun K29 hK29 => ?_
        refine wp_reg ?_
        refine ol_r (r_lda (id := 15) (n := 2) rfl rfl rfl ag118) rfl ?_
        refine ol_r (r_lda (id := 8) (n := 2) rfl rfl rfl ag118) rfl ?_
        refine ol_call rfl rfl cb107 rfl (fun w1 hb1 hs1 hB1 => Calls.mono (track_better (_, _) (_, _) _) ?_)
        rintro e w2 ⟨rfl, hb2⟩
        refine After.below rfl hb1 hs1 hB1 hb2 ?_
        clear hb2 hB1 hs1 hb1 w2 w1
        refine ol_nil (to_k0 (fun _ _ h => h) (hK29 _ _ _ _ _ ?_))
        clear hK29
        refine wp_cond' rfl (fun hc80 => ?_) (fun hc80 => ?_)
        ·refine wp_reg ?_
         refine ol_r (r_lda (id := 15) (n := 2) rfl rfl rfl ag118) rfl ?_
         refine ol_store (id := 8) rfl rfl rfl rfl sz118 rfl rfl (by first | decide | exact Nat.zero_lt_succ _ | simp) ?_
         refine ol_nil (to_k0 (fun _ _ h => h) (hK27 _ _ _ _ _ ?_))
         clear hK27
         refine wp_seq' fun K30 hK30 => ?_
         refine wp_reg ?_
         refine ol_r (r_lda (id := 14) (n := 2) rfl rfl rfl ag118) rfl ?_
         refine ol_r (r_fa (o' := 3) rfl fl28_3 rfl) rfl ?_
         refine ol_r (r_ld (id := 12) rfl rfl rfl sc3) rfl ?_
         refine ol_call rfl rfl cb106 rfl (fun w1 hb1 hs1 hB1 => Calls.mono (track_plus _ _ _ _ (by omega)) ?_)
         rintro e w2 ⟨rfl, hb2⟩
         refine After.below rfl hb1 hs1 hB1 hb2 ?_
         clear hb2 hB1 hs1 hb1 w2 w1
         refine ol_alloc 16 z118 rfl fun b16 => ?_
         refine ol_store (id := 16) rfl rfl rfl rfl sz118 rfl rfl (by first | decide | exact Nat.zero_lt_succ _ | simp) ?_
         refine ol_nil (to_k0 (fun _ _ h => h) (hK30 _ _ _ _ _ ?_))
         clear hK30
         refine wp_seq' fun K31 hK31 => ?_
         refine wp_reg ?_
         refine ol_r (r_lda (id := 16) (n := 2) rfl rfl rfl ag118) rfl ?_
         refine ol_r (r_lda (id := 9) (n := 2) rfl rfl rfl ag118) rfl ?_
         refine ol_call rfl rfl cb107 rfl (fun w1 hb1 hs1 hB1 => Calls.mono (track_better (_, _) (_, _) _) ?_)
         rintro e w2 ⟨rfl, hb2⟩
         refine After.below rfl hb1 hs1 hB1 hb2 ?_
         clear hb2 hB1 hs1 hb1 w2 w1
         refine ol_nil (to_k0 (fun _ _ h => h) (hK31 _ _ _ _ _ ?_))
         clear hK31
         refine wp_cond' rfl (fun hc88 => ?_) (fun hc88 => ?_)
         ·refine wp_reg ?_
          refine ol_r (r_lda (id := 16) (n := 2) rfl rfl rfl ag118) rfl ?_
          refine ol_store (id := 9) rfl rfl rfl rfl sz118 rfl rfl (by first | decide | exact Nat.zero_lt_succ _ | simp) ?_
          refine ol_nil (to_k0 (fun _ _ h => h) (hK20 _ _ _ _ _ ?_))
          clear hK20
          refine wp_reg ?_
          refine ol_r (r_add rfl rfl (by omega)) rfl ?_
          refine ol_r (r_move rfl) rfl ?_
          refine ol_nil (to_k0 (fun _ _ h => h) (hK17 ((k + 1, ⟨(_, _), (_, _), (_, _)⟩)) _ _ ?_ ?_ (sub_cons rfl sub_nil) (sub_cons rfl (sub_cons rfl (sub_cons rfl (sub_cons rfl (sub_cons rfl (sub_cons rfl (sub_cons rfl (sub_cons rfl (sub_cons rfl (sub_cons rfl sub_nil)))))))))) (by exact (subH_blk rfl (sub_cons rfl (sub_cons rfl sub_nil)) (subH_blk rfl (sub_cons rfl (sub_cons rfl sub_nil)) (subH_blk rfl (sub_cons rfl (sub_cons rfl sub_nil)) subH_nil)))) (subH_same rfl (subH_same rfl subH_nil))))
          ·try dsimp only
           refine ⟨by omega, ?_⟩
           rw [clmK_succ hx50, ← hc]
           refine clm_eq ?_ ?_ ?_ <;> first | exact (pickB_t hc63).symm | exact (pickB_n hc63).symm | exact (pickB_t hc80).symm | exact (pickB_n hc80).symm | exact (pickB_t hc88).symm | exact (pickB_n hc88).symm
          ·try dsimp only
           omega
         ·refine wp_skip' (to_k0 (fun _ _ h => h) (hK20 _ _ _ _ _ ?_))
          clear hK20
          refine wp_reg ?_
          refine ol_r (r_add rfl rfl (by omega)) rfl ?_
          refine ol_r (r_move rfl) rfl ?_
          refine ol_nil (to_k0 (fun _ _ h => h) (hK17 ((k + 1, ⟨(_, _), (_, _), (_, _)⟩)) _ _ ?_ ?_ (sub_cons rfl sub_nil) (sub_cons rfl (sub_cons rfl (sub_cons rfl (sub_cons rfl (sub_cons rfl (sub_cons rfl (sub_cons rfl (sub_cons rfl (sub_cons rfl (sub_cons rfl sub_nil)))))))))) (by exact (subH_blk rfl (sub_cons rfl (sub_cons rfl sub_nil)) (subH_blk rfl (sub_cons rfl (sub_cons rfl sub_nil)) (subH_blk rfl (sub_cons rfl (sub_cons rfl sub_nil)) subH_nil)))) (subH_same rfl (subH_same rfl subH_nil))))
          ·try dsimp only
           refine ⟨by omega, ?_⟩
           rw [clmK_succ hx50, ← hc]
           refine clm_eq ?_ ?_ ?_ <;> first | exact (pickB_t hc63).symm | exact (pickB_n hc63).symm | exact (pickB_t hc80).symm | exact (pickB_n hc80).symm | exact (pickB_t hc88).symm | exact (pickB_n hc88).symm
          ·try dsimp only
           omega
        ·refine wp_skip' (to_k0 (fun _ _ h => h) (hK27 _ _ _ _ _ ?_))
         clear hK27
         refine wp_seq' fun K32 hK32 => ?_
         refine wp_reg ?_
         refine ol_r (r_lda (id := 14) (n := 2) rfl rfl rfl ag118) rfl ?_
         refine ol_r (r_fa (o' := 3) rfl fl28_3 rfl) rfl ?_
         refine ol_r (r_ld (id := 12) rfl rfl rfl sc3) rfl ?_
         refine ol_call rfl rfl cb106 rfl (fun w1 hb1 hs1 hB1 => Calls.mono (track_plus _ _ _ _ (by omega)) ?_)
         rintro e w2 ⟨rfl, hb2⟩
         refine After.below rfl hb1 hs1 hB1 hb2 ?_
         clear hb2 hB1 hs1 hb1 w2 w1
         refine ol_alloc 16 z118 rfl fun b16 => ?_
         refine ol_store (id := 16) rfl rfl rfl rfl sz118 rfl rfl (by first | decide | exact Nat.zero_lt_succ _ | simp) ?_
         refine ol_nil (to_k0 (fun _ _ h => h) (hK32 _ _ _ _ _ ?_))
         clear hK32
         refine wp_seq' fun K33 hK33 => ?_
         refine wp_reg ?_
         refine ol_r (r_lda (id := 16) (n := 2) rfl rfl rfl ag118) rfl ?_
         refine ol_r (r_lda (id := 9) (n := 2) rfl rfl rfl ag118) rfl ?_
         refine ol_call rfl rfl cb107 rfl (fun w1 hb1 hs1 hB1 => Calls.mono (track_better (_, _) (_, _) _) ?_)
         rintro e w2 ⟨rfl, hb2⟩
         refine After.below rfl hb1 hs1 hB1 hb2 ?_
         clear hb2 hB1 hs1 hb1 w2 w1
         refine ol_nil (to_k0 (fun _ _ h => h) (hK33 _ _ _ _ _ ?_))
         clear hK33
         refine wp_cond' rfl (fun hc88 => ?_) (fun hc88 => ?_)
         ·refine wp_reg ?_
          refine ol_r (r_lda (id := 16) (n := 2) rfl rfl rfl ag118) rfl ?_
          refine ol_store (id := 9) rfl rfl rfl rfl sz118 rfl rfl (by first | decide | exact Nat.zero_lt_succ _ | simp) ?_
          refine ol_nil (to_k0 (fun _ _ h => h) (hK20 _ _ _ _ _ ?_))
          clear hK20
          refine wp_reg ?_
          refine ol_r (r_add rfl rfl (by omega)) rfl ?_
          refine ol_r (r_move rfl) rfl ?_
          refine ol_nil (to_k0 (fun _ _ h => h) (hK17 ((k + 1, ⟨(_, _), (_, _), (_, _)⟩)) _ _ ?_ ?_ (sub_cons rfl sub_nil) (sub_cons rfl (sub_cons rfl (sub_cons rfl (sub_cons rfl (sub_cons rfl (sub_cons rfl (sub_cons rfl (sub_cons rfl (sub_cons rfl (sub_cons rfl sub_nil)))))))))) (by exact (subH_blk rfl (sub_cons rfl (sub_cons rfl sub_nil)) (subH_blk rfl (sub_cons rfl (sub_cons rfl sub_nil)) (subH_blk rfl (sub_cons rfl (sub_cons rfl sub_nil)) subH_nil)))) (subH_same rfl (subH_same rfl subH_nil))))
          ·try dsimp only
           refine ⟨by omega, ?_⟩
           rw [clmK_succ hx50, ← hc]
           refine clm_eq ?_ ?_ ?_ <;> first | exact (pickB_t hc63).symm | exact (pickB_n hc63).symm | exact (pickB_t hc80).symm | exact (pickB_n hc80).symm | exact (pickB_t hc88).symm | exact (pickB_n hc88).symm
          ·try dsimp only
           omega
         ·refine wp_skip' (to_k0 (fun _ _ h => h) (hK20 _ _ _ _ _ ?_))
          clear hK20
          refine wp_reg ?_
          refine ol_r (r_add rfl rfl (by omega)) rfl ?_
          refine ol_r (r_move rfl) rfl ?_
          refine ol_nil (to_k0 (fun _ _ h => h) (hK17 ((k + 1, ⟨(_, _), (_, _), (_, _)⟩)) _ _ ?_ ?_ (sub_cons rfl sub_nil) (sub_cons rfl (sub_cons rfl (sub_cons rfl (sub_cons rfl (sub_cons rfl (sub_cons rfl (sub_cons rfl (sub_cons rfl (sub_cons rfl (sub_cons rfl sub_nil)))))))))) (by exact (subH_blk rfl (sub_cons rfl (sub_cons rfl sub_nil)) (subH_blk rfl (sub_cons rfl (sub_cons rfl sub_nil)) (subH_blk rfl (sub_cons rfl (sub_cons rfl sub_nil)) subH_nil)))) (subH_same rfl (subH_same rfl subH_nil))))
          ·try dsimp only
           refine ⟨by omega, ?_⟩
           rw [clmK_succ hx50, ← hc]
           refine clm_eq ?_ ?_ ?_ <;> first | exact (pickB_t hc63).symm | exact (pickB_n hc63).symm | exact (pickB_t hc80).symm | exact (pickB_n hc80).symm | exact (pickB_t hc88).symm | exact (pickB_n hc88).symm
          ·try dsimp only
           omega
       ·refine wp_skip' (to_k0 (fun _ _ h => h) (hK23 _ _ _ _ _ ?_))
        clear hK23
        refine wp_seq' fun K34 hK34 => ?_
        refine wp_reg ?_
        refine ol_r (r_fa (o' := 0) rfl fl118_0 rfl) rfl ?_
        refine ol_r (r_ld (id := 10) rfl rfl rfl sc3) rfl ?_
        refine ol_r (r_move rfl) rfl ?_
        refine ol_r (r_sub rfl rfl (by omega)) rfl ?_
        refine ol_r (r_fa (o' := 1) rfl fl118_1 rfl) rfl ?_
        refine ol_r (r_ld (id := 10) rfl rfl rfl sc3) rfl ?_
        refine ol_r (r_add rfl rfl (by omega)) rfl ?_
        refine ol_r (r_build rfl (fun _ => bd118_0_1 _ _ _)) rfl ?_
        refine ol_alloc 14 z118 rfl fun b14 => ?_
        refine ol_store (id := 14) rfl rfl rfl rfl sz118 rfl rfl (by first | decide | exact Nat.zero_lt_succ _ | simp) ?_
        refine ol_nil (to_k0 (fun _ _ h => h) (hK34 _ _ _ _ _ ?_))
        clear hK34
        refine wp_seq' fun K35 hK35 => ?_
        refine wp_seq' fun K36 hK36 => ?_
        refine wp_reg ?_
        refine ol_r (r_lda (id := 14) (n := 2) rfl rfl rfl ag118) rfl ?_
        refine ol_r (r_fa (o' := 3) rfl fl28_3 rfl) rfl ?_
        refine ol_r (r_ld (id := 12) rfl rfl rfl sc3) rfl ?_
        refine ol_r (r_neg rfl (by omega)) rfl ?_
        refine ol_call rfl rfl cb106 rfl (fun w1 hb1 hs1 hB1 => Calls.mono (track_plus _ _ _ _ (by omega)) ?_)
        rintro e w2 ⟨rfl, hb2⟩
        refine After.below rfl hb1 hs1 hB1 hb2 ?_
        clear hb2 hB1 hs1 hb1 w2 w1
        refine ol_alloc 15 z118 rfl fun b15 => ?_
        refine ol_store (id := 15) rfl rfl rfl rfl sz118 rfl rfl (by first | decide | exact Nat.zero_lt_succ _ | simp) ?_
        refine ol_nil (to_k0 (fun _ _ h => h) (hK36 _ _ _ _ _ ?_))
        clear hK36
        refine wp_seq' fun K37 hK37 => ?_
        refine wp_reg ?_
        refine ol_r (r_lda (id := 15) (n := 2) rfl rfl rfl ag118) rfl ?_
        refine ol_r (r_lda (id := 8) (n := 2) rfl rfl rfl ag118) rfl ?_
        refine ol_call rfl rfl cb107 rfl (fun w1 hb1 hs1 hB1 => Calls.mono (track_better (_, _) (_, _) _) ?_)
        rintro e w2 ⟨rfl, hb2⟩
        refine After.below rfl hb1 hs1 hB1 hb2 ?_
        clear hb2 hB1 hs1 hb1 w2 w1
        refine ol_nil (to_k0 (fun _ _ h => h) (hK37 _ _ _ _ _ ?_))
        clear hK37
        refine wp_cond' rfl (fun hc80 => ?_) (fun hc80 => ?_)
        ·refine wp_reg ?_
         refine ol_r (r_lda (id := 15) (n := 2) rfl rfl rfl ag118) rfl ?_
         refine ol_store (id := 8) rfl rfl rfl rfl sz118 rfl rfl (by first | decide | exact Nat.zero_lt_succ _ | simp) ?_
         refine ol_nil (to_k0 (fun _ _ h => h) (hK35 _ _ _ _ _ ?_))
         clear hK35
         refine wp_seq' fun K38 hK38 => ?_
         refine wp_reg ?_
         refine ol_r (r_lda (id := 14) (n := 2) rfl rfl rfl ag118) rfl ?_
         refine ol_r (r_fa (o' := 3) rfl fl28_3 rfl) rfl ?_
         refine ol_r (r_ld (id := 12) rfl rfl rfl sc3) rfl ?_
         refine ol_call rfl rfl cb106 rfl (fun w1 hb1 hs1 hB1 => Calls.mono (track_plus _ _ _ _ (by omega)) ?_)
         rintro e w2 ⟨rfl, hb2⟩
         refine After.below rfl hb1 hs1 hB1 hb2 ?_
         clear hb2 hB1 hs1 hb1 w2 w1
         refine ol_alloc 16 z118 rfl fun b16 => ?_
         refine ol_store (id := 16) rfl rfl rfl rfl sz118 rfl rfl (by first | decide | exact Nat.zero_lt_succ _ | simp) ?_
         refine ol_nil (to_k0 (fun _ _ h => h) (hK38 _ _ _ _ _ ?_))
         clear hK38
         refine wp_seq' fun K39 hK39 => ?_
         refine wp_reg ?_
         refine ol_r (r_lda (id := 16) (n := 2) rfl rfl rfl ag118) rfl ?_
         refine ol_r (r_lda (id := 9) (n := 2) rfl rfl rfl ag118) rfl ?_
         refine ol_call rfl rfl cb107 rfl (fun w1 hb1 hs1 hB1 => Calls.mono (track_better (_, _) (_, _) _) ?_)
         rintro e w2 ⟨rfl, hb2⟩
         refine After.below rfl hb1 hs1 hB1 hb2 ?_
         clear hb2 hB1 hs1 hb1 w2 w1
         refine ol_nil (to_k0 (fun _ _ h => h) (hK39 _ _ _ _ _ ?_))
         clear hK39
         refine wp_cond' rfl (fun hc88 => ?_) (fun hc88 => ?_)
         ·refine wp_reg ?_
          refine ol_r (r_lda (id := 16) (n := 2) rfl rfl rfl ag118) rfl ?_
          refine ol_store (id := 9) rfl rfl rfl rfl sz118 rfl rfl (by first | decide | exact Nat.zero_lt_succ _ | simp) ?_
          refine ol_nil (to_k0 (fun _ _ h => h) (hK20 _ _ _ _ _ ?_))
          clear hK20
          refine wp_reg ?_
          refine ol_r (r_add rfl rfl (by omega)) rfl ?_
          refine ol_r (r_move rfl) rfl ?_
          refine ol_nil (to_k0 (fun _ _ h => h) (hK17 ((k + 1, ⟨(_, _), (_, _), (_, _)⟩)) _ _ ?_ ?_ (sub_cons rfl sub_nil) (sub_cons rfl (sub_cons rfl (sub_cons rfl (sub_cons rfl (sub_cons rfl (sub_cons rfl (sub_cons rfl (sub_cons rfl (sub_cons rfl (sub_cons rfl sub_nil)))))))))) (by exact (subH_blk rfl (sub_cons rfl (sub_cons rfl sub_nil)) (subH_blk rfl (sub_cons rfl (sub_cons rfl sub_nil)) (subH_blk rfl (sub_cons rfl (sub_cons rfl sub_nil)) subH_nil)))) (subH_same rfl (subH_same rfl subH_nil))))
          ·try dsimp only
           refine ⟨by omega, ?_⟩
           rw [clmK_succ hx50, ← hc]
           refine clm_eq ?_ ?_ ?_ <;> first | exact (pickB_t hc63).symm | exact (pickB_n hc63).symm | exact (pickB_t hc80).symm | exact (pickB_n hc80).symm | exact (pickB_t hc88).symm | exact (pickB_n hc88).symm
          ·try dsimp only
           omega
         ·refine wp_skip' (to_k0 (fun _ _ h => h) (hK20 _ _ _ _ _ ?_))
          clear hK20
          refine wp_reg ?_
          refine ol_r (r_add rfl rfl (by omega)) rfl ?_
          refine ol_r (r_move rfl) rfl ?_
          refine ol_nil (to_k0 (fun _ _ h => h) (hK17 ((k + 1, ⟨(_, _), (_, _), (_, _)⟩)) _ _ ?_ ?_ (sub_cons rfl sub_nil) (sub_cons rfl (sub_cons rfl (sub_cons rfl (sub_cons rfl (sub_cons rfl (sub_cons rfl (sub_cons rfl (sub_cons rfl (sub_cons rfl (sub_cons rfl sub_nil)))))))))) (by exact (subH_blk rfl (sub_cons rfl (sub_cons rfl sub_nil)) (subH_blk rfl (sub_cons rfl (sub_cons rfl sub_nil)) (subH_blk rfl (sub_cons rfl (sub_cons rfl sub_nil)) subH_nil)))) (subH_same rfl (subH_same rfl subH_nil))))
          ·try dsimp only
           refine ⟨by omega, ?_⟩
           rw [clmK_succ hx50, ← hc]
           refine clm_eq ?_ ?_ ?_ <;> first | exact (pickB_t hc63).symm | exact (pickB_n hc63).symm | exact (pickB_t hc80).symm | exact (pickB_n hc80).symm | exact (pickB_t hc88).symm | exact (pickB_n hc88).symm
          ·try dsimp only
           omega
        ·refine wp_skip' (to_k0 (fun _ _ h => h) (hK35 _ _ _ _ _ ?_))
         clear hK35
         refine wp_seq' fun K40 hK40 => ?_
         refine wp_reg ?_
         refine ol_r (r_lda (id := 14) (n := 2) rfl rfl rfl ag118) rfl ?_
         refine ol_r (r_fa (o' := 3) rfl fl28_3 rfl) rfl ?_
         refine ol_r (r_ld (id := 12) rfl rfl rfl sc3) rfl ?_
         refine ol_call rfl rfl cb106 rfl (fun w1 hb1 hs1 hB1 => Calls.mono (track_plus _ _ _ _ (by omega)) ?_)
         rintro e w2 ⟨rfl, hb2⟩
         refine After.below rfl hb1 hs1 hB1 hb2 ?_
         clear hb2 hB1 hs1 hb1 w2 w1
         refine ol_alloc 16 z118 rfl fun b16 => ?_
         refine ol_store (id := 16) rfl rfl rfl rfl sz118 rfl rfl (by first | decide | exact Nat.zero_lt_succ _ | simp) ?_
         refine ol_nil (to_k0 (fun _ _ h => h) (hK40 _ _ _ _ _ ?_))
         clear hK40
         refine wp_seq' fun K41 hK41 => ?_
         refine wp_reg ?_
         refine ol_r (r_lda (id := 16) (n := 2) rfl rfl rfl ag118) rfl ?_
         refine ol_r (r_lda (id := 9) (n := 2) rfl rfl rfl ag118) rfl ?_
         refine ol_call rfl rfl cb107 rfl (fun w1 hb1 hs1 hB1 => Calls.mono (track_better (_, _) (_, _) _) ?_)
         rintro e w2 ⟨rfl, hb2⟩
         refine After.below rfl hb1 hs1 hB1 hb2 ?_
         clear hb2 hB1 hs1 hb1 w2 w1
         refine ol_nil (to_k0 (fun _ _ h => h) (hK41 _ _ _ _ _ ?_))
         clear hK41
         refine wp_cond' rfl (fun hc88 => ?_) (fun hc88 => ?_)
         ·refine wp_reg ?_
          refine ol_r (r_lda (id := 16) (n := 2) rfl rfl rfl ag118) rfl ?_
          refine ol_store (id := 9) rfl rfl rfl rfl sz118 rfl rfl (by first | decide | exact Nat.zero_lt_succ _ | simp) ?_
          refine ol_nil (to_k0 (fun _ _ h => h) (hK20 _ _ _ _ _ ?_))
          clear hK20
          refine wp_reg ?_
          refine ol_r (r_add rfl rfl (by omega)) rfl ?_
          refine ol_r (r_move rfl) rfl ?_
          refine ol_nil (to_k0 (fun _ _ h => h) (hK17 ((k + 1, ⟨(_, _), (_, _), (_, _)⟩)) _ _ ?_ ?_ (sub_cons rfl sub_nil) (sub_cons rfl (sub_cons rfl (sub_cons rfl (sub_cons rfl (sub_cons rfl (sub_cons rfl (sub_cons rfl (sub_cons rfl (sub_cons rfl (sub_cons rfl sub_nil)))))))))) (by exact (subH_blk rfl (sub_cons rfl (sub_cons rfl sub_nil)) (subH_blk rfl (sub_cons rfl (sub_cons rfl sub_nil)) (subH_blk rfl (sub_cons rfl (sub_cons rfl sub_nil)) subH_nil)))) (subH_same rfl (subH_same rfl subH_nil))))
          ·try dsimp only
           refine ⟨by omega, ?_⟩
           rw [clmK_succ hx50, ← hc]
           refine clm_eq ?_ ?_ ?_ <;> first | exact (pickB_t hc63).symm | exact (pickB_n hc63).symm | exact (pickB_t hc80).symm | exact (pickB_n hc80).symm | exact (pickB_t hc88).symm | exact (pickB_n hc88).symm
          ·try dsimp only
           omega
         ·refine wp_skip' (to_k0 (fun _ _ h => h) (hK20 _ _ _ _ _ ?_))
          clear hK20
          refine wp_reg ?_
          refine ol_r (r_add rfl rfl (by omega)) rfl ?_
          refine ol_r (r_move rfl) rfl ?_
          refine ol_nil (to_k0 (fun _ _ h => h) (hK17 ((k + 1, ⟨(_, _), (_, _), (_, _)⟩)) _ _ ?_ ?_ (sub_cons rfl sub_nil) (sub_cons rfl (sub_cons rfl (sub_cons rfl (sub_cons rfl (sub_cons rfl (sub_cons rfl (sub_cons rfl (sub_cons rfl (sub_cons rfl (sub_cons rfl sub_nil)))))))))) (by exact (subH_blk rfl (sub_cons rfl (sub_cons rfl sub_nil)) (subH_blk rfl (sub_cons rfl (sub_cons rfl sub_nil)) (subH_blk rfl (sub_cons rfl (sub_cons rfl sub_nil)) subH_nil)))) (subH_same rfl (subH_same rfl subH_nil))))
          ·try dsimp only
           refine ⟨by omega, ?_⟩
           rw [clmK_succ hx50, ← hc]
           refine clm_eq ?_ ?_ ?_ <;> first | exact (pickB_t hc63).symm | exact (pickB_n hc63).symm | exact (pickB_t hc80).symm | exact (pickB_n hc80).symm | exact (pickB_t hc88).symm | exact (pickB_n hc88).symm
          ·try dsimp only
           omega
      ·refine wp_exit' (to_k0 (fun _ _ h => h) (hK15 _ _ _ _ _ ?_))
       clear hK15
       refine wp_seq' fun K42 hK42 => ?_
       refine wp_reg ?_
       refine ol_r (r_fa (o' := 0) rfl fl118_0 rfl) rfl ?_
       refine ol_r (r_ld (id := 10) rfl rfl rfl sc3) rfl ?_
       refine ol_r (r_move rfl) rfl ?_
       refine ol_r (r_fa (o' := 1) rfl fl118_1 rfl) rfl ?_
       refine ol_r (r_ld (id := 10) rfl rfl rfl sc3) rfl ?_
       have qm := mul_bd (a := th) (b := oc) (A := 200000) (B := 8000100000) (by omega) (by omega) (by omega) (by omega)
       refine ol_r (r_mul rfl rfl (by omega)) rfl ?_
       refine ol_r (r_add rfl rfl (by omega)) rfl ?_
       refine ol_r (r_assign rfl) rfl ?_
       refine ol_nil (to_k0 (fun _ _ h => h) (hK42 _ _ _ _ _ ?_))
       clear hK42
       refine wp_seq' fun K43 hK43 => ?_
       refine wp_reg ?_
       refine ol_r (r_fa (o' := 3) rfl fl26_3 rfl) rfl ?_
       refine ol_r (r_ld (id := 2) rfl rfl rfl sc22) rfl ?_
       refine ol_r (r_fa (o' := 3) rfl fl26_3 rfl) rfl ?_
       refine ol_r (r_ld (id := 2) rfl rfl rfl sc22) rfl ?_
       refine ol_r (r_len rfl sl22) rfl ?_
       refine ol_r (r_sub rfl rfl (by omega)) rfl ?_
       refine ol_ixr hA.s rfl rfl sl22 (by omega) rfl fun x104 hx104 => ?_
       try simp only [Int.toNat_natCast] at hx104
       refine ol_r (r_faw rfl (ix_some hA.s (by omega)) fl28_3) rfl ?_
       refine ol_r (r_ldw rfl (fun w1 hb1 hs1 hB1 => Rd.loadsF (o := 3) hA.s sc3 hx104 hb1 rfl)) rfl ?_
       refine ol_r (r_move rfl) rfl ?_
       have hz1 := hok.hgt (List.mem_of_getElem? hx104)
       refine ol_r (r_sub rfl rfl (by omega)) rfl ?_
       refine ol_r (r_assign rfl) rfl ?_
       refine ol_nil (to_k0 (fun _ _ h => h) (hK43 _ _ _ _ _ ?_))
       clear hK43
       refine wp_seq' fun K44 hK44 => ?_
       refine wp_reg ?_
       refine ol_r (r_move rfl) rfl ?_
       refine ol_r (r_move rfl) rfl ?_
       refine ol_r (r_add rfl rfl (by omega)) rfl ?_
       first | refine ol_r (r_quo rfl rfl (by omega)) rfl ?_ | refine ol_r (r_tquo rfl rfl (by omega)) rfl ?_
       refine ol_r (r_move rfl) rfl ?_
       refine ol_r (r_move rfl) rfl ?_
       refine ol_r (r_sub rfl rfl (by omega)) rfl ?_
       first | refine ol_r (r_quo rfl rfl (by omega)) rfl ?_ | refine ol_r (r_tquo rfl rfl (by omega)) rfl ?_
       refine ol_r (r_fa (o' := 1) rfl fl118_1 rfl) rfl ?_
       refine ol_r (r_ld (id := 10) rfl rfl rfl sc3) rfl ?_
       refine ol_r (r_build rfl (fun _ => bd71_0_1_2 _ _ _ _)) rfl ?_
       refine ol_store (id := 4) rfl rfl rfl rfl sz71 rfl rfl (by first | decide | exact Nat.zero_lt_succ _ | simp) ?_
       refine ol_r (r_assign rfl) rfl ?_
       refine ol_nil (to_k0 (fun _ _ h => h) (hK44 _ _ _ _ _ ?_))
       clear hK44
       refine hQ.ret (rvs2 (rv_c (id := 4) (n := 3) rfl rfl ag71 rfl) (rv_t rfl)) (fun _ _ h => h) fun w hb hs hB hkd => ?_
       first
         | (have h := climbR_z (Decidable.not_not.1 hc22) (th := th) hth (by show ¬A.ss.length < 2; omega)
            have hk' : k = A.ss.length - 1 := by omega
            have hz2 : zAt A.ss (A.ss.length - 1) = x104.z := by refine zAt_eq ?_; rw [← hx104]; congr 1; omega
            have hz3 : zAt A.ss 0 = x36.z := zAt_eq hx36
            refine ⟨?_, hb⟩
            rw [h]
            unfold zigR
            rw [hk'] at hc
            simp only [show A.d.ss = A.ss from rfl, hz2, hz3, ← hc])
end Go.Proofs.Ytogcclagmobkiaa
