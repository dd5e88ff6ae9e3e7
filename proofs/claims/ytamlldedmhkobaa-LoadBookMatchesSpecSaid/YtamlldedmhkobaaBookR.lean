/-
  A book of loads: the reference.
-/
import Derived.Test.YtamlldedmhkobaaBook
import Derived.Test.YtamlldedmhkobaaHw
namespace Go.Proofs.Ytamlldedmhkobaa
open Go Go.RowKit Hx
set_option linter.unusedVariables false
set_option linter.unusedSimpArgs false
set_option maxRecDepth 8000
def faultB (first d : Int) : Int := if dayB first d = true then 0 else 9
theorem faultB_ne {first d : Int} (h : faultB first d ≠ 0) : faultB first d = 9 ∧ ¬dayB first d = true := by
  unfold faultB at h ⊢
  by_cases h1 : dayB first d = true
  · rw [if_pos h1] at h; exact absurd rfl h
  · rw [if_neg h1]; exact ⟨rfl, h1⟩
theorem faultB_eq {first d : Int} (h : ¬faultB first d ≠ 0) : dayB first d = true := by
  by_cases h1 : dayB first d = true
  · exact h1
  · exfalso; apply h; unfold faultB; rw [if_neg h1]; decide
theorem ref_dayFault (b m : Nat) (first fit fat d : Int) (w : World) (hk : Blk w.heap.size w b [(0, .int .i64 first), (1, .int .i64 fit), (2, .int .i64 fat), (3, .map (some m))]) (hf : 0 ≤ first ∧ first ≤ 999999) :
    Calls Try.prog 80 #[.pointer (some ⟨b, 0, none⟩), .int .i64 d] w fun e w' => e = .returned (.int .i64 (faultB first d)) ∧ Below w.heap.size w w' := by
  refine enterQ (N := 18) (C := fun _ => True) (H := []) (B := w.heap.size) (args := [_, _]) Try.func80 rfl rfl rfl (Nat.le_refl _) (Sat.nil _ _) fun Q hQ => ?_
  refine wp_seq' fun K1 hK1 => ?_
  refine wp_reg ?_
  refine ol_r (r_assign rfl) rfl ?_
  refine ol_nil (to_k0 (fun _ _ h => h) (hK1 _ _ _ _ _ ?_))
  clear hK1
  refine wp_seq' fun K2 hK2 => ?_
  refine wp_seq' fun K3 hK3 => ?_
  refine wp_regq (by kernel_rfl) (by kernel_rfl) ?_
  refine ql_r (r_move rfl) rfl ?_
  refine ql_r (r_move rfl) rfl ?_
  refine ql_r (r_nilS rfl (rfl)) rfl ?_
  refine ql_r (r_fa (o' := 0) rfl fl96_0 rfl) rfl ?_
  refine ql_r (r_ldw rfl (fun w1 hb1 hs1 hB1 => Blk.loads (o := 0) hk hb1 sc3 rfl)) rfl ?_
  refine ql_r (r_move rfl) rfl ?_
  refine ql_r (r_nilS rfl (rfl)) rfl ?_
  refine ql_r (r_fa (o' := 0) rfl fl96_0 rfl) rfl ?_
  refine ql_r (r_ldw rfl (fun w1 hb1 hs1 hB1 => Blk.loads (o := 0) hk hb1 sc3 rfl)) rfl ?_
  refine ql_r (r_add rfl rfl (by omega)) rfl ?_
  refine ql_r (r_sub rfl rfl (by omega)) rfl ?_
  refine ql_r (r_min rfl rfl) rfl ?_
  refine ql_call rfl rfl cb62 rfl (fun w1 hb1 hs1 hB1 => ref_outside _ _ _ _) ?_
  refine ql_nil (to_k0 (fun _ _ h => h) (hK3 _ _ _ _ _ ?_))
  clear hK3
  first | refine wp_condD rfl (fun hc17 => ?_) (fun hc17 => ?_) | refine wp_condN rfl (fun hc17 => ?_) (fun hc17 => ?_) | refine wp_condNB rfl (fun hc17 => ?_) (fun hc17 => ?_) | refine wp_cond' rfl (fun hc17 => ?_) (fun hc17 => ?_)
  ·refine wp_seq' fun K4 hK4 => ?_
   refine wp_reg ?_
   refine ol_r (r_assign rfl) rfl ?_
   refine ol_nil (to_k0 (fun _ _ h => h) (hK4 _ _ _ _ _ ?_))
   clear hK4
   refine hQ.ret (rvs1 (rv_t rfl)) (fun _ _ h => h) fun w hb hs hB hkd => ?_
   exact ⟨by unfold faultB dayB; rw [if_neg (by simp_all)], hb⟩
  ·refine wp_skip' (to_k0 (fun _ _ h => h) (hK2 _ _ _ _ _ ?_))
   clear hK2
   refine wp_seq' fun K5 hK5 => ?_
   refine wp_reg ?_
   refine ol_r (r_assign rfl) rfl ?_
   refine ol_nil (to_k0 (fun _ _ h => h) (hK5 _ _ _ _ _ ?_))
   clear hK5
   refine hQ.ret (rvs1 (rv_t rfl)) (fun _ _ h => h) fun w hb hs hB hkd => ?_
   exact ⟨by unfold faultB dayB; rw [if_pos (by simp_all)], hb⟩
theorem ref_Add (B b m : Nat) (first fit fat d n : Int) (D : List (Int × Int)) (e1 e2 e3 : Ent) (w : World) (hB : B ≤ w.heap.size) (hok : BkOk (mG (0 : Int) D) first fit fat)
    (hs : Sat B w [(810, .blk b [(0, .int .i64 first), (1, .int .i64 fit), (2, .int .i64 fat), (3, .map (some m))] 96), (811, .mp m (mEnc (Value.int .i64) (Value.int .i64) D)), (901, e1), (902, e2), (903, e3)]) :
    Calls Try.prog 39 #[.pointer (some ⟨b, 0, none⟩), .int .i64 d, .int .i64 n] w fun e w' => e = .returned (.int .i64 (addC (mG (0 : Int) D) first d n)) ∧ Below B w w' ∧ Sat B w' [(810, .blk b [(0, .int .i64 first), (1, .int .i64 fit), (2, .int .i64 fat), (3, .map (some m))] 96), (811, .mp m (mEnc (Value.int .i64) (Value.int .i64) (addD D first d n))), (901, e1), (902, e2), (903, e3)] ∧ B ≤ w'.heap.size ∧ Kd (fun _ => True) w w' := by
  have hg := hok.load d
  have hf := hok.first
  refine enterQ (N := 33) (C := fun _ => True) (H := [(810, .blk b [(0, .int .i64 first), (1, .int .i64 fit), (2, .int .i64 fat), (3, .map (some m))] 96), (811, .mp m (mEnc (Value.int .i64) (Value.int .i64) D)), (901, e1), (902, e2), (903, e3)]) (B := B) (args := [_, _, _]) Try.func39 rfl rfl rfl (hB) (hs) fun Q hQ => ?_
  refine wp_seq' fun K1 hK1 => ?_
  refine wp_reg ?_
  refine ol_r (r_assign rfl) rfl ?_
  refine ol_nil (to_k0 (fun _ _ h => h) (hK1 _ _ _ _ _ ?_))
  clear hK1
  refine wp_seq' fun K2 hK2 => ?_
  refine wp_seq' fun K3 hK3 => ?_
  refine wp_reg ?_
  refine ol_r (r_move rfl) rfl ?_
  refine ol_r (r_move rfl) rfl ?_
  refine ol_call rfl rfl cb80 rfl (fun w1 hb1 hs1 hB1 => Calls.mono (ref_dayFault b m first fit fat d _ (hs1.blk (id := 810) rfl) hf) ?_)
  rintro e w2 ⟨rfl, hb2⟩
  refine After.below rfl hb1 hs1 hB1 hb2 ?_
  clear hb2 hB1 hs1 hb1 w2 w1
  refine ol_r (r_assign rfl) rfl ?_
  refine ol_nil (to_k0 (fun _ _ h => h) (hK3 _ _ _ _ _ ?_))
  clear hK3
  refine wp_seq' fun K4 hK4 => ?_
  refine wp_reg ?_
  refine ol_r (r_move rfl) rfl ?_
  refine ol_r (r_neq rfl rfl) rfl ?_
  refine ol_nil (to_k0 (fun _ _ h => h) (hK4 _ _ _ _ _ ?_))
  clear hK4
  first | refine wp_condD rfl (fun hc12 => ?_) (fun hc12 => ?_) | refine wp_condN rfl (fun hc12 => ?_) (fun hc12 => ?_) | refine wp_condNB rfl (fun hc12 => ?_) (fun hc12 => ?_) | refine wp_cond' rfl (fun hc12 => ?_) (fun hc12 => ?_)
  ·refine wp_seq' fun K5 hK5 => ?_
   refine wp_reg ?_
   refine ol_r (r_move rfl) rfl ?_
   refine ol_r (r_assign rfl) rfl ?_
   refine ol_nil (to_k0 (fun _ _ h => h) (hK5 _ _ _ _ _ ?_))
   clear hK5
   refine hQ.ret (rvs1 (rv_t rfl)) (fun _ _ h => h) fun w hb hs hB hkd => ?_
   have hc := addC_9 (g := (mG (0 : Int) D)) (first := first) (d := d) (n := n) (fun hh => (faultB_ne hc12).2 hh.1)
   refine ⟨by rw [hc]; try first | rfl | exact congrArg (fun z => Ending.returned (Value.int .i64 z)) (faultB_ne hc12).1, hb, ?_, hB, hkd⟩
   unfold addD
   rw [hc]
   exact hs.sub (subH_same rfl (subH_same rfl (subH_same rfl (subH_same rfl (subH_same rfl subH_nil)))))
  ·refine wp_skip' (to_k0 (fun _ _ h => h) (hK2 _ _ _ _ _ ?_))
   clear hK2
   refine wp_seq' fun K6 hK6 => ?_
   refine wp_seq' fun K7 hK7 => ?_
   refine wp_reg ?_
   refine ol_r (r_move rfl) rfl ?_
   refine ol_call rfl rfl cb62 rfl (fun w1 hb1 hs1 hB1 => Calls.mono (ref_outside _ _ _ _) ?_)
   rintro e w2 ⟨rfl, hb2⟩
   refine After.below rfl hb1 hs1 hB1 hb2 ?_
   clear hb2 hB1 hs1 hb1 w2 w1
   refine ol_nil (to_k0 (fun _ _ h => h) (hK7 _ _ _ _ _ ?_))
   clear hK7
   first | refine wp_condD rfl (fun hc15 => ?_) (fun hc15 => ?_) | refine wp_condN rfl (fun hc15 => ?_) (fun hc15 => ?_) | refine wp_condNB rfl (fun hc15 => ?_) (fun hc15 => ?_) | refine wp_cond' rfl (fun hc15 => ?_) (fun hc15 => ?_)
   ·refine wp_seq' fun K8 hK8 => ?_
    refine wp_reg ?_
    refine ol_r (r_assign rfl) rfl ?_
    refine ol_nil (to_k0 (fun _ _ h => h) (hK8 _ _ _ _ _ ?_))
    clear hK8
    refine hQ.ret (rvs1 (rv_t rfl)) (fun _ _ h => h) fun w hb hs hB hkd => ?_
    have hc := addC_9 (g := (mG (0 : Int) D)) (first := first) (d := d) (n := n) (by simp_all)
    refine ⟨by rw [hc]; try first | rfl | exact congrArg (fun z => Ending.returned (Value.int .i64 z)) (faultB_ne hc12).1, hb, ?_, hB, hkd⟩
    unfold addD
    rw [hc]
    exact hs.sub (subH_same rfl (subH_same rfl (subH_same rfl (subH_same rfl (subH_same rfl subH_nil)))))
   ·refine wp_skip' (to_k0 (fun _ _ h => h) (hK6 _ _ _ _ _ ?_))
    clear hK6
    refine wp_seq' fun K9 hK9 => ?_
    refine wp_seq' fun K10 hK10 => ?_
    refine wp_reg ?_
    refine ol_r (r_move rfl) rfl ?_
    refine ol_r (r_nilS rfl (rfl)) rfl ?_
    refine ol_r (r_fa (o' := 3) rfl fl96_3 rfl) rfl ?_
    refine ol_r (r_ld (id := 810) rfl rfl rfl sc92) rfl ?_
    refine ol_r (r_move rfl) rfl ?_
    refine ol_r (r_lookup (K := Value.int .i64) (V := Value.int .i64) (z := (0 : Int)) (id := 811) rfl rfl rfl mt92) rfl ?_
    refine ol_r (r_move rfl) rfl ?_
    have hn : 0 ≤ n ∧ n ≤ 10000 := inB_iff.1 (by simp_all)
    refine ol_r (r_add rfl rfl (by omega)) rfl ?_
    refine ol_r (r_gtr rfl rfl) rfl ?_
    refine ol_nil (to_k0 (fun _ _ h => h) (hK10 _ _ _ _ _ ?_))
    clear hK10
    first | refine wp_condD rfl (fun hc24 => ?_) (fun hc24 => ?_) | refine wp_condN rfl (fun hc24 => ?_) (fun hc24 => ?_) | refine wp_condNB rfl (fun hc24 => ?_) (fun hc24 => ?_) | refine wp_cond' rfl (fun hc24 => ?_) (fun hc24 => ?_)
    ·refine wp_seq' fun K11 hK11 => ?_
     refine wp_reg ?_
     refine ol_r (r_assign rfl) rfl ?_
     refine ol_nil (to_k0 (fun _ _ h => h) (hK11 _ _ _ _ _ ?_))
     clear hK11
     refine hQ.ret (rvs1 (rv_t rfl)) (fun _ _ h => h) fun w hb hs hB hkd => ?_
     have hc := addC_3 (g := (mG (0 : Int) D)) (first := first) (d := d) (n := n) (faultB_eq hc12) (by simp_all) (by omega)
     refine ⟨by rw [hc]; try first | rfl | exact congrArg (fun z => Ending.returned (Value.int .i64 z)) (faultB_ne hc12).1, hb, ?_, hB, hkd⟩
     unfold addD
     rw [hc]
     exact hs.sub (subH_same rfl (subH_same rfl (subH_same rfl (subH_same rfl (subH_same rfl subH_nil)))))
    ·refine wp_skip' (to_k0 (fun _ _ h => h) (hK9 _ _ _ _ _ ?_))
     clear hK9
     refine wp_seq' fun K12 hK12 => ?_
     refine wp_reg ?_
     refine ol_r (r_move rfl) rfl ?_
     refine ol_r (r_nilS rfl (rfl)) rfl ?_
     refine ol_r (r_fa (o' := 3) rfl fl96_3 rfl) rfl ?_
     refine ol_r (r_ld (id := 810) rfl rfl rfl sc92) rfl ?_
     refine ol_r (r_move rfl) rfl ?_
     refine ol_r (r_lookup (K := Value.int .i64) (V := Value.int .i64) (z := (0 : Int)) (id := 811) rfl rfl rfl mt92) rfl ?_
     refine ol_r (r_move rfl) rfl ?_
     refine ol_r (r_add rfl rfl (by omega)) rfl ?_
     refine ol_mapup (K := Value.int .i64) (V := Value.int .i64) (z := (0 : Int)) (id := 811) rfl rfl rfl rfl mt92 trivial ?_
     refine ol_nil (to_k0 (fun _ _ h => h) (hK12 _ _ _ _ _ ?_))
     clear hK12
     refine wp_seq' fun K13 hK13 => ?_
     refine wp_reg ?_
     refine ol_r (r_assign rfl) rfl ?_
     refine ol_nil (to_k0 (fun _ _ h => h) (hK13 _ _ _ _ _ ?_))
     clear hK13
     refine hQ.ret (rvs1 (rv_t rfl)) (fun _ _ h => h) fun w hb hs hB hkd => ?_
     have hc := addC_0 (g := (mG (0 : Int) D)) (first := first) (d := d) (n := n) (faultB_eq hc12) (by simp_all) (by omega)
     refine ⟨by rw [hc]; try first | rfl | exact congrArg (fun z => Ending.returned (Value.int .i64 z)) (faultB_ne hc12).1, hb, ?_, hB, hkd⟩
     unfold addD
     rw [hc]
     exact hs.sub (subH_same rfl (subH_same rfl (subH_same rfl (subH_same rfl (subH_same rfl subH_nil)))))
theorem ref_Take (B b m : Nat) (first fit fat d n : Int) (D : List (Int × Int)) (e1 e2 e3 : Ent) (w : World) (hB : B ≤ w.heap.size) (hok : BkOk (mG (0 : Int) D) first fit fat)
    (hs : Sat B w [(810, .blk b [(0, .int .i64 first), (1, .int .i64 fit), (2, .int .i64 fat), (3, .map (some m))] 96), (811, .mp m (mEnc (Value.int .i64) (Value.int .i64) D)), (901, e1), (902, e2), (903, e3)]) :
    Calls Try.prog 41 #[.pointer (some ⟨b, 0, none⟩), .int .i64 d, .int .i64 n] w fun e w' => e = .returned (.int .i64 (takeC (mG (0 : Int) D) first d n)) ∧ Below B w w' ∧ Sat B w' [(810, .blk b [(0, .int .i64 first), (1, .int .i64 fit), (2, .int .i64 fat), (3, .map (some m))] 96), (811, .mp m (mEnc (Value.int .i64) (Value.int .i64) (takeD D first d n))), (901, e1), (902, e2), (903, e3)] ∧ B ≤ w'.heap.size ∧ Kd (fun _ => True) w w' := by
  have hg := hok.load d
  have hf := hok.first
  refine enterQ (N := 33) (C := fun _ => True) (H := [(810, .blk b [(0, .int .i64 first), (1, .int .i64 fit), (2, .int .i64 fat), (3, .map (some m))] 96), (811, .mp m (mEnc (Value.int .i64) (Value.int .i64) D)), (901, e1), (902, e2), (903, e3)]) (B := B) (args := [_, _, _]) Try.func41 rfl rfl rfl (hB) (hs) fun Q hQ => ?_
  refine wp_seq' fun K1 hK1 => ?_
  refine wp_reg ?_
  refine ol_r (r_assign rfl) rfl ?_
  refine ol_nil (to_k0 (fun _ _ h => h) (hK1 _ _ _ _ _ ?_))
  clear hK1
  refine wp_seq' fun K2 hK2 => ?_
  refine wp_seq' fun K3 hK3 => ?_
  refine wp_reg ?_
  refine ol_r (r_move rfl) rfl ?_
  refine ol_r (r_move rfl) rfl ?_
  refine ol_call rfl rfl cb80 rfl (fun w1 hb1 hs1 hB1 => Calls.mono (ref_dayFault b m first fit fat d _ (hs1.blk (id := 810) rfl) hf) ?_)
  rintro e w2 ⟨rfl, hb2⟩
  refine After.below rfl hb1 hs1 hB1 hb2 ?_
  clear hb2 hB1 hs1 hb1 w2 w1
  refine ol_r (r_assign rfl) rfl ?_
  refine ol_nil (to_k0 (fun _ _ h => h) (hK3 _ _ _ _ _ ?_))
  clear hK3
  refine wp_seq' fun K4 hK4 => ?_
  refine wp_reg ?_
  refine ol_r (r_move rfl) rfl ?_
  refine ol_r (r_neq rfl rfl) rfl ?_
  refine ol_nil (to_k0 (fun _ _ h => h) (hK4 _ _ _ _ _ ?_))
  clear hK4
  first | refine wp_condD rfl (fun hc12 => ?_) (fun hc12 => ?_) | refine wp_condN rfl (fun hc12 => ?_) (fun hc12 => ?_) | refine wp_condNB rfl (fun hc12 => ?_) (fun hc12 => ?_) | refine wp_cond' rfl (fun hc12 => ?_) (fun hc12 => ?_)
  ·refine wp_seq' fun K5 hK5 => ?_
   refine wp_reg ?_
   refine ol_r (r_move rfl) rfl ?_
   refine ol_r (r_assign rfl) rfl ?_
   refine ol_nil (to_k0 (fun _ _ h => h) (hK5 _ _ _ _ _ ?_))
   clear hK5
   refine hQ.ret (rvs1 (rv_t rfl)) (fun _ _ h => h) fun w hb hs hB hkd => ?_
   have hc := takeC_9 (g := (mG (0 : Int) D)) (first := first) (d := d) (n := n) (fun hh => (faultB_ne hc12).2 hh.1)
   refine ⟨by rw [hc]; try first | rfl | exact congrArg (fun z => Ending.returned (Value.int .i64 z)) (faultB_ne hc12).1, hb, ?_, hB, hkd⟩
   unfold takeD
   rw [hc]
   exact hs.sub (subH_same rfl (subH_same rfl (subH_same rfl (subH_same rfl (subH_same rfl subH_nil)))))
  ·refine wp_skip' (to_k0 (fun _ _ h => h) (hK2 _ _ _ _ _ ?_))
   clear hK2
   refine wp_seq' fun K6 hK6 => ?_
   refine wp_seq' fun K7 hK7 => ?_
   refine wp_reg ?_
   refine ol_r (r_move rfl) rfl ?_
   refine ol_call rfl rfl cb62 rfl (fun w1 hb1 hs1 hB1 => Calls.mono (ref_outside _ _ _ _) ?_)
   rintro e w2 ⟨rfl, hb2⟩
   refine After.below rfl hb1 hs1 hB1 hb2 ?_
   clear hb2 hB1 hs1 hb1 w2 w1
   refine ol_nil (to_k0 (fun _ _ h => h) (hK7 _ _ _ _ _ ?_))
   clear hK7
   first | refine wp_condD rfl (fun hc15 => ?_) (fun hc15 => ?_) | refine wp_condN rfl (fun hc15 => ?_) (fun hc15 => ?_) | refine wp_condNB rfl (fun hc15 => ?_) (fun hc15 => ?_) | refine wp_cond' rfl (fun hc15 => ?_) (fun hc15 => ?_)
   ·refine wp_seq' fun K8 hK8 => ?_
    refine wp_reg ?_
    refine ol_r (r_assign rfl) rfl ?_
    refine ol_nil (to_k0 (fun _ _ h => h) (hK8 _ _ _ _ _ ?_))
    clear hK8
    refine hQ.ret (rvs1 (rv_t rfl)) (fun _ _ h => h) fun w hb hs hB hkd => ?_
    have hc := takeC_9 (g := (mG (0 : Int) D)) (first := first) (d := d) (n := n) (by simp_all)
    refine ⟨by rw [hc]; try first | rfl | exact congrArg (fun z => Ending.returned (Value.int .i64 z)) (faultB_ne hc12).1, hb, ?_, hB, hkd⟩
    unfold takeD
    rw [hc]
    exact hs.sub (subH_same rfl (subH_same rfl (subH_same rfl (subH_same rfl (subH_same rfl subH_nil)))))
   ·refine wp_skip' (to_k0 (fun _ _ h => h) (hK6 _ _ _ _ _ ?_))
    clear hK6
    refine wp_seq' fun K9 hK9 => ?_
    refine wp_seq' fun K10 hK10 => ?_
    refine wp_reg ?_
    refine ol_r (r_move rfl) rfl ?_
    refine ol_r (r_nilS rfl (rfl)) rfl ?_
    refine ol_r (r_fa (o' := 3) rfl fl96_3 rfl) rfl ?_
    refine ol_r (r_ld (id := 810) rfl rfl rfl sc92) rfl ?_
    refine ol_r (r_move rfl) rfl ?_
    refine ol_r (r_lookup (K := Value.int .i64) (V := Value.int .i64) (z := (0 : Int)) (id := 811) rfl rfl rfl mt92) rfl ?_
    refine ol_r (r_move rfl) rfl ?_
    have hn : 0 ≤ n ∧ n ≤ 10000 := inB_iff.1 (by simp_all)
    refine ol_r (r_sub rfl rfl (by omega)) rfl ?_
    refine ol_r (r_lss rfl rfl) rfl ?_
    refine ol_nil (to_k0 (fun _ _ h => h) (hK10 _ _ _ _ _ ?_))
    clear hK10
    first | refine wp_condD rfl (fun hc24 => ?_) (fun hc24 => ?_) | refine wp_condN rfl (fun hc24 => ?_) (fun hc24 => ?_) | refine wp_condNB rfl (fun hc24 => ?_) (fun hc24 => ?_) | refine wp_cond' rfl (fun hc24 => ?_) (fun hc24 => ?_)
    ·refine wp_seq' fun K11 hK11 => ?_
     refine wp_reg ?_
     refine ol_r (r_assign rfl) rfl ?_
     refine ol_nil (to_k0 (fun _ _ h => h) (hK11 _ _ _ _ _ ?_))
     clear hK11
     refine hQ.ret (rvs1 (rv_t rfl)) (fun _ _ h => h) fun w hb hs hB hkd => ?_
     have hc := takeC_4 (g := (mG (0 : Int) D)) (first := first) (d := d) (n := n) (faultB_eq hc12) (by simp_all) (by omega)
     refine ⟨by rw [hc]; try first | rfl | exact congrArg (fun z => Ending.returned (Value.int .i64 z)) (faultB_ne hc12).1, hb, ?_, hB, hkd⟩
     unfold takeD
     rw [hc]
     exact hs.sub (subH_same rfl (subH_same rfl (subH_same rfl (subH_same rfl (subH_same rfl subH_nil)))))
    ·refine wp_skip' (to_k0 (fun _ _ h => h) (hK9 _ _ _ _ _ ?_))
     clear hK9
     refine wp_seq' fun K12 hK12 => ?_
     refine wp_reg ?_
     refine ol_r (r_move rfl) rfl ?_
     refine ol_r (r_nilS rfl (rfl)) rfl ?_
     refine ol_r (r_fa (o' := 3) rfl fl96_3 rfl) rfl ?_
     refine ol_r (r_ld (id := 810) rfl rfl rfl sc92) rfl ?_
     refine ol_r (r_move rfl) rfl ?_
     refine ol_r (r_lookup (K := Value.int .i64) (V := Value.int .i64) (z := (0 : Int)) (id := 811) rfl rfl rfl mt92) rfl ?_
     refine ol_r (r_move rfl) rfl ?_
     refine ol_r (r_sub rfl rfl (by omega)) rfl ?_
     refine ol_mapup (K := Value.int .i64) (V := Value.int .i64) (z := (0 : Int)) (id := 811) rfl rfl rfl rfl mt92 trivial ?_
     refine ol_nil (to_k0 (fun _ _ h => h) (hK12 _ _ _ _ _ ?_))
     clear hK12
     refine wp_seq' fun K13 hK13 => ?_
     refine wp_reg ?_
     refine ol_r (r_assign rfl) rfl ?_
     refine ol_nil (to_k0 (fun _ _ h => h) (hK13 _ _ _ _ _ ?_))
     clear hK13
     refine hQ.ret (rvs1 (rv_t rfl)) (fun _ _ h => h) fun w hb hs hB hkd => ?_
     have hc := takeC_0 (g := (mG (0 : Int) D)) (first := first) (d := d) (n := n) (faultB_eq hc12) (by simp_all) (by omega)
     refine ⟨by rw [hc]; try first | rfl | exact congrArg (fun z => Ending.returned (Value.int .i64 z)) (faultB_ne hc12).1, hb, ?_, hB, hkd⟩
     unfold takeD
     rw [hc]
     exact hs.sub (subH_same rfl (subH_same rfl (subH_same rfl (subH_same rfl (subH_same rfl subH_nil)))))
theorem ref_NewOk (first fit fat : Int) (w : World) (h : newB first fit fat = true) :
    Calls Try.prog 37 #[.int .i64 first, .int .i64 fit, .int .i64 fat] w fun e w' => ∃ b m, e = .returned (.tuple #[.pointer (some ⟨b, 0, none⟩), .int .i64 0]) ∧ Below w.heap.size w w' ∧ Sat w.heap.size w' [(1001, .blk b [(0, .int .i64 first), (1, .int .i64 fit), (2, .int .i64 fat), (3, .map (some m))] 96), (1002, .mp m [])] := by
  unfold newB at h
  simp only [Bool.and_eq_true] at h
  obtain ⟨⟨h1, h2⟩, h3⟩ := h
  refine enterQ (N := 24) (C := fun _ => True) (H := []) (B := w.heap.size) (args := [_, _, _]) Try.func37 rfl rfl rfl (Nat.le_refl _) (Sat.nil _ _) fun Q hQ => ?_
  refine wp_seq' fun K1 hK1 => ?_
  refine wp_reg ?_
  refine ol_r (r_assign rfl) rfl ?_
  refine ol_r (r_assign rfl) rfl ?_
  refine ol_nil (to_k0 (fun _ _ h => h) (hK1 _ _ _ _ _ ?_))
  clear hK1
  refine wp_seq' fun K2 hK2 => ?_
  refine wp_seq' fun K3 hK3 => ?_
  refine wp_reg ?_
  refine ol_r (r_move rfl) rfl ?_
  refine ol_call rfl rfl cb62 rfl (fun w1 hb1 hs1 hB1 => Calls.mono (ref_outside _ _ _ _) ?_)
  rintro e w2 ⟨rfl, hb2⟩
  refine After.below rfl hb1 hs1 hB1 hb2 ?_
  clear hb2 hB1 hs1 hb1 w2 w1
  refine ol_r (r_move rfl) rfl ?_
  refine ol_split (d := 10) rfl (fun hs10 => ?_) (fun hs10 => ?_)
  ·have phs10 := hs10; try simp only [decide_eq_true_eq, decide_eq_false_iff_not, Bool.not_eq_true', Bool.not_eq_false', Bool.not_true, Bool.not_false] at phs10
   refine ol_s rfl rfl hs10 rfl ?_
   refine ol_s rfl rfl hs10 rfl ?_
   refine ol_r (r_pickT rfl hs10 rfl) rfl ?_
   refine ol_r (r_move rfl) rfl ?_
   refine ol_s rfl rfl rfl rfl ?_
   refine ol_s rfl rfl rfl rfl ?_
   refine ol_r (r_pickT rfl rfl rfl) rfl ?_
   refine ol_nil (to_k0 (fun _ _ h => h) (hK3 _ _ _ _ _ ?_))
   clear hK3
   refine wp_condT rfl ?_
   refine wp_seq' fun K4 hK4 => ?_
   refine wp_reg ?_
   refine ol_r (r_assign rfl) rfl ?_
   refine ol_r (r_assign rfl) rfl ?_
   refine ol_nil (to_k0 (fun _ _ h => h) (hK4 _ _ _ _ _ ?_))
   clear hK4
   refine hQ.ret (rvs2 (rv_t rfl) (rv_t rfl)) (fun _ _ h => h) fun w hb hs hB hkd => ?_
   exfalso; simp_all
  ·have phs10 := hs10; try simp only [decide_eq_true_eq, decide_eq_false_iff_not, Bool.not_eq_true', Bool.not_eq_false', Bool.not_true, Bool.not_false] at phs10
   refine ol_g rfl rfl hs10 ?_
   refine ol_r (r_move rfl) rfl ?_
   refine ol_g rfl rfl hs10 ?_
   refine ol_call rfl rfl cb62 rfl (fun w1 hb1 hs1 hB1 => Calls.mono (ref_outside _ _ _ _) ?_)
   rintro e w2 ⟨rfl, hb2⟩
   refine After.below rfl hb1 hs1 hB1 hb2 ?_
   clear hb2 hB1 hs1 hb1 w2 w1
   refine ol_r (r_pickF rfl hs10 rfl) rfl ?_
   refine ol_r (r_move rfl) rfl ?_
   refine ol_split (d := 14) rfl (fun hs14 => ?_) (fun hs14 => ?_)
   ·have phs14 := hs14; try simp only [decide_eq_true_eq, decide_eq_false_iff_not, Bool.not_eq_true', Bool.not_eq_false', Bool.not_true, Bool.not_false] at phs14
    refine ol_s rfl rfl hs14 rfl ?_
    refine ol_s rfl rfl hs14 rfl ?_
    refine ol_r (r_pickT rfl hs14 rfl) rfl ?_
    refine ol_nil (to_k0 (fun _ _ h => h) (hK3 _ _ _ _ _ ?_))
    clear hK3
    refine wp_condT rfl ?_
    refine wp_seq' fun K5 hK5 => ?_
    refine wp_reg ?_
    refine ol_r (r_assign rfl) rfl ?_
    refine ol_r (r_assign rfl) rfl ?_
    refine ol_nil (to_k0 (fun _ _ h => h) (hK5 _ _ _ _ _ ?_))
    clear hK5
    refine hQ.ret (rvs2 (rv_t rfl) (rv_t rfl)) (fun _ _ h => h) fun w hb hs hB hkd => ?_
    exfalso; simp_all
   ·have phs14 := hs14; try simp only [decide_eq_true_eq, decide_eq_false_iff_not, Bool.not_eq_true', Bool.not_eq_false', Bool.not_true, Bool.not_false] at phs14
    refine ol_g rfl rfl hs14 ?_
    refine ol_r (r_move rfl) rfl ?_
    refine ol_g rfl rfl hs14 ?_
    refine ol_call rfl rfl cb62 rfl (fun w1 hb1 hs1 hB1 => Calls.mono (ref_outside _ _ _ _) ?_)
    rintro e w2 ⟨rfl, hb2⟩
    refine After.below rfl hb1 hs1 hB1 hb2 ?_
    clear hb2 hB1 hs1 hb1 w2 w1
    refine ol_r (r_pickF rfl hs14 rfl) rfl ?_
    refine ol_nil (to_k0 (fun _ _ h => h) (hK3 _ _ _ _ _ ?_))
    clear hK3
    first | refine wp_condD rfl (fun hc17 => ?_) (fun hc17 => ?_) | refine wp_condN rfl (fun hc17 => ?_) (fun hc17 => ?_) | refine wp_condNB rfl (fun hc17 => ?_) (fun hc17 => ?_) | refine wp_cond' rfl (fun hc17 => ?_) (fun hc17 => ?_)
    ·refine wp_seq' fun K6 hK6 => ?_
     refine wp_reg ?_
     refine ol_r (r_assign rfl) rfl ?_
     refine ol_r (r_assign rfl) rfl ?_
     refine ol_nil (to_k0 (fun _ _ h => h) (hK6 _ _ _ _ _ ?_))
     clear hK6
     refine hQ.ret (rvs2 (rv_t rfl) (rv_t rfl)) (fun _ _ h => h) fun w hb hs hB hkd => ?_
     exfalso; simp_all
    ·refine wp_skip' (to_k0 (fun _ _ h => h) (hK2 _ _ _ _ _ ?_))
     clear hK2
     refine wp_seq' fun K7 hK7 => ?_
     refine wp_reg ?_
     refine ol_r (r_move rfl) rfl ?_
     refine ol_r (r_move rfl) rfl ?_
     refine ol_r (r_move rfl) rfl ?_
     refine ol_mkmap 21 rfl fun b21 => ?_
     refine ol_r (r_build rfl (fun _ => bd96_0_1_2_3 _ _ _ _ _)) rfl ?_
     refine ol_box 23 rfl rfl rfl fun b23 => ?_
     refine ol_r (r_assign rfl) rfl ?_
     refine ol_r (r_assign rfl) rfl ?_
     refine ol_nil (to_k0 (fun _ _ h => h) (hK7 _ _ _ _ _ ?_))
     clear hK7
     refine hQ.ret (rvs2 (rv_t rfl) (rv_t rfl)) (fun _ _ h => h) fun w hb hs hB hkd => ?_
     exact ⟨_, _, rfl, hb, hs.kle [(23, 1001), (21, 1002)] (kle_cons rfl (Ent.le_refl _) (kle_cons rfl (Ent.le_refl _) kle_nil)) (by decide)⟩
theorem ref_NewNo (first fit fat : Int) (w : World) (h : newB first fit fat = false) :
    Calls Try.prog 37 #[.int .i64 first, .int .i64 fit, .int .i64 fat] w fun e w' => e = .returned (.tuple #[.pointer none, .int .i64 9]) ∧ Below w.heap.size w w' := by
  unfold newB at h
  refine enterQ (N := 24) (C := fun _ => True) (H := []) (B := w.heap.size) (args := [_, _, _]) Try.func37 rfl rfl rfl (Nat.le_refl _) (Sat.nil _ _) fun Q hQ => ?_
  refine wp_seq' fun K1 hK1 => ?_
  refine wp_reg ?_
  refine ol_r (r_assign rfl) rfl ?_
  refine ol_r (r_assign rfl) rfl ?_
  refine ol_nil (to_k0 (fun _ _ h => h) (hK1 _ _ _ _ _ ?_))
  clear hK1
  refine wp_seq' fun K2 hK2 => ?_
  refine wp_seq' fun K3 hK3 => ?_
  refine wp_reg ?_
  refine ol_r (r_move rfl) rfl ?_
  refine ol_call rfl rfl cb62 rfl (fun w1 hb1 hs1 hB1 => Calls.mono (ref_outside _ _ _ _) ?_)
  rintro e w2 ⟨rfl, hb2⟩
  refine After.below rfl hb1 hs1 hB1 hb2 ?_
  clear hb2 hB1 hs1 hb1 w2 w1
  refine ol_r (r_move rfl) rfl ?_
  refine ol_split (d := 10) rfl (fun hs10 => ?_) (fun hs10 => ?_)
  ·have phs10 := hs10; try simp only [decide_eq_true_eq, decide_eq_false_iff_not, Bool.not_eq_true', Bool.not_eq_false', Bool.not_true, Bool.not_false] at phs10
   refine ol_s rfl rfl hs10 rfl ?_
   refine ol_s rfl rfl hs10 rfl ?_
   refine ol_r (r_pickT rfl hs10 rfl) rfl ?_
   refine ol_r (r_move rfl) rfl ?_
   refine ol_s rfl rfl rfl rfl ?_
   refine ol_s rfl rfl rfl rfl ?_
   refine ol_r (r_pickT rfl rfl rfl) rfl ?_
   refine ol_nil (to_k0 (fun _ _ h => h) (hK3 _ _ _ _ _ ?_))
   clear hK3
   refine wp_condT rfl ?_
   refine wp_seq' fun K4 hK4 => ?_
   refine wp_reg ?_
   refine ol_r (r_assign rfl) rfl ?_
   refine ol_r (r_assign rfl) rfl ?_
   refine ol_nil (to_k0 (fun _ _ h => h) (hK4 _ _ _ _ _ ?_))
   clear hK4
   refine hQ.ret (rvs2 (rv_t rfl) (rv_t rfl)) (fun _ _ h => h) fun w hb hs hB hkd => ?_
   exact ⟨rfl, hb⟩
  ·have phs10 := hs10; try simp only [decide_eq_true_eq, decide_eq_false_iff_not, Bool.not_eq_true', Bool.not_eq_false', Bool.not_true, Bool.not_false] at phs10
   refine ol_g rfl rfl hs10 ?_
   refine ol_r (r_move rfl) rfl ?_
   refine ol_g rfl rfl hs10 ?_
   refine ol_call rfl rfl cb62 rfl (fun w1 hb1 hs1 hB1 => Calls.mono (ref_outside _ _ _ _) ?_)
   rintro e w2 ⟨rfl, hb2⟩
   refine After.below rfl hb1 hs1 hB1 hb2 ?_
   clear hb2 hB1 hs1 hb1 w2 w1
   refine ol_r (r_pickF rfl hs10 rfl) rfl ?_
   refine ol_r (r_move rfl) rfl ?_
   refine ol_split (d := 14) rfl (fun hs14 => ?_) (fun hs14 => ?_)
   ·have phs14 := hs14; try simp only [decide_eq_true_eq, decide_eq_false_iff_not, Bool.not_eq_true', Bool.not_eq_false', Bool.not_true, Bool.not_false] at phs14
    refine ol_s rfl rfl hs14 rfl ?_
    refine ol_s rfl rfl hs14 rfl ?_
    refine ol_r (r_pickT rfl hs14 rfl) rfl ?_
    refine ol_nil (to_k0 (fun _ _ h => h) (hK3 _ _ _ _ _ ?_))
    clear hK3
    refine wp_condT rfl ?_
    refine wp_seq' fun K5 hK5 => ?_
    refine wp_reg ?_
    refine ol_r (r_assign rfl) rfl ?_
    refine ol_r (r_assign rfl) rfl ?_
    refine ol_nil (to_k0 (fun _ _ h => h) (hK5 _ _ _ _ _ ?_))
    clear hK5
    refine hQ.ret (rvs2 (rv_t rfl) (rv_t rfl)) (fun _ _ h => h) fun w hb hs hB hkd => ?_
    exact ⟨rfl, hb⟩
   ·have phs14 := hs14; try simp only [decide_eq_true_eq, decide_eq_false_iff_not, Bool.not_eq_true', Bool.not_eq_false', Bool.not_true, Bool.not_false] at phs14
    refine ol_g rfl rfl hs14 ?_
    refine ol_r (r_move rfl) rfl ?_
    refine ol_g rfl rfl hs14 ?_
    refine ol_call rfl rfl cb62 rfl (fun w1 hb1 hs1 hB1 => Calls.mono (ref_outside _ _ _ _) ?_)
    rintro e w2 ⟨rfl, hb2⟩
    refine After.below rfl hb1 hs1 hB1 hb2 ?_
    clear hb2 hB1 hs1 hb1 w2 w1
    refine ol_r (r_pickF rfl hs14 rfl) rfl ?_
    refine ol_nil (to_k0 (fun _ _ h => h) (hK3 _ _ _ _ _ ?_))
    clear hK3
    first | refine wp_condD rfl (fun hc17 => ?_) (fun hc17 => ?_) | refine wp_condN rfl (fun hc17 => ?_) (fun hc17 => ?_) | refine wp_condNB rfl (fun hc17 => ?_) (fun hc17 => ?_) | refine wp_cond' rfl (fun hc17 => ?_) (fun hc17 => ?_)
    ·refine wp_seq' fun K6 hK6 => ?_
     refine wp_reg ?_
     refine ol_r (r_assign rfl) rfl ?_
     refine ol_r (r_assign rfl) rfl ?_
     refine ol_nil (to_k0 (fun _ _ h => h) (hK6 _ _ _ _ _ ?_))
     clear hK6
     refine hQ.ret (rvs2 (rv_t rfl) (rv_t rfl)) (fun _ _ h => h) fun w hb hs hB hkd => ?_
     exact ⟨rfl, hb⟩
    ·refine wp_skip' (to_k0 (fun _ _ h => h) (hK2 _ _ _ _ _ ?_))
     clear hK2
     refine wp_seq' fun K7 hK7 => ?_
     refine wp_reg ?_
     refine ol_r (r_move rfl) rfl ?_
     refine ol_r (r_move rfl) rfl ?_
     refine ol_r (r_move rfl) rfl ?_
     refine ol_mkmap 21 rfl fun b21 => ?_
     refine ol_r (r_build rfl (fun _ => bd96_0_1_2_3 _ _ _ _ _)) rfl ?_
     refine ol_box 23 rfl rfl rfl fun b23 => ?_
     refine ol_r (r_assign rfl) rfl ?_
     refine ol_r (r_assign rfl) rfl ?_
     refine ol_nil (to_k0 (fun _ _ h => h) (hK7 _ _ _ _ _ ?_))
     clear hK7
     refine hQ.ret (rvs2 (rv_t rfl) (rv_t rfl)) (fun _ _ h => h) fun w hb hs hB hkd => ?_
     exfalso; simp_all
theorem ref_Between (b m : Nat) (first fit fat from_ to : Int) (D : List (Int × Int)) (w : World) (hk : Blk w.heap.size w b [(0, .int .i64 first), (1, .int .i64 fit), (2, .int .i64 fat), (3, .map (some m))]) (hm : Mp w.heap.size w m (mEnc (Value.int .i64) (Value.int .i64) D)) (hok : BkOk (mG (0 : Int) D) first fit fat) :
    Calls Try.prog 45 #[.pointer (some ⟨b, 0, none⟩), .int .i64 from_, .int .i64 to] w fun e w' => OutS w.heap.size w' (betR (mG (0 : Int) D) first fit fat from_ to) e ∧ Below w.heap.size w w' := by
  have hf := hok.first
  refine enterQ (N := 90) (C := fun _ => True) (H := []) (B := w.heap.size) (args := [_, _, _]) Try.func45 rfl rfl rfl (Nat.le_refl _) (Sat.nil _ _) fun Q hQ => ?_
  refine wp_seq' fun K1 hK1 => ?_
  refine wp_reg ?_
  refine ol_r (r_assign rfl) rfl ?_
  refine ol_r (r_assign rfl) rfl ?_
  refine ol_nil (to_k0 (fun _ _ h => h) (hK1 _ _ _ _ _ ?_))
  clear hK1
  refine wp_seq' fun K2 hK2 => ?_
  refine wp_seq' fun K3 hK3 => ?_
  refine wp_reg ?_
  refine ol_r (r_move rfl) rfl ?_
  refine ol_r (r_move rfl) rfl ?_
  refine ol_bsN 18 rfl rw22 rfl rfl (fun _ => by kernel_rfl) rfl fun a18 => ?_
  refine ol_r (r_len rfl sl22) rfl ?_
  refine ol_r (r_move rfl) rfl ?_
  refine ol_nil (to_k0 (fun _ _ h => h) (hK3 _ _ _ _ _ ?_))
  clear hK3
  refine wp_block' ?_
  refine wp_unroll 3 ?_
  refine kp_unroll fun K4 hK4 => ?_
  refine wp_seq' fun K5 hK5 => ?_
  refine wp_reg ?_
  refine ol_r (r_lss rfl rfl) rfl ?_
  refine ol_nil (to_k0 (fun _ _ h => h) (hK5 _ _ _ _ _ ?_))
  clear hK5
  refine wp_seq' fun K6 hK6 => ?_
  first | refine wp_condD rfl (fun hc21 => ?_) (fun hc21 => ?_) | refine wp_condN rfl (fun hc21 => ?_) (fun hc21 => ?_) | refine wp_condNB rfl (fun hc21 => ?_) (fun hc21 => ?_) | refine wp_cond' rfl (fun hc21 => ?_) (fun hc21 => ?_)
  ·refine wp_skip' (to_k0 (fun _ _ h => h) (hK6 _ _ _ _ _ ?_))
   clear hK6
   refine wp_seq' fun K7 hK7 => ?_
   refine wp_block' ?_
   refine wp_seq' fun K8 hK8 => ?_
   refine wp_reg ?_
   refine ol_ixo (id := 18) encI [from_, to] rfl rfl rfl rfl sl22 (by omega) rfl fun x22 hx22 => ?_
   try simp only [Int.toNat_natCast] at hx22
   try simp only [Int.toNat_natCast] at hx22
   refine ol_r (r_ldw rfl (fun w1 hb1 hs1 hB1 => show Loads _ _ _ _ (.int .i64 x22) from ld_own (id := 18) hs1 rfl rfl ty3 hx22)) rfl ?_
   refine ol_r (r_assign rfl) rfl ?_
   refine ol_nil (to_k0 (fun _ _ h => h) (hK8 _ _ _ _ _ ?_))
   clear hK8
   refine wp_seq' fun K9 hK9 => ?_
   refine wp_reg ?_
   have e22 : x22 = from_ := (Option.some.inj hx22).symm
   refine ol_r (r_move rfl) rfl ?_
   refine ol_r (r_move rfl) rfl ?_
   refine ol_call rfl rfl cb80 rfl (fun w1 hb1 hs1 hB1 => Calls.mono (ref_dayFault b m first fit fat x22 _ (hk.at hb1 hB1) hf) ?_)
   rintro e w2 ⟨rfl, hb2⟩
   refine After.below rfl hb1 hs1 hB1 hb2 ?_
   clear hb2 hB1 hs1 hb1 w2 w1
   refine ol_r (r_assign rfl) rfl ?_
   refine ol_nil (to_k0 (fun _ _ h => h) (hK9 _ _ _ _ _ ?_))
   clear hK9
   refine wp_seq' fun K10 hK10 => ?_
   refine wp_reg ?_
   refine ol_r (r_move rfl) rfl ?_
   refine ol_r (r_neq rfl rfl) rfl ?_
   refine ol_nil (to_k0 (fun _ _ h => h) (hK10 _ _ _ _ _ ?_))
   clear hK10
   first | refine wp_condD rfl (fun hc28 => ?_) (fun hc28 => ?_) | refine wp_condN rfl (fun hc28 => ?_) (fun hc28 => ?_) | refine wp_condNB rfl (fun hc28 => ?_) (fun hc28 => ?_) | refine wp_cond' rfl (fun hc28 => ?_) (fun hc28 => ?_)
   ·refine wp_seq' fun K11 hK11 => ?_
    refine wp_reg ?_
    refine ol_r (r_move rfl) rfl ?_
    refine ol_r (r_assign rfl) rfl ?_
    refine ol_r (r_assign rfl) rfl ?_
    refine ol_nil (to_k0 (fun _ _ h => h) (hK11 _ _ _ _ _ ?_))
    clear hK11
    refine hQ.ret (rvs2 (rv_t rfl) (rv_t rfl)) (fun _ _ h => h) fun w hb hs hB hkd => ?_
    have hh := faultB_ne hc28
    refine ⟨?_, hb⟩
    rw [hh.1]
    exact outS_no (betR_9 (fun hd => hh.2 (by rw [e22]; exact hd.1)))
   ·refine wp_skip' (to_k0 (fun _ _ h => h) (hK7 _ _ _ _ _ ?_))
    clear hK7
    refine wp_reg ?_
    have hd1 : dayB first from_ = true := by rw [← e22]; exact faultB_eq hc28
    refine ol_r (r_add rfl rfl (by omega)) rfl ?_
    refine ol_r (r_move rfl) rfl ?_
    refine ol_nil (to_k0 (fun _ _ h => h) (hK4 _ _ ?_))
    clear hK4
    refine kp_unroll fun K12 hK12 => ?_
    refine wp_seq' fun K13 hK13 => ?_
    refine wp_reg ?_
    refine ol_r (r_lss rfl rfl) rfl ?_
    refine ol_nil (to_k0 (fun _ _ h => h) (hK13 _ _ _ _ _ ?_))
    clear hK13
    refine wp_seq' fun K14 hK14 => ?_
    first | refine wp_condD rfl (fun hc21 => ?_) (fun hc21 => ?_) | refine wp_condN rfl (fun hc21 => ?_) (fun hc21 => ?_) | refine wp_condNB rfl (fun hc21 => ?_) (fun hc21 => ?_) | refine wp_cond' rfl (fun hc21 => ?_) (fun hc21 => ?_)
    ·refine wp_skip' (to_k0 (fun _ _ h => h) (hK14 _ _ _ _ _ ?_))
     clear hK14
     refine wp_seq' fun K15 hK15 => ?_
     refine wp_block' ?_
     refine wp_seq' fun K16 hK16 => ?_
     refine wp_reg ?_
     refine ol_ixo (id := 18) encI [from_, to] rfl rfl rfl rfl sl22 (by omega) rfl fun x22 hx22 => ?_
     try simp only [Int.toNat_natCast] at hx22
     try simp only [Int.toNat_natCast] at hx22
     refine ol_r (r_ldw rfl (fun w1 hb1 hs1 hB1 => show Loads _ _ _ _ (.int .i64 x22) from ld_own (id := 18) hs1 rfl rfl ty3 hx22)) rfl ?_
     refine ol_r (r_assign rfl) rfl ?_
     refine ol_nil (to_k0 (fun _ _ h => h) (hK16 _ _ _ _ _ ?_))
     clear hK16
     refine wp_seq' fun K17 hK17 => ?_
     refine wp_reg ?_
     have e22 : x22 = to := (Option.some.inj hx22).symm
     refine ol_r (r_move rfl) rfl ?_
     refine ol_r (r_move rfl) rfl ?_
     refine ol_call rfl rfl cb80 rfl (fun w1 hb1 hs1 hB1 => Calls.mono (ref_dayFault b m first fit fat x22 _ (hk.at hb1 hB1) hf) ?_)
     rintro e w2 ⟨rfl, hb2⟩
     refine After.below rfl hb1 hs1 hB1 hb2 ?_
     clear hb2 hB1 hs1 hb1 w2 w1
     refine ol_r (r_assign rfl) rfl ?_
     refine ol_nil (to_k0 (fun _ _ h => h) (hK17 _ _ _ _ _ ?_))
     clear hK17
     refine wp_seq' fun K18 hK18 => ?_
     refine wp_reg ?_
     refine ol_r (r_move rfl) rfl ?_
     refine ol_r (r_neq rfl rfl) rfl ?_
     refine ol_nil (to_k0 (fun _ _ h => h) (hK18 _ _ _ _ _ ?_))
     clear hK18
     first | refine wp_condD rfl (fun hc28 => ?_) (fun hc28 => ?_) | refine wp_condN rfl (fun hc28 => ?_) (fun hc28 => ?_) | refine wp_condNB rfl (fun hc28 => ?_) (fun hc28 => ?_) | refine wp_cond' rfl (fun hc28 => ?_) (fun hc28 => ?_)
     ·refine wp_seq' fun K19 hK19 => ?_
      refine wp_reg ?_
      refine ol_r (r_move rfl) rfl ?_
      refine ol_r (r_assign rfl) rfl ?_
      refine ol_r (r_assign rfl) rfl ?_
      refine ol_nil (to_k0 (fun _ _ h => h) (hK19 _ _ _ _ _ ?_))
      clear hK19
      refine hQ.ret (rvs2 (rv_t rfl) (rv_t rfl)) (fun _ _ h => h) fun w hb hs hB hkd => ?_
      have hh := faultB_ne hc28
      refine ⟨?_, hb⟩
      rw [hh.1]
      exact outS_no (betR_9 (fun hd => hh.2 (by rw [e22]; exact hd.2)))
     ·refine wp_skip' (to_k0 (fun _ _ h => h) (hK15 _ _ _ _ _ ?_))
      clear hK15
      refine wp_reg ?_
      have hd2 : dayB first to = true := by rw [← e22]; exact faultB_eq hc28
      refine ol_r (r_add rfl rfl (by omega)) rfl ?_
      refine ol_r (r_move rfl) rfl ?_
      refine ol_nil (to_k0 (fun _ _ h => h) (hK12 _ _ ?_))
      clear hK12
      refine kp_unroll fun K20 hK20 => ?_
      refine wp_seq' fun K21 hK21 => ?_
      refine wp_reg ?_
      refine ol_r (r_lss rfl rfl) rfl ?_
      refine ol_nil (to_k0 (fun _ _ h => h) (hK21 _ _ _ _ _ ?_))
      clear hK21
      refine wp_seq' fun K22 hK22 => ?_
      first | refine wp_condD rfl (fun hc21 => ?_) (fun hc21 => ?_) | refine wp_condN rfl (fun hc21 => ?_) (fun hc21 => ?_) | refine wp_condNB rfl (fun hc21 => ?_) (fun hc21 => ?_) | refine wp_cond' rfl (fun hc21 => ?_) (fun hc21 => ?_)
      ·exfalso
       omega
      ·refine wp_exit' (to_k0 (fun _ _ h => h) (hK2 _ _ _ _ _ ?_))
       clear hK2
       refine wp_seq' fun K23 hK23 => ?_
       refine wp_seq' fun K24 hK24 => ?_
       refine wp_reg ?_
       refine ol_r (r_move rfl) rfl ?_
       refine ol_r (r_move rfl) rfl ?_
       refine ol_r (r_lss rfl rfl) rfl ?_
       refine ol_nil (to_k0 (fun _ _ h => h) (hK24 _ _ _ _ _ ?_))
       clear hK24
       first | refine wp_condD rfl (fun hc33 => ?_) (fun hc33 => ?_) | refine wp_condN rfl (fun hc33 => ?_) (fun hc33 => ?_) | refine wp_condNB rfl (fun hc33 => ?_) (fun hc33 => ?_) | refine wp_cond' rfl (fun hc33 => ?_) (fun hc33 => ?_)
       ·refine wp_seq' fun K25 hK25 => ?_
        refine wp_reg ?_
        refine ol_r (r_assign rfl) rfl ?_
        refine ol_r (r_assign rfl) rfl ?_
        refine ol_nil (to_k0 (fun _ _ h => h) (hK25 _ _ _ _ _ ?_))
        clear hK25
        refine hQ.ret (rvs2 (rv_t rfl) (rv_t rfl)) (fun _ _ h => h) fun w hb hs hB hkd => ?_
        exact ⟨outS_no (betR_10 ⟨hd1, hd2⟩ (by omega)), hb⟩
       ·refine wp_skip' (to_k0 (fun _ _ h => h) (hK23 _ _ _ _ _ ?_))
        clear hK23
        refine wp_seq' fun K26 hK26 => ?_
        refine wp_regq (by kernel_rfl) (by kernel_rfl) ?_
        have hb1 := dayB_iff.1 hd1
        have hb2 := dayB_iff.1 hd2
        refine ql_r (r_move rfl) rfl ?_
        refine ql_r (r_nilS rfl (rfl)) rfl ?_
        refine ql_r (r_fa (o' := 1) rfl fl96_1 rfl) rfl ?_
        refine ql_r (r_ldw rfl (fun w1 hb1 hs1 hB1 => Blk.loads (o := 1) hk hb1 sc3 rfl)) rfl ?_
        refine ql_r (r_move rfl) rfl ?_
        refine ql_r (r_nilS rfl (rfl)) rfl ?_
        refine ql_r (r_fa (o' := 2) rfl fl96_2 rfl) rfl ?_
        refine ql_r (r_ldw rfl (fun w1 hb1 hs1 hB1 => Blk.loads (o := 2) hk hb1 sc3 rfl)) rfl ?_
        refine ql_r (r_assign rfl) rfl ?_
        refine ql_r (r_assign rfl) rfl ?_
        refine ql_nil (to_k0 (fun _ _ h => h) (hK26 _ _ _ _ _ ?_))
        clear hK26
        refine wp_seq' fun K27 hK27 => ?_
        refine wp_reg ?_
        refine ol_nilrow 13 61 5 ?_
        refine ol_r (r_assign rfl) rfl ?_
        refine ol_nil (to_k0 (fun _ _ h => h) (hK27 _ _ _ _ _ ?_))
        clear hK27
        refine wp_seq' fun K28 hK28 => ?_
        refine wp_seq' fun K29 hK29 => ?_
        refine wp_reg ?_
        refine ol_r (r_move rfl) rfl ?_
        refine ol_r (r_nilS rfl (rfl)) rfl ?_
        refine ol_r (r_fa (o' := 0) rfl fl96_0 rfl) rfl ?_
        refine ol_r (r_ldw rfl (fun w1 hb1 hs1 hB1 => Blk.loads (o := 0) hk hb1 sc3 rfl)) rfl ?_
        refine ol_r (r_assign rfl) rfl ?_
        refine ol_nil (to_k0 (fun _ _ h => h) (hK29 _ _ _ _ _ ?_))
        clear hK29
        refine wp_block' ?_
        apply wp_loopM (σ := Nat × Option Addr × Nat × Nat) (fun s => s.1 ≤ (to - first + 1).toNat ∧ s.2.2.2 = (betL (mG (0 : Int) D) first fit fat from_ s.1).length) (fun s => [(14, .int .i64 (first + (s.1 : Int))), (11, .int .i64 (fitN (mG (0 : Int) D) first 42 fit s.1)), (12, .int .i64 (fitN (mG (0 : Int) D) first 7 fat s.1)), (13, .slice s.2.1 s.2.2.2 s.2.2.1)]) [(0, _), (1, _), (2, _), (6, _), (7, _)] (fun s => [(13, .row s.2.1 s.2.2.2 s.2.2.1 (encState.enc (betL (mG (0 : Int) D) first fit fat from_ s.1)) 61 5)]) [(18, _)] (fun s => (to - first + 1).toNat - s.1) ((0, none, 0, 0))
        ·try dsimp only
         exact ⟨Nat.zero_le _, rfl⟩
        ·exact (sub_cons (by first | rfl | ((refine congrArg (fun z => some (Value.int .i64 z)) ?_; show first = first + ((0 : Nat) : Int); omega))) (sub_cons (by first | rfl | ((refine congrArg (fun z => some (Value.int .i64 z)) ?_; show first = first + ((0 : Nat) : Int); omega))) (sub_cons (by first | rfl | ((refine congrArg (fun z => some (Value.int .i64 z)) ?_; show first = first + ((0 : Nat) : Int); omega))) (sub_cons (by first | rfl | ((refine congrArg (fun z => some (Value.int .i64 z)) ?_; show first = first + ((0 : Nat) : Int); omega))) sub_nil))))
        ·exact (sub_cons rfl (sub_cons rfl (sub_cons rfl (sub_cons rfl (sub_cons rfl sub_nil)))))
        ·exact (subH_row rfl (by first | (dsimp only; rfl; done) | (rfl; done) | (dsimp only; done)) subH_nil)
        ·exact (subH_same rfl subH_nil)
        ·rintro ⟨k, na, nc, nn⟩ ⟨hk2, hnn⟩
         dsimp only at hk2 hnn ⊢
         have f1 := fitN_bd (first := first) (c := 42) hok.load (by omega) hok.fit k
         have f2 := fitN_bd (first := first) (c := 7) hok.load (by omega) hok.fat k
         have f3 := betL_len (mG (0 : Int) D) first fit fat from_ k
         have f4 := hok.load (first + k)
         intro K30 hK30
         refine wp_seq' fun K31 hK31 => ?_
         refine wp_seq' fun K32 hK32 => ?_
         refine wp_reg ?_
         refine ol_r (r_move rfl) rfl ?_
         refine ol_r (r_move rfl) rfl ?_
         refine ol_r (r_leq rfl rfl) rfl ?_
         refine ol_nil (to_k0 (fun _ _ h => h) (hK32 _ _ _ _ _ ?_))
         clear hK32
         first | refine wp_condD rfl (fun hc48 => ?_) (fun hc48 => ?_) | refine wp_condN rfl (fun hc48 => ?_) (fun hc48 => ?_) | refine wp_condNB rfl (fun hc48 => ?_) (fun hc48 => ?_) | refine wp_cond' rfl (fun hc48 => ?_) (fun hc48 => ?_)
         ·refine wp_skip' (to_k0 (fun _ _ h => h) (hK31 _ _ _ _ _ ?_))
          clear hK31
          refine wp_seq' fun K33 hK33 => ?_
          refine wp_block' ?_
          refine wp_seq' fun K34 hK34 => ?_
          refine wp_reg ?_
          refine ol_r (r_move rfl) rfl ?_
          refine ol_r (r_move rfl) rfl ?_
          refine ol_r (r_nilS rfl (rfl)) rfl ?_
          refine ol_r (r_fa (o' := 3) rfl fl96_3 rfl) rfl ?_
          refine ol_r (r_ldw rfl (fun w1 hb1 hs1 hB1 => Blk.loads (o := 3) hk hb1 sc92 rfl)) rfl ?_
          refine ol_r (r_move rfl) rfl ?_
          refine ol_r (r_lookupR (K := Value.int .i64) (V := Value.int .i64) (z := (0 : Int)) hm rfl rfl mt92) rfl ?_
          refine ol_r (r_move rfl) rfl ?_
          refine ol_r (r_move rfl) rfl ?_
          refine ol_r (r_sub rfl rfl (by omega)) rfl ?_
          refine ol_r (r_build rfl (fun _ => bd61_0_1_4 _ _ _ _)) rfl ?_
          refine ol_alloc 15 z61 rfl fun b15 => ?_
          refine ol_store (id := 15) rfl rfl rfl rfl sz61 rfl rfl (by first | decide | exact Nat.zero_lt_succ _ | simp) ?_
          refine ol_nil (to_k0 (fun _ _ h => h) (hK34 _ _ _ _ _ ?_))
          clear hK34
          refine wp_seq' fun K35 hK35 => ?_
          refine wp_regq (by kernel_rfl) (by kernel_rfl) ?_
          refine ql_r (r_move rfl) rfl ?_
          refine ql_r (r_move rfl) rfl ?_
          refine ql_r (r_nilS rfl (rfl)) rfl ?_
          refine ql_r (r_fa (o' := 3) rfl fl96_3 rfl) rfl ?_
          refine ql_r (r_ldw rfl (fun w1 hb1 hs1 hB1 => Blk.loads (o := 3) hk hb1 sc92 rfl)) rfl ?_
          refine ql_r (r_move rfl) rfl ?_
          refine ql_r (r_lookupR (K := Value.int .i64) (V := Value.int .i64) (z := (0 : Int)) hm rfl rfl mt92) rfl ?_
          refine ql_call rfl rfl cb63 rfl (fun w1 hb1 hs1 hB1 => ref_step _ _ _ f1 f4 (by omega) _) ?_
          refine ql_r (r_move rfl) rfl ?_
          refine ql_r (r_move rfl) rfl ?_
          refine ql_r (r_nilS rfl (rfl)) rfl ?_
          refine ql_r (r_fa (o' := 3) rfl fl96_3 rfl) rfl ?_
          refine ql_r (r_ldw rfl (fun w1 hb1 hs1 hB1 => Blk.loads (o := 3) hk hb1 sc92 rfl)) rfl ?_
          refine ql_r (r_move rfl) rfl ?_
          refine ql_r (r_lookupR (K := Value.int .i64) (V := Value.int .i64) (z := (0 : Int)) hm rfl rfl mt92) rfl ?_
          refine ql_call rfl rfl cb63 rfl (fun w1 hb1 hs1 hB1 => ref_step _ _ _ f2 f4 (by omega) _) ?_
          refine ql_r (r_assign rfl) rfl ?_
          refine ql_r (r_assign rfl) rfl ?_
          refine ql_nil (to_k0 (fun _ _ h => h) (hK35 _ _ _ _ _ ?_))
          clear hK35
          refine wp_seq' fun K36 hK36 => ?_
          refine wp_reg ?_
          refine ol_r (r_move rfl) rfl ?_
          refine ol_r (r_move rfl) rfl ?_
          refine ol_r (r_fa (o' := 2) rfl fl61_2 rfl) rfl ?_
          refine ol_store (id := 15) rfl rfl rfl rfl sz3 rfl rfl (by first | decide | exact Nat.zero_lt_succ _ | simp) ?_
          refine ol_r (r_fa (o' := 3) rfl fl61_3 rfl) rfl ?_
          refine ol_store (id := 15) rfl rfl rfl rfl sz3 rfl rfl (by first | decide | exact Nat.zero_lt_succ _ | simp) ?_
          refine ol_nil (to_k0 (fun _ _ h => h) (hK36 _ _ _ _ _ ?_))
          clear hK36
          refine wp_seq' fun K37 hK37 => ?_
          refine wp_reg ?_
          refine ol_r (r_move rfl) rfl ?_
          refine ol_r (r_move rfl) rfl ?_
          refine ol_r (r_geq rfl rfl) rfl ?_
          refine ol_nil (to_k0 (fun _ _ h => h) (hK37 _ _ _ _ _ ?_))
          clear hK37
          first | refine wp_condD rfl (fun hc84 => ?_) (fun hc84 => ?_) | refine wp_condN rfl (fun hc84 => ?_) (fun hc84 => ?_) | refine wp_condNB rfl (fun hc84 => ?_) (fun hc84 => ?_) | refine wp_cond' rfl (fun hc84 => ?_) (fun hc84 => ?_)
          ·refine wp_reg ?_
           refine ol_r (r_move rfl) rfl ?_
           refine ol_r (r_lda (id := 15) (n := 5) rfl rfl rfl ag61) rfl ?_
           refine ol_bs1 87 rfl rfl rw64 rfl rfl rfl fun a87 => ?_
           refine ol_append1 (id := 13) (id2 := 87) rfl rfl rfl rfl rfl rw64 (by omega) rfl fun a88 c88 => ?_
           refine ol_r (r_assign rfl) rfl ?_
           refine ol_nil (to_k0 (fun _ _ h => h) (hK33 _ _ _ _ _ ?_))
           clear hK33
           refine wp_reg ?_
           refine ol_r (r_move rfl) rfl ?_
           refine ol_r (r_add rfl rfl (by omega)) rfl ?_
           refine ol_r (r_assign rfl) rfl ?_
           refine ol_nil (to_k0 (fun _ _ h => h) (hK30 ((k + 1, _, _, _)) _ _ ?_ ?_ (sub_cons (by first | rfl | ((refine congrArg (fun z => some (Value.int .i64 z)) ?_; show first + (k : Int) + 1 = first + ((k + 1 : Nat) : Int); omega))) (sub_cons (by first | rfl | ((refine congrArg (fun z => some (Value.int .i64 z)) ?_; show first + (k : Int) + 1 = first + ((k + 1 : Nat) : Int); omega))) (sub_cons (by first | rfl | ((refine congrArg (fun z => some (Value.int .i64 z)) ?_; show first + (k : Int) + 1 = first + ((k + 1 : Nat) : Int); omega))) (sub_cons (by first | rfl | ((refine congrArg (fun z => some (Value.int .i64 z)) ?_; show first + (k : Int) + 1 = first + ((k + 1 : Nat) : Int); omega))) sub_nil)))) (sub_cons rfl (sub_cons rfl (sub_cons rfl (sub_cons rfl (sub_cons rfl sub_nil))))) (by exact (subH_row rfl (by first | (dsimp only; first | (rw [bet_row (by omega)]; rfl) | rfl; done) | (first | (rw [bet_row (by omega)]; rfl) | rfl; done) | (dsimp only; done)) subH_nil)) (subH_same rfl subH_nil)))
           ·try dsimp only
            exact ⟨by omega, by rw [betL_put (by omega), List.length_append, ← hnn]; rfl⟩
           ·try dsimp only
            omega
          ·refine wp_skip' (to_k0 (fun _ _ h => h) (hK33 _ _ _ _ _ ?_))
           clear hK33
           refine wp_reg ?_
           refine ol_r (r_move rfl) rfl ?_
           refine ol_r (r_add rfl rfl (by omega)) rfl ?_
           refine ol_r (r_assign rfl) rfl ?_
           refine ol_nil (to_k0 (fun _ _ h => h) (hK30 ((k + 1, _, _, _)) _ _ ?_ ?_ (sub_cons (by first | rfl | ((refine congrArg (fun z => some (Value.int .i64 z)) ?_; show first + (k : Int) + 1 = first + ((k + 1 : Nat) : Int); omega))) (sub_cons (by first | rfl | ((refine congrArg (fun z => some (Value.int .i64 z)) ?_; show first + (k : Int) + 1 = first + ((k + 1 : Nat) : Int); omega))) (sub_cons (by first | rfl | ((refine congrArg (fun z => some (Value.int .i64 z)) ?_; show first + (k : Int) + 1 = first + ((k + 1 : Nat) : Int); omega))) (sub_cons (by first | rfl | ((refine congrArg (fun z => some (Value.int .i64 z)) ?_; show first + (k : Int) + 1 = first + ((k + 1 : Nat) : Int); omega))) sub_nil)))) (sub_cons rfl (sub_cons rfl (sub_cons rfl (sub_cons rfl (sub_cons rfl sub_nil))))) (by exact (subH_row rfl (by first | (dsimp only; rw [betL_no (by omega)]; done) | (rw [betL_no (by omega)]; done) | (dsimp only; done)) subH_nil)) (subH_same rfl subH_nil)))
           ·try dsimp only
            exact ⟨by omega, by rw [betL_no (by omega)]; exact hnn⟩
           ·try dsimp only
            omega
         ·refine wp_exit' (to_k0 (fun _ _ h => h) (hK28 _ _ _ _ _ ?_))
          clear hK28
          refine wp_seq' fun K38 hK38 => ?_
          refine wp_reg ?_
          refine ol_r (r_move rfl) rfl ?_
          refine ol_r (r_assign rfl) rfl ?_
          refine ol_r (r_assign rfl) rfl ?_
          refine ol_nil (to_k0 (fun _ _ h => h) (hK38 _ _ _ _ _ ?_))
          clear hK38
          refine hQ.ret (rvs2 (rv_t rfl) (rv_t rfl)) (fun _ _ h => h) fun w hb hs hB hkd => ?_
          refine ⟨?_, hb⟩
          subst hnn
          rw [betR_0 ⟨hd1, hd2⟩ (by omega), show (to - first + 1).toNat = k by omega]
          exact ⟨_, _, rfl, hs.kle [(13, 1001)] (kle_cons rfl (Ent.le_refl _) kle_nil) (by decide)⟩
    ·exfalso
     omega
  ·exfalso
   omega
theorem ref_On (b m : Nat) (first fit fat d : Int) (D : List (Int × Int)) (w : World) (hk : Blk w.heap.size w b [(0, .int .i64 first), (1, .int .i64 fit), (2, .int .i64 fat), (3, .map (some m))]) (hm : Mp w.heap.size w m (mEnc (Value.int .i64) (Value.int .i64) D)) (hok : BkOk (mG (0 : Int) D) first fit fat) :
    Calls Try.prog 43 #[.pointer (some ⟨b, 0, none⟩), .int .i64 d] w fun e w' => e = .returned (.tuple #[encState.val (onR (mG (0 : Int) D) first fit fat d).1, .int .i64 (onR (mG (0 : Int) D) first fit fat d).2]) ∧ Below w.heap.size w w' := by
  refine enterQ (N := 22) (C := fun _ => True) (H := []) (B := w.heap.size) (args := [_, _]) Try.func43 rfl rfl rfl (Nat.le_refl _) (Sat.nil _ _) fun Q hQ => ?_
  refine wp_seq' fun K1 hK1 => ?_
  refine wp_reg ?_
  refine ol_alloc 4 z61 rfl fun b4 => ?_
  refine ol_r (r_assign rfl) rfl ?_
  refine ol_nil (to_k0 (fun _ _ h => h) (hK1 _ _ _ _ _ ?_))
  clear hK1
  refine wp_seq' fun K2 hK2 => ?_
  refine wp_reg ?_
  refine ol_r (r_move rfl) rfl ?_
  refine ol_r (r_move rfl) rfl ?_
  refine ol_r (r_move rfl) rfl ?_
  refine ol_call rfl rfl cb45 rfl (fun w1 hb1 hs1 hB1 => ?_)
  refine Calls.mono (ref_Between b m first fit fat d d D _ (hk.at hb1 hB1) (hm.at hb1 hB1) hok) ?_
  rintro e w2 ⟨⟨a, c, rfl, hs2⟩, hb2⟩
  refine After.more rfl hb1 hs1 hB1 hb2 hs2 ?_
  clear hs2 hb2 hB1 hs1 hb1 w2 w1
  refine ol_r (r_move rfl) rfl ?_
  refine ol_r (r_extract rfl rfl) rfl ?_
  refine ol_r (r_extract rfl rfl) rfl ?_
  refine ol_r (r_assign rfl) rfl ?_
  refine ol_r (r_assign rfl) rfl ?_
  refine ol_nil (to_k0 (fun _ _ h => h) (hK2 _ _ _ _ _ ?_))
  clear hK2
  refine wp_seq' fun K3 hK3 => ?_
  refine wp_seq' fun K4 hK4 => ?_
  refine wp_reg ?_
  refine ol_r (r_move rfl) rfl ?_
  refine ol_r (r_neq rfl rfl) rfl ?_
  refine ol_nil (to_k0 (fun _ _ h => h) (hK4 _ _ _ _ _ ?_))
  clear hK4
  first | refine wp_condD rfl (fun hc16 => ?_) (fun hc16 => ?_) | refine wp_condN rfl (fun hc16 => ?_) (fun hc16 => ?_) | refine wp_condNB rfl (fun hc16 => ?_) (fun hc16 => ?_) | refine wp_cond' rfl (fun hc16 => ?_) (fun hc16 => ?_)
  ·refine wp_seq' fun K5 hK5 => ?_
   refine wp_reg ?_
   refine ol_r (r_build rfl (fun _ => bd61 _)) rfl ?_
   refine ol_r (r_move rfl) rfl ?_
   refine ol_store (id := 4) rfl rfl rfl rfl sz61 rfl rfl (by first | decide | exact Nat.zero_lt_succ _ | simp) ?_
   refine ol_r (r_assign rfl) rfl ?_
   refine ol_nil (to_k0 (fun _ _ h => h) (hK5 _ _ _ _ _ ?_))
   clear hK5
   refine hQ.ret (rvs2 (rv_c (id := 4) (n := 5) rfl rfl ag61 rfl) (rv_t rfl)) (fun _ _ h => h) fun w hb hs hB hkd => ?_
   exact ⟨by unfold onR; rw [if_pos hc16]; rfl, hb⟩
  ·refine wp_skip' (to_k0 (fun _ _ h => h) (hK3 _ _ _ _ _ ?_))
   clear hK3
   refine wp_seq' fun K6 hK6 => ?_
   refine wp_reg ?_
   refine ol_r (r_move rfl) rfl ?_
   have hpos := betR_pos (Decidable.not_not.1 hc16)
   refine ol_ixo (id := 1001) encState _ rfl rfl rfl rfl sl64 (by omega) rfl fun x20 hx20 => ?_
   try simp only [Int.toNat_natCast] at hx20
   try simp only [Int.toNat_natCast] at hx20
   refine ol_r (r_ldw rfl (fun w1 hb1 hs1 hB1 => ld_own (id := 1001) hs1 rfl rfl ty61 hx20)) rfl ?_
   refine ol_store (id := 4) rfl rfl rfl rfl sz61 rfl rfl (by first | decide | exact Nat.zero_lt_succ _ | simp) ?_
   refine ol_r (r_assign rfl) rfl ?_
   refine ol_nil (to_k0 (fun _ _ h => h) (hK6 _ _ _ _ _ ?_))
   clear hK6
   refine hQ.ret (rvs2 (rv_c (id := 4) (n := 5) rfl rfl ag61 rfl) (rv_t rfl)) (fun _ _ h => h) fun w hb hs hB hkd => ?_
   refine ⟨?_, hb⟩
   unfold onR onV
   rw [if_neg hc16, show (betR (mG (0 : Int) D) first fit fat d d).1[0]? = some x20 from hx20]; rfl
theorem ref_Ratio (b m : Nat) (first fit fat d : Int) (D : List (Int × Int)) (w : World) (hk : Blk w.heap.size w b [(0, .int .i64 first), (1, .int .i64 fit), (2, .int .i64 fat), (3, .map (some m))]) (hm : Mp w.heap.size w m (mEnc (Value.int .i64) (Value.int .i64) D)) (hok : BkOk (mG (0 : Int) D) first fit fat) :
    Calls Try.prog 48 #[.pointer (some ⟨b, 0, none⟩), .int .i64 d] w fun e w' => e = .returned (.tuple #[.agg #[.int .i64 (ratioR (mG (0 : Int) D) first d).1.1, .int .i64 (ratioR (mG (0 : Int) D) first d).1.2], .bool (ratioR (mG (0 : Int) D) first d).2.1, .int .i64 (ratioR (mG (0 : Int) D) first d).2.2]) ∧ Below w.heap.size w w' := by
  have hf := hok.first
  refine enterQ (N := 51) (C := fun _ => True) (H := []) (B := w.heap.size) (args := [_, _]) Try.func48 rfl rfl rfl (Nat.le_refl _) (Sat.nil _ _) fun Q hQ => ?_
  refine wp_seq' fun K1 hK1 => ?_
  refine wp_reg ?_
  refine ol_alloc 4 z40 rfl fun b4 => ?_
  refine ol_r (r_assign rfl) rfl ?_
  refine ol_r (r_assign rfl) rfl ?_
  refine ol_nil (to_k0 (fun _ _ h => h) (hK1 _ _ _ _ _ ?_))
  clear hK1
  refine wp_seq' fun K2 hK2 => ?_
  refine wp_seq' fun K3 hK3 => ?_
  refine wp_reg ?_
  refine ol_r (r_move rfl) rfl ?_
  refine ol_r (r_move rfl) rfl ?_
  refine ol_call rfl rfl cb80 rfl (fun w1 hb1 hs1 hB1 => Calls.mono (ref_dayFault b m first fit fat d _ (hk.at hb1 hB1) hf) ?_)
  rintro e w2 ⟨rfl, hb2⟩
  refine After.below rfl hb1 hs1 hB1 hb2 ?_
  clear hb2 hB1 hs1 hb1 w2 w1
  refine ol_r (r_assign rfl) rfl ?_
  refine ol_nil (to_k0 (fun _ _ h => h) (hK3 _ _ _ _ _ ?_))
  clear hK3
  refine wp_seq' fun K4 hK4 => ?_
  refine wp_reg ?_
  refine ol_r (r_move rfl) rfl ?_
  refine ol_r (r_neq rfl rfl) rfl ?_
  refine ol_nil (to_k0 (fun _ _ h => h) (hK4 _ _ _ _ _ ?_))
  clear hK4
  first | refine wp_condD rfl (fun hc15 => ?_) (fun hc15 => ?_) | refine wp_condN rfl (fun hc15 => ?_) (fun hc15 => ?_) | refine wp_condNB rfl (fun hc15 => ?_) (fun hc15 => ?_) | refine wp_cond' rfl (fun hc15 => ?_) (fun hc15 => ?_)
  ·refine wp_seq' fun K5 hK5 => ?_
   refine wp_reg ?_
   refine ol_r (r_build rfl (fun _ => bd40 _)) rfl ?_
   refine ol_r (r_move rfl) rfl ?_
   refine ol_store (id := 4) rfl rfl rfl rfl sz40 rfl rfl (by first | decide | exact Nat.zero_lt_succ _ | simp) ?_
   refine ol_r (r_assign rfl) rfl ?_
   refine ol_r (r_assign rfl) rfl ?_
   refine ol_nil (to_k0 (fun _ _ h => h) (hK5 _ _ _ _ _ ?_))
   clear hK5
   refine hQ.ret (rvs3 (rv_c (id := 4) (n := 2) rfl rfl ag40 rfl) (rv_t rfl) (rv_t rfl)) (fun _ _ h => h) fun w hb hs hB hkd => ?_
   have hh := faultB_ne hc15
   exact ⟨by rw [ratioR_9 hh.2, hh.1]; (try rfl), hb⟩
  ·refine wp_skip' (to_k0 (fun _ _ h => h) (hK2 _ _ _ _ _ ?_))
   clear hK2
   refine wp_seq' fun K6 hK6 => ?_
   refine wp_reg ?_
   refine ol_r (r_assign rfl) rfl ?_
   refine ol_r (r_assign rfl) rfl ?_
   refine ol_nil (to_k0 (fun _ _ h => h) (hK6 _ _ _ _ _ ?_))
   clear hK6
   refine wp_seq' fun K7 hK7 => ?_
   refine wp_seq' fun K8 hK8 => ?_
   refine wp_reg ?_
   refine ol_r (r_move rfl) rfl ?_
   refine ol_nil (to_k0 (fun _ _ h => h) (hK8 _ _ _ _ _ ?_))
   clear hK8
   refine wp_block' ?_
   apply wp_loopM (σ := Nat) (fun s => s ≤ 28) (fun s => [(18, .int .i64 s), (8, .int .i64 (sumG (mG (0 : Int) D) d (min s 7))), (9, .int .i64 (sumG (mG (0 : Int) D) d s))]) [(0, _), (1, _), (4, _), (5, _), (6, _)] (fun s => []) [(4, _)] (fun s => 28 - s) (0)
   ·try dsimp only
    exact Nat.zero_le _
   ·exact (sub_cons rfl (sub_cons rfl (sub_cons rfl sub_nil)))
   ·exact (sub_cons rfl (sub_cons rfl (sub_cons rfl (sub_cons rfl (sub_cons rfl sub_nil)))))
   ·exact subH_nil
   ·exact (subH_same rfl subH_nil)
   ·rintro k hk2
    have hdd : dayB first d = true := faultB_eq hc15
    have hdb := dayB_iff.1 hdd
    have f1 := sumG_bd (d := d) hok.load k
    have f2 := sumG_bd (d := d) hok.load (min k 7)
    have f3 := hok.load (d - k)
    intro K9 hK9
    refine wp_seq' fun K10 hK10 => ?_
    refine wp_reg ?_
    refine ol_r (r_lss rfl rfl) rfl ?_
    refine ol_nil (to_k0 (fun _ _ h => h) (hK10 _ _ _ _ _ ?_))
    clear hK10
    refine wp_seq' fun K11 hK11 => ?_
    first | refine wp_condD rfl (fun hc19 => ?_) (fun hc19 => ?_) | refine wp_condN rfl (fun hc19 => ?_) (fun hc19 => ?_) | refine wp_condNB rfl (fun hc19 => ?_) (fun hc19 => ?_) | refine wp_cond' rfl (fun hc19 => ?_) (fun hc19 => ?_)
    ·refine wp_skip' (to_k0 (fun _ _ h => h) (hK11 _ _ _ _ _ ?_))
     clear hK11
     refine wp_seq' fun K12 hK12 => ?_
     refine wp_block' ?_
     refine wp_seq' fun K13 hK13 => ?_
     refine wp_reg ?_
     refine ol_r (r_move rfl) rfl ?_
     refine ol_r (r_assign rfl) rfl ?_
     refine ol_nil (to_k0 (fun _ _ h => h) (hK13 _ _ _ _ _ ?_))
     clear hK13
     refine wp_seq' fun K14 hK14 => ?_
     refine wp_seq' fun K15 hK15 => ?_
     refine wp_reg ?_
     refine ol_r (r_move rfl) rfl ?_
     refine ol_r (r_lss rfl rfl) rfl ?_
     refine ol_nil (to_k0 (fun _ _ h => h) (hK15 _ _ _ _ _ ?_))
     clear hK15
     first | refine wp_condD rfl (fun hc22 => ?_) (fun hc22 => ?_) | refine wp_condN rfl (fun hc22 => ?_) (fun hc22 => ?_) | refine wp_condNB rfl (fun hc22 => ?_) (fun hc22 => ?_) | refine wp_cond' rfl (fun hc22 => ?_) (fun hc22 => ?_)
     ·refine wp_reg ?_
      refine ol_r (r_move rfl) rfl ?_
      refine ol_r (r_move rfl) rfl ?_
      refine ol_r (r_nilS rfl (rfl)) rfl ?_
      refine ol_r (r_fa (o' := 3) rfl fl96_3 rfl) rfl ?_
      refine ol_r (r_ldw rfl (fun w1 hb1 hs1 hB1 => Blk.loads (o := 3) hk hb1 sc92 rfl)) rfl ?_
      refine ol_r (r_move rfl) rfl ?_
      refine ol_r (r_move rfl) rfl ?_
      refine ol_r (r_sub rfl rfl (by omega)) rfl ?_
      refine ol_r (r_lookupR (K := Value.int .i64) (V := Value.int .i64) (z := (0 : Int)) hm rfl rfl mt92) rfl ?_
      refine ol_r (r_add rfl rfl (by omega)) rfl ?_
      refine ol_r (r_assign rfl) rfl ?_
      refine ol_nil (to_k0 (fun _ _ h => h) (hK14 _ _ _ _ _ ?_))
      clear hK14
      refine wp_reg ?_
      refine ol_r (r_move rfl) rfl ?_
      refine ol_r (r_move rfl) rfl ?_
      refine ol_r (r_nilS rfl (rfl)) rfl ?_
      refine ol_r (r_fa (o' := 3) rfl fl96_3 rfl) rfl ?_
      refine ol_r (r_ldw rfl (fun w1 hb1 hs1 hB1 => Blk.loads (o := 3) hk hb1 sc92 rfl)) rfl ?_
      refine ol_r (r_move rfl) rfl ?_
      refine ol_r (r_move rfl) rfl ?_
      refine ol_r (r_sub rfl rfl (by omega)) rfl ?_
      refine ol_r (r_lookupR (K := Value.int .i64) (V := Value.int .i64) (z := (0 : Int)) hm rfl rfl mt92) rfl ?_
      refine ol_r (r_add rfl rfl (by omega)) rfl ?_
      refine ol_r (r_assign rfl) rfl ?_
      refine ol_nil (to_k0 (fun _ _ h => h) (hK12 _ _ _ _ _ ?_))
      clear hK12
      refine wp_reg ?_
      refine ol_r (r_add rfl rfl (by omega)) rfl ?_
      refine ol_r (r_move rfl) rfl ?_
      refine ol_nil (to_k0 (fun _ _ h => h) (hK9 ((k + 1)) _ _ ?_ ?_ (sub_cons (by first | rfl | ((rw [show min (k + 1) 7 = min k 7 + 1 by omega, sumG, show min k 7 = k by omega]; try rfl))) (sub_cons (by first | rfl | ((rw [show min (k + 1) 7 = min k 7 + 1 by omega, sumG, show min k 7 = k by omega]; try rfl))) (sub_cons (by first | rfl | ((rw [show min (k + 1) 7 = min k 7 + 1 by omega, sumG, show min k 7 = k by omega]; try rfl))) sub_nil))) (sub_cons rfl (sub_cons rfl (sub_cons rfl (sub_cons rfl (sub_cons rfl sub_nil))))) (by exact subH_nil) (subH_same rfl subH_nil)))
      ·try dsimp only
       omega
      ·try dsimp only
       omega
     ·refine wp_skip' (to_k0 (fun _ _ h => h) (hK14 _ _ _ _ _ ?_))
      clear hK14
      refine wp_reg ?_
      refine ol_r (r_move rfl) rfl ?_
      refine ol_r (r_move rfl) rfl ?_
      refine ol_r (r_nilS rfl (rfl)) rfl ?_
      refine ol_r (r_fa (o' := 3) rfl fl96_3 rfl) rfl ?_
      refine ol_r (r_ldw rfl (fun w1 hb1 hs1 hB1 => Blk.loads (o := 3) hk hb1 sc92 rfl)) rfl ?_
      refine ol_r (r_move rfl) rfl ?_
      refine ol_r (r_move rfl) rfl ?_
      refine ol_r (r_sub rfl rfl (by omega)) rfl ?_
      refine ol_r (r_lookupR (K := Value.int .i64) (V := Value.int .i64) (z := (0 : Int)) hm rfl rfl mt92) rfl ?_
      refine ol_r (r_add rfl rfl (by omega)) rfl ?_
      refine ol_r (r_assign rfl) rfl ?_
      refine ol_nil (to_k0 (fun _ _ h => h) (hK12 _ _ _ _ _ ?_))
      clear hK12
      refine wp_reg ?_
      refine ol_r (r_add rfl rfl (by omega)) rfl ?_
      refine ol_r (r_move rfl) rfl ?_
      refine ol_nil (to_k0 (fun _ _ h => h) (hK9 ((k + 1)) _ _ ?_ ?_ (sub_cons (by first | rfl | ((rw [show min (k + 1) 7 = min k 7 by omega]; try rfl))) (sub_cons (by first | rfl | ((rw [show min (k + 1) 7 = min k 7 by omega]; try rfl))) (sub_cons (by first | rfl | ((rw [show min (k + 1) 7 = min k 7 by omega]; try rfl))) sub_nil))) (sub_cons rfl (sub_cons rfl (sub_cons rfl (sub_cons rfl (sub_cons rfl sub_nil))))) (by exact subH_nil) (subH_same rfl subH_nil)))
      ·try dsimp only
       omega
      ·try dsimp only
       omega
    ·refine wp_exit' (to_k0 (fun _ _ h => h) (hK7 _ _ _ _ _ ?_))
     clear hK7
     refine wp_seq' fun K16 hK16 => ?_
     refine wp_seq' fun K17 hK17 => ?_
     refine wp_reg ?_
     obtain rfl : k = 28 := by omega
     refine ol_r (r_move rfl) rfl ?_
     refine ol_r (r_eql rfl rfl) rfl ?_
     refine ol_nil (to_k0 (fun _ _ h => h) (hK17 _ _ _ _ _ ?_))
     clear hK17
     first | refine wp_condD rfl (fun hc45 => ?_) (fun hc45 => ?_) | refine wp_condN rfl (fun hc45 => ?_) (fun hc45 => ?_) | refine wp_condNB rfl (fun hc45 => ?_) (fun hc45 => ?_) | refine wp_cond' rfl (fun hc45 => ?_) (fun hc45 => ?_)
     ·refine wp_seq' fun K18 hK18 => ?_
      refine wp_reg ?_
      refine ol_r (r_build rfl (fun _ => bd40_0_1 _ _ _)) rfl ?_
      refine ol_store (id := 4) rfl rfl rfl rfl sz40 rfl rfl (by first | decide | exact Nat.zero_lt_succ _ | simp) ?_
      refine ol_r (r_assign rfl) rfl ?_
      refine ol_r (r_assign rfl) rfl ?_
      refine ol_nil (to_k0 (fun _ _ h => h) (hK18 _ _ _ _ _ ?_))
      clear hK18
      refine hQ.ret (rvs3 (rv_c (id := 4) (n := 2) rfl rfl ag40 rfl) (rv_t rfl) (rv_t rfl)) (fun _ _ h => h) fun w hb hs hB hkd => ?_
      exact ⟨by rw [ratioR_1 hdd (by omega)]; (try rfl), hb⟩
     ·refine wp_skip' (to_k0 (fun _ _ h => h) (hK16 _ _ _ _ _ ?_))
      clear hK16
      refine wp_seq' fun K19 hK19 => ?_
      refine wp_reg ?_
      refine ol_r (r_move rfl) rfl ?_
      refine ol_r (r_mul rfl rfl (by omega)) rfl ?_
      refine ol_r (r_move rfl) rfl ?_
      refine ol_call rfl rfl cb73 rfl (fun w1 hb1 hs1 hB1 => Calls.mono (ref_ratio _ _ _ (by omega) (by omega)) ?_)
      rintro e w2 ⟨rfl, hb2⟩
      refine After.below rfl hb1 hs1 hB1 hb2 ?_
      clear hb2 hB1 hs1 hb1 w2 w1
      refine ol_store (id := 4) rfl rfl rfl rfl sz40 rfl rfl (by first | decide | exact Nat.zero_lt_succ _ | simp) ?_
      refine ol_r (r_assign rfl) rfl ?_
      refine ol_r (r_assign rfl) rfl ?_
      refine ol_nil (to_k0 (fun _ _ h => h) (hK19 _ _ _ _ _ ?_))
      clear hK19
      refine hQ.ret (rvs3 (rv_c (id := 4) (n := 2) rfl rfl ag40 rfl) (rv_t rfl) (rv_t rfl)) (fun _ _ h => h) fun w hb hs hB hkd => ?_
      exact ⟨by rw [ratioR_0 hdd (by omega)]; (try rfl), hb⟩
end Go.Proofs.Ytamlldedmhkobaa
