/-
  What the document tells of ways and climbs.
-/
import Derived.Test.YtogcclagmobkiaaClimb
import Derived.Test.YtogcclagmobkiaaWays
import Derived.Test.YtogcclagmobkiaaSlices
namespace Go.Proofs.Ytogcclagmobkiaa
open Go Go.RowKit Hx
set_option linter.unusedVariables false
set_option linter.unusedSimpArgs false
set_option maxRecDepth 8000
theorem enc_snoc {α : Type} (E : Enc α) (xs : List α) (x : α) : E.enc (xs ++ [x]) = E.enc xs ++ E.cells x := by rw [Enc.enc_append]; simp [Enc.enc]
def hillS : List SmpR := [⟨0, 0, 0, 0, -1, -1, -1⟩, ⟨1, 30, 40, 12, -1, -1, -1⟩, ⟨2, 60, 80, 2, -1, -1, -1⟩, ⟨3, 90, 120, 15, -1, -1, -1⟩]
def hillA (a : Option Addr) (c : Nat) : ActV := ⟨⟨#[97]⟩, 1, 0, a, 4, c, none, 0, 0, none, 0, 0, hillS, [], []⟩
theorem hill_ok {C : Nat} {w : World} {a : Option Addr} {c : Nat} (h : Rd encSmp C w a 4 c hillS) : (hillA a c).Ok C w :=
  { s := h, l := Rd.nil, t := Rd.nil, nm := by show 1 ≤ _; decide, lm := fun x hx => by simp [hillA] at hx, tm := fun x hx => by simp [hillA] at hx,
    lo := fun x hx => by simp [hillA, hillS] at hx; rcases hx with rfl | rfl | rfl | rfl <;> decide }
theorem hill_get {k : Nat} {z : Int} (hk : k < 4) (hz : ([0, 12, 2, 15] : List Int)[k]? = some z) : hillS[k]? = some ⟨k, 30 * k, 40 * k, z, -1, -1, -1⟩ := by
  match k, hk with
  | 0, _ => cases hz; rfl
  | 1, _ => cases hz; rfl
  | 2, _ => cases hz; rfl
  | 3, _ => cases hz; rfl
theorem law3_hill (w : World) : Calls Try.prog 54 #[] w fun e w' => ∃ a c, e = .returned (.agg #[.string (hillA a c).name, .int .i64 (hillA a c).sport, .int .i64 (hillA a c).start, .slice (hillA a c).sa (hillA a c).sn (hillA a c).sc, .slice (hillA a c).la (hillA a c).ln (hillA a c).lc, .slice (hillA a c).ta (hillA a c).tn (hillA a c).tc]) ∧ Below w.heap.size w w' ∧ Sat w.heap.size w' [(1001, .row a 4 c (encSmp.enc hillS) 28 7)] := by
  refine enterQ (N := 26) (C := fun _ => True) (H := []) (B := w.heap.size) (args := []) Try.func54 rfl rfl rfl (Nat.le_refl _) (Sat.nil _ _) fun Q hQ => ?_
  refine wp_seq' fun K1 hK1 => ?_
  refine wp_reg ?_
  refine ol_alloc 0 z26 rfl fun b0 => ?_
  refine ol_nil (to_k0 (fun _ _ h => h) (hK1 _ _ _ _ _ ?_))
  clear hK1
  refine wp_seq' fun K2 hK2 => ?_
  refine wp_reg ?_
  refine ol_r (r_build rfl (fun _ => bd26_0_1 _ _ _)) rfl ?_
  refine ol_alloc 1 z26 rfl fun b1 => ?_
  refine ol_store (id := 1) rfl rfl rfl rfl sz26 rfl rfl (by first | decide | exact Nat.zero_lt_succ _ | simp) ?_
  refine ol_nil (to_k0 (fun _ _ h => h) (hK2 _ _ _ _ _ ?_))
  clear hK2
  refine wp_seq' fun K3 hK3 => ?_
  refine wp_seq' fun K4 hK4 => ?_
  refine wp_reg ?_
  refine ol_nilrow 50 28 7 ?_
  refine ol_bsN 5 rfl rw37 rfl rfl (fun _ => by kernel_rfl) rfl fun a5 => ?_
  refine ol_r (r_len rfl sl37) rfl ?_
  refine ol_r (r_move rfl) rfl ?_
  refine ol_nil (to_k0 (fun _ _ h => h) (hK4 _ _ _ _ _ ?_))
  clear hK4
  refine wp_block' ?_
  apply wp_loopM (σ := Nat × Option Addr × Nat) (fun s => s.1 ≤ 4) (fun s => [(7, .int .i64 s.1)]) [(0, _), (1, _), (5, _), (6, _)] (fun s => [(1, .blk b1 [(0, .string ⟨#[97]⟩), (1, .int .i64 1), (2, .int .i64 0), (3, .slice s.2.1 s.1 s.2.2), (4, .slice none 0 0), (5, .slice none 0 0)] 26), (50, .row s.2.1 s.1 s.2.2 (encSmp.enc (hillS.take s.1)) 28 7)]) [(0, _), (5, _)] (fun s => 4 - s.1) ((0, none, 0))
  ·try dsimp only
   omega
  ·exact (sub_cons rfl sub_nil)
  ·exact (sub_cons rfl (sub_cons rfl (sub_cons rfl (sub_cons rfl sub_nil))))
  ·exact (subH_blk rfl (sub_cons rfl (sub_cons rfl (sub_cons rfl (sub_cons rfl (sub_cons rfl (sub_cons rfl sub_nil)))))) (subH_row rfl (by dsimp only; rfl) subH_nil))
  ·exact (subH_same rfl (subH_same rfl subH_nil))
  ·rintro ⟨k, oa, oc⟩ hk
   dsimp only at hk ⊢
   intro K5 hK5
   refine wp_seq' fun K6 hK6 => ?_
   refine wp_reg ?_
   refine ol_r (r_lss rfl rfl) rfl ?_
   refine ol_nil (to_k0 (fun _ _ h => h) (hK6 _ _ _ _ _ ?_))
   clear hK6
   refine wp_seq' fun K7 hK7 => ?_
   refine wp_condD rfl (fun hc8 => ?_) (fun hc8 => ?_)
   ·refine wp_skip' (to_k0 (fun _ _ h => h) (hK7 _ _ _ _ _ ?_))
    clear hK7
    refine wp_seq' fun K8 hK8 => ?_
    refine wp_block' ?_
    refine wp_seq' fun K9 hK9 => ?_
    refine wp_reg ?_
    refine ol_r (r_move rfl) rfl ?_
    refine ol_ixo (id := 5) encI [0, 12, 2, 15] rfl rfl rfl rfl sl37 (by omega) rfl fun x10 hx10 => ?_
    try simp only [Int.toNat_natCast] at hx10
    try simp only [Int.toNat_natCast] at hx10
    refine ol_r (r_ldw rfl (fun w1 hb1 hs1 hB1 => show Loads _ _ _ _ (.int .i64 x10) from ld_own (id := 5) hs1 rfl rfl ty3 hx10)) rfl ?_
    refine ol_r (r_assign rfl) rfl ?_
    refine ol_r (r_assign rfl) rfl ?_
    refine ol_nil (to_k0 (fun _ _ h => h) (hK9 _ _ _ _ _ ?_))
    clear hK9
    refine wp_reg ?_
    refine ol_r (r_fa (o' := 3) rfl fl26_3 rfl) rfl ?_
    refine ol_r (r_ld (id := 1) rfl rfl rfl sc22) rfl ?_
    refine ol_r (r_move rfl) rfl ?_
    refine ol_r (r_move rfl) rfl ?_
    refine ol_r (r_mul rfl rfl (by omega)) rfl ?_
    refine ol_r (r_move rfl) rfl ?_
    refine ol_r (r_mul rfl rfl (by omega)) rfl ?_
    refine ol_r (r_move rfl) rfl ?_
    refine ol_r (r_build rfl (fun _ => bd28_0_1_2_3_4_5_6 _ _ _ _ _ _ _ _)) rfl ?_
    refine ol_bs1 21 rfl rfl rw22 rfl rfl rfl fun a21 => ?_
    refine ol_append1 (id := 50) (id2 := 21) rfl rfl rfl rfl rfl rw22 (by omega) rfl fun a22 c22 => ?_
    refine ol_r (r_fa (o' := 3) rfl fl26_3 rfl) rfl ?_
    refine ol_store (id := 1) rfl rfl rfl rfl sz22 rfl rfl (by first | decide | exact Nat.zero_lt_succ _ | simp) ?_
    refine ol_nil (to_k0 (fun _ _ h => h) (hK8 _ _ _ _ _ ?_))
    clear hK8
    refine wp_reg ?_
    refine ol_r (r_add rfl rfl (by omega)) rfl ?_
    refine ol_r (r_move rfl) rfl ?_
    refine ol_nil (to_k0 (fun _ _ h => h) (hK5 ((k + 1, _, _)) _ _ ?_ ?_ (sub_cons rfl sub_nil) (sub_cons rfl (sub_cons rfl (sub_cons rfl (sub_cons rfl sub_nil)))) (by exact (subH_blk rfl (sub_cons rfl (sub_cons rfl (sub_cons rfl (sub_cons rfl (sub_cons rfl (sub_cons rfl sub_nil)))))) (subH_row rfl (by dsimp only; (rw [take_succ_get (hill_get (by omega) hx10), enc_snoc]; rfl)) subH_nil))) (subH_same rfl (subH_same rfl subH_nil))))
    ·try dsimp only
     omega
    ·try dsimp only
     omega
   ·refine wp_exit' (to_k0 (fun _ _ h => h) (hK3 _ _ _ _ _ ?_))
    clear hK3
    refine wp_seq' fun K10 hK10 => ?_
    refine wp_reg ?_
    refine ol_r (r_lda (id := 1) (n := 6) rfl rfl rfl ag26) rfl ?_
    refine ol_store (id := 0) rfl rfl rfl rfl sz26 rfl rfl (by first | decide | exact Nat.zero_lt_succ _ | simp) ?_
    refine ol_nil (to_k0 (fun _ _ h => h) (hK10 _ _ _ _ _ ?_))
    clear hK10
    refine hQ.ret (rvs1 (rv_c (id := 0) (n := 6) rfl rfl ag26 rfl)) (fun _ _ h => h) fun w hb hs hB hkd => ?_
    have hk4 : k = 4 := by omega
    subst hk4
    exact ⟨_, _, rfl, hb, hs.one 50 1001 rfl (Ent.le_refl _)⟩
def hillD : ActD := ⟨⟨#[97]⟩, 1, 0, hillS, [], []⟩
theorem hill_chk (a : Option Addr) (c : Nat) : chkA (hillA a c).d = 0 := by
  show chkA hillD = 0
  decide +kernel
theorem hill_climb (a : Option Addr) (c : Nat) : climbR (hillA a c).d 11 = ((15, 0, 0), 0) := by
  rw [climbR_z (hill_chk a c) (by omega) (by show ¬hillD.ss.length < 2; decide)]
  show (zigR 11 hillS, (0:Int)) = _
  decide +kernel
theorem hill_ways (a : Option Addr) (c : Nat) : waysR (hillA a c).d = ([0, 50, 100, 150], 0) := by
  rw [waysR_0 (by rw [hill_chk a c]; simp)]
  have hr : rootI 2500 = 50 := rootI_eq (by unfold IsRoot; omega)
  have h0 : wayN hillS 0 = 0 := wayN_zero _
  have h1 : wayN hillS 1 = 50 := by rw [wayN_succ (p := (⟨0, 0, 0, 0, -1, -1, -1⟩, ⟨1, 30, 40, 12, -1, -1, -1⟩)) rfl, h0]; unfold lenD; rw [show sqD _ _ = 2500 from by decide, hr]; rfl
  have h2 : wayN hillS 2 = 100 := by rw [wayN_succ (p := (⟨1, 30, 40, 12, -1, -1, -1⟩, ⟨2, 60, 80, 2, -1, -1, -1⟩)) rfl, h1]; unfold lenD; rw [show sqD _ _ = 2500 from by decide, hr]; rfl
  have h3 : wayN hillS 3 = 150 := by rw [wayN_succ (p := (⟨2, 60, 80, 2, -1, -1, -1⟩, ⟨3, 90, 120, 15, -1, -1, -1⟩)) rfl, h2]; unfold lenD; rw [show sqD _ _ = 2500 from by decide, hr]; rfl
  show (wayL hillS, (0:Int)) = _
  unfold wayL runW
  show ([wayN hillS 0, wayN hillS 1, wayN hillS 2, wayN hillS 3], (0:Int)) = _
  rw [h0, h1, h2, h3]
theorem track_Ways (A : ActV) (w : World) (hA : A.Ok w.heap.size w) :
    Calls Try.prog 53 #[.agg #[.string A.name, .int .i64 A.sport, .int .i64 A.start, .slice A.sa A.sn A.sc, .slice A.la A.ln A.lc, .slice A.ta A.tn A.tc]] w fun e w' => ∃ b m k, e = .returned (.tuple #[.slice b m k, .int .i64 (waysR A.d).2]) ∧ Fresh encI 3 w w' b m k (waysR A.d).1 := by
  refine enterQ (N := 12) (C := fun _ => True) (H := []) (B := w.heap.size) (args := [_]) Try.func53 rfl rfl rfl (Nat.le_refl _) (Sat.nil _ _) fun Q hQ => ?_
  refine wp_seq' fun K1 hK1 => ?_
  refine wp_reg ?_
  refine ol_box 1 rfl rfl rfl fun b1 => ?_
  refine ol_r (r_assign rfl) rfl ?_
  refine ol_r (r_assign rfl) rfl ?_
  refine ol_nil (to_k0 (fun _ _ h => h) (hK1 _ _ _ _ _ ?_))
  clear hK1
  refine wp_seq' fun K2 hK2 => ?_
  refine wp_seq' fun K3 hK3 => ?_
  refine wp_reg ?_
  refine ol_r (r_lda (id := 1) (n := 6) rfl rfl rfl ag26) rfl ?_
  refine ol_call rfl rfl cb40 rfl (fun w1 hb1 hs1 hB1 => Calls.mono (record_Check A _ (hA.at hb1 hB1)) ?_)
  rintro e w2 ⟨rfl, hb2⟩
  refine After.below rfl hb1 hs1 hB1 hb2 ?_
  clear hb2 hB1 hs1 hb1 w2 w1
  refine ol_r (r_assign rfl) rfl ?_
  refine ol_nil (to_k0 (fun _ _ h => h) (hK3 _ _ _ _ _ ?_))
  clear hK3
  refine wp_seq' fun K4 hK4 => ?_
  refine wp_reg ?_
  refine ol_r (r_move rfl) rfl ?_
  refine ol_r (r_neq rfl rfl) rfl ?_
  refine ol_nil (to_k0 (fun _ _ h => h) (hK4 _ _ _ _ _ ?_))
  clear hK4
  refine wp_condD rfl (fun hc8 => ?_) (fun hc8 => ?_)
  ·refine wp_seq' fun K5 hK5 => ?_
   refine wp_reg ?_
   refine ol_r (r_move rfl) rfl ?_
   refine ol_r (r_assign rfl) rfl ?_
   refine ol_r (r_assign rfl) rfl ?_
   refine ol_nil (to_k0 (fun _ _ h => h) (hK5 _ _ _ _ _ ?_))
   clear hK5
   refine hQ.ret (rvs2 (rv_t rfl) (rv_t rfl)) (fun _ _ h => h) fun w hb hs hB hkd => ?_
   first
     | (have h := waysR_e hc8
        exact ⟨none, 0, 0, by rw [h], by rw [h]; exact Fresh.nil hb⟩)
  ·refine wp_skip' (to_k0 (fun _ _ h => h) (hK2 _ _ _ _ _ ?_))
   clear hK2
   refine wp_seq' fun K6 hK6 => ?_
   refine wp_reg ?_
   have hw := waysR_0 hc8
   have hok : SmpOk A.start A.ss := (goodA (Decidable.not_not.1 hc8)).smp
   refine ol_r (r_lda (id := 1) (n := 6) rfl rfl rfl ag26) rfl ?_
   refine ol_call rfl rfl cb105 rfl (fun w1 hb1 hs1 hB1 => Calls.mono (track_ways A _ (hA.at hb1 hB1) hok) ?_)
   rintro e w2 ⟨a11, n11, c11, rfl, hf11⟩
   refine After.fresh (id := 11) rfl hb1 hs1 hB1 hf11 ?_
   have hl11 := hf11.len; clear hf11 hB1 hs1 hb1 w2 w1
   refine ol_r (r_assign rfl) rfl ?_
   refine ol_r (r_assign rfl) rfl ?_
   refine ol_nil (to_k0 (fun _ _ h => h) (hK6 _ _ _ _ _ ?_))
   clear hK6
   refine hQ.ret (rvs2 (rv_t rfl) (rv_t rfl)) (fun _ _ h => h) fun w hb hs hB hkd => ?_
   first
     | (exact ⟨_, _, _, by rw [hw], by rw [hw]; exact ⟨hb, hs.ok 11 _ rfl⟩⟩)
theorem law3_told (w : World) : Calls Try.prog 16 #[] w fun e w' => e = .returned (.bool true) ∧ Below w.heap.size w w' := by
  refine enterQ (N := 31) (C := fun _ => True) (H := []) (B := w.heap.size) (args := []) Try.func16 rfl rfl rfl (Nat.le_refl _) (Sat.nil _ _) fun Q hQ => ?_
  refine wp_seq' fun K1 hK1 => ?_
  refine wp_reg ?_
  refine ol_r (r_assign rfl) rfl ?_
  refine ol_nil (to_k0 (fun _ _ h => h) (hK1 _ _ _ _ _ ?_))
  clear hK1
  refine wp_seq' fun K2 hK2 => ?_
  refine wp_reg ?_
  refine ol_call rfl rfl cb54 rfl (fun w1 hb1 hs1 hB1 => ?_)
  refine Calls.mono (law3_hill _) ?_
  rintro e w2 ⟨a6, c6, rfl, hb2, hs2⟩
  refine After.more rfl hb1 hs1 hB1 hb2 hs2 ?_
  clear hs2 hb2 hB1 hs1 hb1 w2 w1
  refine ol_call rfl rfl cb53 rfl (fun w1 hb1 hs1 hB1 => Calls.mono (track_Ways (hillA a6 c6) _ (hill_ok (Sat.rd hs1 (id := 1001) rfl rfl))) ?_)
  rintro e w2 ⟨a7, n7, c7, rfl, hf7⟩
  refine After.fresh (id := 7) rfl hb1 hs1 hB1 hf7 ?_
  have hl7 := hf7.len; clear hf7 hB1 hs1 hb1 w2 w1
  refine ol_r (r_move rfl) rfl ?_
  refine ol_r (r_extract rfl rfl) rfl ?_
  refine ol_r (r_extract rfl rfl) rfl ?_
  refine ol_r (r_assign rfl) rfl ?_
  refine ol_r (r_assign rfl) rfl ?_
  refine ol_nil (to_k0 (fun _ _ h => h) (hK2 _ _ _ _ _ ?_))
  clear hK2
  refine wp_seq' fun K3 hK3 => ?_
  refine wp_reg ?_
  refine ol_call rfl rfl cb54 rfl (fun w1 hb1 hs1 hB1 => ?_)
  refine Calls.mono (law3_hill _) ?_
  rintro e w2 ⟨a11, c11, rfl, hb2, hs2⟩
  refine After.more rfl hb1 hs1 hB1 hb2 hs2 ?_
  clear hs2 hb2 hB1 hs1 hb1 w2 w1
  refine ol_call rfl rfl cb55 rfl (fun w1 hb1 hs1 hB1 => Calls.mono (track_Climb (hillA a11 c11) 11 _ (hill_ok (Sat.rd hs1 (id := 1001) rfl rfl))) ?_)
  rintro e w2 ⟨rfl, hb2⟩
  refine After.below rfl hb1 hs1 hB1 hb2 ?_
  clear hb2 hB1 hs1 hb1 w2 w1
  refine ol_r (r_move rfl) rfl ?_
  refine ol_r (r_extract rfl rfl) rfl ?_
  have hC := hill_climb a11 c11
  have hW := hill_ways a6 c6
  refine ol_r (r_extract rfl rfl) rfl ?_
  refine ol_alloc 3 z71 rfl fun b3 => ?_
  refine ol_store (id := 3) rfl rfl rfl rfl sz71 rfl rfl (by first | decide | exact Nat.zero_lt_succ _ | simp) ?_
  refine ol_r (r_assign rfl) rfl ?_
  refine ol_nil (to_k0 (fun _ _ h => h) (hK3 _ _ _ _ _ ?_))
  clear hK3
  refine wp_seq' fun K4 hK4 => ?_
  refine wp_reg ?_
  refine ol_r (r_move rfl) rfl ?_
  refine ol_r (r_eql rfl rfl) rfl ?_
  refine ol_r (r_move rfl) rfl ?_
  refine ol_split (d := 17) rfl (fun hs17 => ?_) (fun hs17 => ?_)
  ·have phs17 := hs17; try simp only [decide_eq_true_eq, decide_eq_false_iff_not, Bool.not_eq_true', Bool.not_eq_false', Bool.not_true, Bool.not_false] at phs17
   refine ol_g rfl rfl hs17 ?_
   refine ol_r (r_move rfl) rfl ?_
   refine ol_g rfl rfl hs17 ?_
   refine ol_r (r_eql rfl rfl) rfl ?_
   refine ol_r (r_pickT rfl hs17 rfl) rfl ?_
   refine ol_r (r_move rfl) rfl ?_
   refine ol_split (d := 21) rfl (fun hs21 => ?_) (fun hs21 => ?_)
   ·have phs21 := hs21; try simp only [decide_eq_true_eq, decide_eq_false_iff_not, Bool.not_eq_true', Bool.not_eq_false', Bool.not_true, Bool.not_false] at phs21
    refine ol_g rfl rfl hs21 ?_
    refine ol_r (r_move rfl) rfl ?_
    refine ol_g rfl rfl hs21 ?_
    refine ol_bsN 23 rfl rw37 rfl rfl (fun _ => by kernel_rfl) rfl fun a23 => ?_
    refine ol_g rfl rfl hs21 ?_
    refine ol_call rfl rfl cb21 rfl (fun w1 hb1 hs1 hB1 => Calls.mono (equal_int _ _ _ _ _ _ (waysR (hillA a6 c6).d).1 [0, 50, 100, 150] _ (Sat.rd hs1 (id := 7) rfl rfl) (Sat.rd hs1 (E := encI) (xs := [0, 50, 100, 150]) (id := 23) rfl rfl)) ?_)
    rintro e w2 ⟨rfl, hb2⟩
    refine After.below rfl hb1 hs1 hB1 hb2 ?_
    clear hb2 hB1 hs1 hb1 w2 w1
    refine ol_r (r_pickT rfl hs21 rfl) rfl ?_
    refine ol_r (r_move rfl) rfl ?_
    refine ol_split (d := 26) rfl (fun hs26 => ?_) (fun hs26 => ?_)
    ·have phs26 := hs26; try simp only [decide_eq_true_eq, decide_eq_false_iff_not, Bool.not_eq_true', Bool.not_eq_false', Bool.not_true, Bool.not_false] at phs26
     refine ol_g rfl rfl hs26 ?_
     refine ol_r (r_lda (id := 3) (n := 3) rfl rfl rfl ag71) rfl ?_
     refine ol_g rfl rfl hs26 ?_
     refine ol_r (r_build rfl (fun _ => bd71_0 _ _)) rfl ?_
     refine ol_g rfl rfl hs26 ?_
     refine ol_r (r_eqs rfl rfl (by kernel_rfl) (fun w => run_eqs (by kernel_rfl) (by kernel_rfl) w)) rfl ?_
     refine ol_r (r_pickT rfl hs26 rfl) rfl ?_
     refine ol_r (r_assign rfl) rfl ?_
     refine ol_nil (to_k0 (fun _ _ h => h) (hK4 _ _ _ _ _ ?_))
     clear hK4
     refine hQ.ret (rvs1 (rv_t rfl)) (fun _ _ h => h) fun w hb hs hB hkd => ?_
     exact ⟨by rw [hC]; rfl, hb⟩
    ·have phs26 := hs26; try simp only [decide_eq_true_eq, decide_eq_false_iff_not, Bool.not_eq_true', Bool.not_eq_false', Bool.not_true, Bool.not_false] at phs26
     refine ol_s rfl rfl hs26 rfl ?_
     refine ol_s rfl rfl hs26 rfl ?_
     refine ol_s rfl rfl hs26 rfl ?_
     refine ol_r (r_pickF rfl hs26 rfl) rfl ?_
     refine ol_r (r_assign rfl) rfl ?_
     refine ol_nil (to_k0 (fun _ _ h => h) (hK4 _ _ _ _ _ ?_))
     clear hK4
     refine hQ.ret (rvs1 (rv_t rfl)) (fun _ _ h => h) fun w hb hs hB hkd => ?_
     exfalso; rw [hW] at phs26; simp at phs26
   ·have phs21 := hs21; try simp only [decide_eq_true_eq, decide_eq_false_iff_not, Bool.not_eq_true', Bool.not_eq_false', Bool.not_true, Bool.not_false] at phs21
    refine ol_s rfl rfl hs21 rfl ?_
    refine ol_s rfl rfl hs21 rfl ?_
    refine ol_s rfl rfl hs21 rfl ?_
    refine ol_r (r_pickF rfl hs21 rfl) rfl ?_
    refine ol_r (r_move rfl) rfl ?_
    refine ol_s rfl rfl rfl rfl ?_
    refine ol_s rfl rfl rfl rfl ?_
    refine ol_s rfl rfl rfl rfl ?_
    refine ol_r (r_pickF rfl rfl rfl) rfl ?_
    refine ol_r (r_assign rfl) rfl ?_
    refine ol_nil (to_k0 (fun _ _ h => h) (hK4 _ _ _ _ _ ?_))
    clear hK4
    refine hQ.ret (rvs1 (rv_t rfl)) (fun _ _ h => h) fun w hb hs hB hkd => ?_
    exfalso; rw [hC] at phs21; simp at phs21
  ·have phs17 := hs17; try simp only [decide_eq_true_eq, decide_eq_false_iff_not, Bool.not_eq_true', Bool.not_eq_false', Bool.not_true, Bool.not_false] at phs17
   refine ol_s rfl rfl hs17 rfl ?_
   refine ol_s rfl rfl hs17 rfl ?_
   refine ol_r (r_pickF rfl hs17 rfl) rfl ?_
   refine ol_r (r_move rfl) rfl ?_
   refine ol_s rfl rfl rfl rfl ?_
   refine ol_s rfl rfl rfl rfl ?_
   refine ol_s rfl rfl rfl rfl ?_
   refine ol_r (r_pickF rfl rfl rfl) rfl ?_
   refine ol_r (r_move rfl) rfl ?_
   refine ol_s rfl rfl rfl rfl ?_
   refine ol_s rfl rfl rfl rfl ?_
   refine ol_s rfl rfl rfl rfl ?_
   refine ol_r (r_pickF rfl rfl rfl) rfl ?_
   refine ol_r (r_assign rfl) rfl ?_
   refine ol_nil (to_k0 (fun _ _ h => h) (hK4 _ _ _ _ _ ?_))
   clear hK4
   refine hQ.ret (rvs1 (rv_t rfl)) (fun _ _ h => h) fun w hb hs hB hkd => ?_
   exfalso; rw [hW] at phs17; simp at phs17
end Go.Proofs.Ytogcclagmobkiaa
