/-
  MatchTilesAreSeen.
-/
import Derived.Test.YtjflbnbofedlkaaXmA
import Derived.Test.YtjflbnbofedlkaaXmB
import Derived.Test.YtjflbnbofedlkaaXmC
import Derived.Test.YtjflbnbofedlkaaXmD
import Derived.Test.YtjflbnbofedlkaaXmE
import Derived.Test.YtjflbnbofedlkaaXmF
import Derived.Test.YtjflbnbofedlkaaXmG



namespace Go.Proofs.Ytjflbnbofedlkaa
open Go Go.RowKit Hx
set_option linter.unusedVariables false
set_option linter.unusedSimpArgs false
set_option maxRecDepth 8000
theorem half_neg {n : Int} (h : n < 0) : (n - 1).tdiv 2 = n / 2 := by
  rw [show n - 1 = -(1 - n) by omega, Int.neg_tdiv, Int.tdiv_eq_ediv_of_nonneg (by omega)]; omega
theorem law5_half (n : Int) (w : World) (h : -9000000000000000000 ≤ n ∧ n ≤ 9000000000000000000) : Calls Try.prog 20 #[.int .i64 n] w fun e w' => e = .returned (.int .i64 (n / 2)) ∧ Below w.heap.size w w' := by
  refine enterQ (N := 10) (C := fun _ => True) (H := []) (B := w.heap.size) (args := [_]) Try.func20 rfl rfl rfl (Nat.le_refl _) (Sat.nil _ _) fun Q hQ => ?_
  refine wp_seq' fun K1 hK1 => ?_
  refine wp_reg ?_
  refine ol_r (r_assign rfl) rfl ?_
  refine ol_nil (to_k0 (fun _ _ h => h) (hK1 _ _ _ _ _ ?_))
  clear hK1
  refine wp_seq' fun K2 hK2 => ?_
  refine wp_seq' fun K3 hK3 => ?_
  refine wp_reg ?_
  refine ol_r (r_move rfl) rfl ?_
  refine ol_r (r_lss rfl rfl) rfl ?_
  refine ol_nil (to_k0 (fun _ _ h => h) (hK3 _ _ _ _ _ ?_))
  clear hK3
  first | refine wp_condD rfl (fun hc4 => ?_) (fun hc4 => ?_) | refine wp_condN rfl (fun hc4 => ?_) (fun hc4 => ?_) | refine wp_condNB rfl (fun hc4 => ?_) (fun hc4 => ?_) | refine wp_cond' rfl (fun hc4 => ?_) (fun hc4 => ?_)
  ·refine wp_seq' fun K4 hK4 => ?_
   refine wp_reg ?_
   refine ol_r (r_move rfl) rfl ?_
   refine ol_r (r_sub rfl rfl (by omega)) rfl ?_
   first | refine ol_r (r_quo rfl rfl (by omega)) rfl ?_ | refine ol_r (r_tquo rfl rfl (by omega)) rfl ?_
   refine ol_r (r_assign rfl) rfl ?_
   refine ol_nil (to_k0 (fun _ _ h => h) (hK4 _ _ _ _ _ ?_))
   clear hK4
   refine hQ.ret (rvs1 (rv_t rfl)) (fun _ _ h => h) fun w hb hs hB hkd => ?_
   first
     | exact ⟨rfl, hb⟩
     | exact ⟨by rw [half_neg (by omega)], hb⟩
     | exact ⟨by rw [Int.tdiv_eq_ediv_of_nonneg (by omega)], hb⟩
  ·refine wp_skip' (to_k0 (fun _ _ h => h) (hK2 _ _ _ _ _ ?_))
   clear hK2
   refine wp_seq' fun K5 hK5 => ?_
   refine wp_reg ?_
   refine ol_r (r_move rfl) rfl ?_
   first | refine ol_r (r_quo rfl rfl (by omega)) rfl ?_ | refine ol_r (r_tquo rfl rfl (by omega)) rfl ?_
   refine ol_r (r_assign rfl) rfl ?_
   refine ol_nil (to_k0 (fun _ _ h => h) (hK5 _ _ _ _ _ ?_))
   clear hK5
   refine hQ.ret (rvs1 (rv_t rfl)) (fun _ _ h => h) fun w hb hs hB hkd => ?_
   first
     | exact ⟨rfl, hb⟩
     | exact ⟨by rw [half_neg (by omega)], hb⟩
     | exact ⟨by rw [Int.tdiv_eq_ediv_of_nonneg (by omega)], hb⟩
theorem index_tile (a : Option Addr) (n c : Nat) (xs : List TileR) (v : TileR) (w : World) (hx : Rd encTile w.heap.size w a n c xs) (hm : v ∈ xs) :
    Calls Try.prog 64 #[.slice a n c, encTile.val v] w fun e w' => (∃ k : Int, e = .returned (.int .i64 k) ∧ 0 ≤ k) ∧ Below w.heap.size w w' := by
  have hxf := hx.fit
  have hxl := hx.len
  obtain ⟨j, hj⟩ := List.getElem?_of_mem hm
  have hjn := (List.getElem?_eq_some_iff.1 hj).1
  refine enterQ (N := 19) (C := fun _ => True) (H := []) (B := w.heap.size) (args := [_, _]) Try.func64 rfl rfl rfl (Nat.le_refl _) (Sat.nil _ _) fun Q hQ => ?_
  refine wp_seq' fun K1 hK1 => ?_
  refine wp_reg ?_
  refine ol_box 3 rfl rfl rfl fun b3 => ?_
  refine ol_r (r_assign rfl) rfl ?_
  refine ol_nil (to_k0 (fun _ _ h => h) (hK1 _ _ _ _ _ ?_))
  clear hK1
  refine wp_seq' fun K2 hK2 => ?_
  refine wp_seq' fun K3 hK3 => ?_
  refine wp_reg ?_
  refine ol_r (r_move rfl) rfl ?_
  refine ol_r (r_len rfl sl45) rfl ?_
  refine ol_r (r_move rfl) rfl ?_
  refine ol_nil (to_k0 (fun _ _ h => h) (hK3 _ _ _ _ _ ?_))
  clear hK3
  refine wp_block' ?_
  apply wp_loopM (σ := Nat) (fun s => s ≤ j) (fun s => [(8, .int .i64 s)]) [(0, _), (3, _), (7, _)] (fun s => []) [(3, _)] (fun s => n - s) (0)
  ·try dsimp only
   omega
  ·exact (sub_cons rfl sub_nil)
  ·exact (sub_cons rfl (sub_cons rfl (sub_cons rfl sub_nil)))
  ·exact subH_nil
  ·exact (subH_same rfl subH_nil)
  ·rintro k hk
   intro K4 hK4
   refine wp_seq' fun K5 hK5 => ?_
   refine wp_reg ?_
   refine ol_r (r_lss rfl rfl) rfl ?_
   refine ol_nil (to_k0 (fun _ _ h => h) (hK5 _ _ _ _ _ ?_))
   clear hK5
   refine wp_seq' fun K6 hK6 => ?_
   first | refine wp_condD rfl (fun hc9 => ?_) (fun hc9 => ?_) | refine wp_condN rfl (fun hc9 => ?_) (fun hc9 => ?_) | refine wp_condNB rfl (fun hc9 => ?_) (fun hc9 => ?_) | refine wp_cond' rfl (fun hc9 => ?_) (fun hc9 => ?_)
   ·refine wp_skip' (to_k0 (fun _ _ h => h) (hK6 _ _ _ _ _ ?_))
    clear hK6
    refine wp_seq' fun K7 hK7 => ?_
    refine wp_block' ?_
    refine wp_seq' fun K8 hK8 => ?_
    refine wp_reg ?_
    refine ol_r (r_move rfl) rfl ?_
    refine ol_r (r_assign rfl) rfl ?_
    refine ol_nil (to_k0 (fun _ _ h => h) (hK8 _ _ _ _ _ ?_))
    clear hK8
    refine wp_seq' fun K9 hK9 => ?_
    refine wp_regq (by kernel_rfl) (by kernel_rfl) ?_
    refine ql_r (r_lda (id := 3) (n := 2) rfl rfl rfl ag42) rfl ?_
    refine ql_r (r_move rfl) rfl ?_
    refine ql_r (r_move rfl) rfl ?_
    refine ql_ixr hx rfl rfl sl45 (by omega) rfl fun x14 hx14 => ?_
    try simp only [Int.toNat_natCast] at hx14
    refine ql_r (r_ldw rfl (fun w1 hb1 hs1 hB1 => Rd.loads hx ty42 hx14 hb1)) rfl ?_
    refine ql_r (r_eqs rfl rfl (by kernel_rfl) (fun w => run_eqs (by kernel_rfl) (by kernel_rfl) w)) rfl ?_
    refine ql_nil (to_k0 (fun _ _ h => h) (hK9 _ _ _ _ _ ?_))
    clear hK9
    first | refine wp_condD rfl (fun hc16 => ?_) (fun hc16 => ?_) | refine wp_condN rfl (fun hc16 => ?_) (fun hc16 => ?_) | refine wp_condNB rfl (fun hc16 => ?_) (fun hc16 => ?_) | refine wp_cond' rfl (fun hc16 => ?_) (fun hc16 => ?_)
    ·refine wp_seq' fun K10 hK10 => ?_
     refine wp_reg ?_
     refine ol_r (r_move rfl) rfl ?_
     refine ol_r (r_assign rfl) rfl ?_
     refine ol_nil (to_k0 (fun _ _ h => h) (hK10 _ _ _ _ _ ?_))
     clear hK10
     refine hQ.ret (rvs1 (rv_t rfl)) (fun _ _ h => h) fun w hb hs hB hkd => ?_
     exact ⟨⟨_, rfl, by omega⟩, hb⟩
    ·refine wp_skip' (to_k0 (fun _ _ h => h) (hK7 _ _ _ _ _ ?_))
     clear hK7
     refine wp_reg ?_
     refine ol_r (r_add rfl rfl (by omega)) rfl ?_
     refine ol_r (r_move rfl) rfl ?_
     refine ol_nil (to_k0 (fun _ _ h => h) (hK4 (k + 1) _ _ ?_ ?_ (sub_cons rfl sub_nil) (sub_cons rfl (sub_cons rfl (sub_cons rfl sub_nil))) (by exact subH_nil) (subH_same rfl subH_nil)))
     ·try dsimp only
      by_cases hkj : k = j
      · subst hkj
        rw [hj] at hx14
        cases hx14
        rw [tile_ne] at hc16
        simp at hc16
      · omega
     ·try dsimp only
      omega
   ·refine wp_exit' (to_k0 (fun _ _ h => h) (hK2 _ _ _ _ _ ?_))
    clear hK2
    refine wp_seq' fun K11 hK11 => ?_
    refine wp_reg ?_
    refine ol_r (r_assign rfl) rfl ?_
    refine ol_nil (to_k0 (fun _ _ h => h) (hK11 _ _ _ _ _ ?_))
    clear hK11
    refine hQ.ret (rvs1 (rv_t rfl)) (fun _ _ h => h) fun w hb hs hB hkd => ?_
    exfalso; omega
theorem contains_tile (a : Option Addr) (n c : Nat) (xs : List TileR) (v : TileR) (w : World) (hx : Rd encTile w.heap.size w a n c xs) (hm : v ∈ xs) :
    Calls Try.prog 19 #[.slice a n c, encTile.val v] w fun e w' => e = .returned (.bool true) ∧ Below w.heap.size w w' := by
  refine enterQ (N := 9) (C := fun _ => True) (H := []) (B := w.heap.size) (args := [_, _]) Try.func19 rfl rfl rfl (Nat.le_refl _) (Sat.nil _ _) fun Q hQ => ?_
  refine wp_seq' fun K1 hK1 => ?_
  refine wp_reg ?_
  refine ol_box 3 rfl rfl rfl fun b3 => ?_
  refine ol_r (r_assign rfl) rfl ?_
  refine ol_nil (to_k0 (fun _ _ h => h) (hK1 _ _ _ _ _ ?_))
  clear hK1
  refine wp_seq' fun K2 hK2 => ?_
  refine wp_reg ?_
  refine ol_r (r_move rfl) rfl ?_
  refine ol_r (r_lda (id := 3) (n := 2) rfl rfl rfl ag42) rfl ?_
  refine ol_call rfl rfl cb64 rfl (fun w1 hb1 hs1 hB1 => ?_)
  refine Calls.mono (index_tile _ _ _ xs v _ (hx.at hb1 hB1) hm) ?_
  rintro e w2 ⟨⟨k, rfl, hk⟩, hb2⟩
  refine After.below rfl hb1 hs1 hB1 hb2 ?_
  clear hb2 hB1 hs1 hb1 w2 w1
  refine ol_r (r_geq rfl rfl) rfl ?_
  refine ol_r (r_assign rfl) rfl ?_
  refine ol_nil (to_k0 (fun _ _ h => h) (hK2 _ _ _ _ _ ?_))
  clear hK2
  refine hQ.ret (rvs1 (rv_t rfl)) (fun _ _ h => h) fun w hb hs hB hkd => ?_
  exact ⟨by rw [show decide (k ≥ 0) = true from decide_eq_true hk], hb⟩
theorem cellOfR_ok {x y side : Int} (h : (-100000000 ≤ x ∧ x ≤ 100000000) ∧ (-100000000 ≤ y ∧ y ≤ 100000000)) (hs : inB side 1 10000000 = true) : cellOfR x y side = (cellR x y side, 0) := by
  rw [cellOfR, if_neg]
  have : ptB x y = true := by unfold ptB; rw [inB_iff.2 h.1, inB_iff.2 h.2]; rfl
  rw [hs, this]; simp
theorem law_seen (A : ActV) (side : Int) (w : World) (hA : A.Ok w.heap.size w) :
    Calls Try.prog 5 #[.agg #[.string A.name, .int .i64 A.sport, .int .i64 A.start, .slice A.sa A.sn A.sc, .slice A.la A.ln A.lc, .slice A.ta A.tn A.tc], .int .i64 side] w fun e w' => e = .returned (.bool true) ∧ Below w.heap.size w w' := by
  have hsn := hA.s.len
  have hsf := hA.s.fit
  obtain ⟨sd2, hsd2⟩ : ∃ k, IntKind.i64.wrap (2 * side) = k := ⟨_, rfl⟩
  obtain ⟨l, hl⟩ : ∃ l, l = (tilesR A.d side).1 := ⟨_, rfl⟩
  obtain ⟨m, hm⟩ : ∃ m, m = (tilesR A.d sd2).1 := ⟨_, rfl⟩
  refine enterQ (N := 102) (C := fun _ => True) (H := []) (B := w.heap.size) (args := [_, _]) Try.func5 rfl rfl rfl (Nat.le_refl _) (Sat.nil _ _) fun Q hQ => ?_
  refine wp_seq' fun K1 hK1 => ?_
  refine wp_reg ?_
  refine ol_box 2 rfl rfl rfl fun b2 => ?_
  refine ol_r (r_assign rfl) rfl ?_
  refine ol_nil (to_k0 (fun _ _ h => h) (hK1 _ _ _ _ _ ?_))
  clear hK1
  refine wp_seq' fun K2 hK2 => ?_
  refine wp_reg ?_
  refine ol_r (r_lda (id := 2) (n := 6) rfl rfl rfl ag39) rfl ?_
  refine ol_r (r_move rfl) rfl ?_
  refine ol_call rfl rfl cb16 rfl (fun w1 hb1 hs1 hB1 => Calls.mono (match_Tiles A side _ (hA.at hb1 hB1)) ?_)
  rintro e w2 ⟨a22, n22, c22, rfl, hf22⟩
  refine After.fresh (id := 22) rfl hb1 hs1 hB1 hf22 ?_
  have hl22 := hf22.len; clear hf22 hB1 hs1 hb1 w2 w1
  refine ol_r (r_move rfl) rfl ?_
  refine ol_r (r_extract rfl rfl) rfl ?_
  refine ol_r (r_extract rfl rfl) rfl ?_
  refine ol_r (r_assign rfl) rfl ?_
  refine ol_r (r_assign rfl) rfl ?_
  refine ol_nil (to_k0 (fun _ _ h => h) (hK2 _ _ _ _ _ ?_))
  clear hK2
  refine wp_seq' fun K3 hK3 => ?_
  refine wp_reg ?_
  refine ol_r (r_lda (id := 2) (n := 6) rfl rfl rfl ag39) rfl ?_
  refine ol_r (r_move rfl) rfl ?_
  refine ol_r (r_mulg sd2 rfl rfl hsd2) rfl ?_
  refine ol_call rfl rfl cb16 rfl (fun w1 hb1 hs1 hB1 => Calls.mono (match_Tiles A sd2 _ (hA.at hb1 hB1)) ?_)
  rintro e w2 ⟨a29, n29, c29, rfl, hf29⟩
  refine After.fresh (id := 29) rfl hb1 hs1 hB1 hf29 ?_
  have hl29 := hf29.len; clear hf29 hB1 hs1 hb1 w2 w1
  refine ol_r (r_move rfl) rfl ?_
  refine ol_r (r_extract rfl rfl) rfl ?_
  refine ol_r (r_extract rfl rfl) rfl ?_
  refine ol_r (r_assign rfl) rfl ?_
  refine ol_r (r_assign rfl) rfl ?_
  refine ol_nil (to_k0 (fun _ _ h => h) (hK3 _ _ _ _ _ ?_))
  clear hK3
  refine wp_seq' fun K4 hK4 => ?_
  refine wp_seq' fun K5 hK5 => ?_
  refine wp_reg ?_
  refine ol_r (r_move rfl) rfl ?_
  refine ol_r (r_neq rfl rfl) rfl ?_
  refine ol_r (r_move rfl) rfl ?_
  refine ol_split (d := 34) rfl (fun hs34 => ?_) (fun hs34 => ?_)
  ·have phs34 := hs34; try simp only [decide_eq_true_eq, decide_eq_false_iff_not, Bool.not_eq_true', Bool.not_eq_false', Bool.not_true, Bool.not_false] at phs34
   refine ol_s rfl rfl hs34 rfl ?_
   refine ol_s rfl rfl hs34 rfl ?_
   refine ol_r (r_pickT rfl hs34 rfl) rfl ?_
   refine ol_nil (to_k0 (fun _ _ h => h) (hK5 _ _ _ _ _ ?_))
   clear hK5
   refine wp_condT rfl ?_
   refine wp_seq' fun K6 hK6 => ?_
   refine wp_reg ?_
   refine ol_call rfl rfl cb13 rfl (fun w1 hb1 hs1 hB1 => Calls.mono (law5_told _) ?_)
   rintro e w2 ⟨rfl, hb2⟩
   refine After.below rfl hb1 hs1 hB1 hb2 ?_
   clear hb2 hB1 hs1 hb1 w2 w1
   refine ol_r (r_assign rfl) rfl ?_
   refine ol_nil (to_k0 (fun _ _ h => h) (hK6 _ _ _ _ _ ?_))
   clear hK6
   refine hQ.ret (rvs1 (rv_t rfl)) (fun _ _ h => h) fun w hb hs hB hkd => ?_
   first
     | exact ⟨rfl, hb⟩
     | (exfalso; exact phs58 rfl)
     | (exfalso; cases hc63; done)
     | (exfalso; rw [hD, List.take_of_length_le (by omega), hlen.1 x87 (List.mem_of_getElem? hx87)] at hc92; cases hc92; done)
     | (exfalso; rw [hD, List.take_of_length_le (by omega), hlen.2, hl29] at phs99; exact phs99 rfl)
  ·have phs34 := hs34; try simp only [decide_eq_true_eq, decide_eq_false_iff_not, Bool.not_eq_true', Bool.not_eq_false', Bool.not_true, Bool.not_false] at phs34
   refine ol_g rfl rfl hs34 ?_
   refine ol_r (r_move rfl) rfl ?_
   refine ol_g rfl rfl hs34 ?_
   refine ol_r (r_neq rfl rfl) rfl ?_
   refine ol_r (r_pickF rfl hs34 rfl) rfl ?_
   refine ol_nil (to_k0 (fun _ _ h => h) (hK5 _ _ _ _ _ ?_))
   clear hK5
   first | refine wp_condD rfl (fun hc37 => ?_) (fun hc37 => ?_) | refine wp_condN rfl (fun hc37 => ?_) (fun hc37 => ?_) | refine wp_condNB rfl (fun hc37 => ?_) (fun hc37 => ?_) | refine wp_cond' rfl (fun hc37 => ?_) (fun hc37 => ?_)
   ·refine wp_seq' fun K7 hK7 => ?_
    refine wp_reg ?_
    refine ol_call rfl rfl cb13 rfl (fun w1 hb1 hs1 hB1 => Calls.mono (law5_told _) ?_)
    rintro e w2 ⟨rfl, hb2⟩
    refine After.below rfl hb1 hs1 hB1 hb2 ?_
    clear hb2 hB1 hs1 hb1 w2 w1
    refine ol_r (r_assign rfl) rfl ?_
    refine ol_nil (to_k0 (fun _ _ h => h) (hK7 _ _ _ _ _ ?_))
    clear hK7
    refine hQ.ret (rvs1 (rv_t rfl)) (fun _ _ h => h) fun w hb hs hB hkd => ?_
    first
      | exact ⟨rfl, hb⟩
      | (exfalso; exact phs58 rfl)
      | (exfalso; cases hc63; done)
      | (exfalso; rw [hD, List.take_of_length_le (by omega), hlen.1 x87 (List.mem_of_getElem? hx87)] at hc92; cases hc92; done)
      | (exfalso; rw [hD, List.take_of_length_le (by omega), hlen.2, hl29] at phs99; exact phs99 rfl)
   ·refine wp_skip' (to_k0 (fun _ _ h => h) (hK4 _ _ _ _ _ ?_))
    clear hK4
    refine wp_seq' fun K8 hK8 => ?_
    refine wp_seq' fun K9 hK9 => ?_
    refine wp_reg ?_
    have h1 : (tilesR A.d side).2 = 0 := by omega
    have h2 : (tilesR A.d sd2).2 = 0 := by omega
    have t1 := tilesR_ok h1
    have t2 := tilesR_ok h2
    have hs1' := inB_iff.1 t1.2.1
    obtain rfl : 2 * side = sd2 := by rw [← hsd2]; exact (IntWalk.i64_in _ (by omega)).symm
    have hS : SeenOk A.d side := ⟨goodA t1.1, t1.2.1, t2.2.1, t1.2.2.1, t2.2.2.1⟩
    have hok := hS.good.smp
    have hlS : l = sortL tlt (pKeys (atT A.d.ss side)) := hl.trans t1.2.2.2
    have hmS : m = sortL tlt (pKeys (atT A.d.ss (2 * side))) := hm.trans t2.2.2.2
    rw [← hl] at hl22 ⊢
    rw [← hm] at hl29 ⊢
    have hlen := hS.len hlS hmS
    have hq1 : l.length ≤ 100000 := by rw [hlS, sortL_len, keys_len]; exact t1.2.2.1
    have hq2 : m.length ≤ 100000 := by rw [hmS, sortL_len, keys_len]; exact t2.2.2.1
    refine ol_r (r_fa (o' := 3) rfl fl39_3 rfl) rfl ?_
    refine ol_r (r_ld (id := 2) rfl rfl rfl sc35) rfl ?_
    refine ol_r (r_len rfl sl35) rfl ?_
    refine ol_r (r_move rfl) rfl ?_
    refine ol_nil (to_k0 (fun _ _ h => h) (hK9 _ _ _ _ _ ?_))
    clear hK9
    refine wp_block' ?_
    apply wp_loopM (σ := Nat) (fun s => s ≤ A.ss.length) (fun s => [(42, .int .i64 s)]) [(1, _), (5, _), (7, _), (40, _), (41, _)] (fun s => []) [(2, _), (22, _), (29, _)] (fun s => A.ss.length - s) (0)
    ·try dsimp only
     omega
    ·exact (sub_cons rfl sub_nil)
    ·exact (sub_cons rfl (sub_cons rfl (sub_cons rfl (sub_cons rfl (sub_cons rfl sub_nil)))))
    ·exact subH_nil
    ·exact (subH_same rfl (subH_same rfl (subH_same rfl subH_nil)))
    ·rintro k hk
     intro K10 hK10
     refine wp_seq' fun K11 hK11 => ?_
     refine wp_reg ?_
     refine ol_r (r_lss rfl rfl) rfl ?_
     refine ol_nil (to_k0 (fun _ _ h => h) (hK11 _ _ _ _ _ ?_))
     clear hK11
     refine wp_seq' fun K12 hK12 => ?_
     first | refine wp_condD rfl (fun hc43 => ?_) (fun hc43 => ?_) | refine wp_condN rfl (fun hc43 => ?_) (fun hc43 => ?_) | refine wp_condNB rfl (fun hc43 => ?_) (fun hc43 => ?_) | refine wp_cond' rfl (fun hc43 => ?_) (fun hc43 => ?_)
     ·refine wp_skip' (to_k0 (fun _ _ h => h) (hK12 _ _ _ _ _ ?_))
      clear hK12
      refine wp_seq' fun K13 hK13 => ?_
      refine wp_block' ?_
      refine wp_seq' fun K14 hK14 => ?_
      refine wp_reg ?_
      refine ol_ixr hA.s rfl rfl sl35 (by omega) rfl fun x44 hx44 => ?_
      try simp only [Int.toNat_natCast] at hx44
      refine ol_r (r_ldw rfl (fun w1 hb1 hs1 hB1 => Rd.loads hA.s ty51 hx44 hb1)) rfl ?_
      refine ol_alloc 10 z51 rfl fun b10 => ?_
      refine ol_store (id := 10) rfl rfl rfl rfl sz51 rfl rfl (by first | decide | exact Nat.zero_lt_succ _ | simp) ?_
      refine ol_nil (to_k0 (fun _ _ h => h) (hK14 _ _ _ _ _ ?_))
      clear hK14
      refine wp_seq' fun K15 hK15 => ?_
      refine wp_reg ?_
      refine ol_r (r_fa (o' := 1) rfl fl51_1 rfl) rfl ?_
      refine ol_r (r_ld (id := 10) rfl rfl rfl sc3) rfl ?_
      refine ol_r (r_fa (o' := 2) rfl fl51_2 rfl) rfl ?_
      refine ol_r (r_ld (id := 10) rfl rfl rfl sc3) rfl ?_
      refine ol_r (r_build rfl (fun _ => bd41_0_1 _ _ _)) rfl ?_
      refine ol_r (r_move rfl) rfl ?_
      refine ol_call rfl rfl cb14 rfl (fun w1 hb1 hs1 hB1 => Calls.mono (match_CellOf x44.x x44.y side _) ?_)
      rintro e w2 ⟨rfl, hb2⟩
      refine After.below rfl hb1 hs1 hB1 hb2 ?_
      clear hb2 hB1 hs1 hb1 w2 w1
      refine ol_r (r_move rfl) rfl ?_
      refine ol_r (r_extract rfl rfl) rfl ?_
      refine ol_r (r_extract rfl rfl) rfl ?_
      refine ol_alloc 11 z42 rfl fun b11 => ?_
      refine ol_store (id := 11) rfl rfl rfl rfl sz42 rfl rfl (by first | decide | exact Nat.zero_lt_succ _ | simp) ?_
      refine ol_r (r_assign rfl) rfl ?_
      refine ol_nil (to_k0 (fun _ _ h => h) (hK15 _ _ _ _ _ ?_))
      clear hK15
      refine wp_seq' fun K16 hK16 => ?_
      refine wp_reg ?_
      have hcell := cellOfR_ok (hok.place (List.mem_of_getElem? hx44)) t1.2.1
      rw [hcell]
      have hin : cellR x44.x x44.y side ∈ l := by rw [hlS, (sortL_perm _).mem_iff]; exact hS.cell hx44
      refine ol_r (r_move rfl) rfl ?_
      refine ol_r (r_neq rfl rfl) rfl ?_
      refine ol_r (r_move rfl) rfl ?_
      refine ol_split (d := 58) rfl (fun hs58 => ?_) (fun hs58 => ?_)
      ·have phs58 := hs58; try simp only [decide_eq_true_eq, decide_eq_false_iff_not, Bool.not_eq_true', Bool.not_eq_false', Bool.not_true, Bool.not_false] at phs58
       refine ol_s rfl rfl hs58 rfl ?_
       refine ol_s rfl rfl hs58 rfl ?_
       refine ol_s rfl rfl hs58 rfl ?_
       refine ol_s rfl rfl hs58 rfl ?_
       refine ol_r (r_pickT rfl hs58 rfl) rfl ?_
       refine ol_nil (to_k0 (fun _ _ h => h) (hK16 _ _ _ _ _ ?_))
       clear hK16
       refine wp_condT rfl ?_
       refine wp_seq' fun K17 hK17 => ?_
       refine wp_reg ?_
       refine ol_r (r_assign rfl) rfl ?_
       refine ol_nil (to_k0 (fun _ _ h => h) (hK17 _ _ _ _ _ ?_))
       clear hK17
       refine hQ.ret (rvs1 (rv_t rfl)) (fun _ _ h => h) fun w hb hs hB hkd => ?_
       first
         | exact ⟨rfl, hb⟩
         | (exfalso; exact phs58 rfl)
         | (exfalso; cases hc63; done)
         | (exfalso; rw [hD, List.take_of_length_le (by omega), hlen.1 x87 (List.mem_of_getElem? hx87)] at hc92; cases hc92; done)
         | (exfalso; rw [hD, List.take_of_length_le (by omega), hlen.2, hl29] at phs99; exact phs99 rfl)
      ·have phs58 := hs58; try simp only [decide_eq_true_eq, decide_eq_false_iff_not, Bool.not_eq_true', Bool.not_eq_false', Bool.not_true, Bool.not_false] at phs58
       refine ol_g rfl rfl hs58 ?_
       refine ol_r (r_move rfl) rfl ?_
       refine ol_g rfl rfl hs58 ?_
       refine ol_r (r_lda (id := 11) (n := 2) rfl rfl rfl ag42) rfl ?_
       refine ol_g rfl rfl hs58 ?_
       refine ol_call rfl rfl cb19 rfl (fun w1 hb1 hs1 hB1 => Calls.mono (contains_tile _ _ _ l _ _ (Sat.rd hs1 (E := encTile) (id := 22) rfl rfl) hin) ?_)
       rintro e w2 ⟨rfl, hb2⟩
       refine After.below rfl hb1 hs1 hB1 hb2 ?_
       clear hb2 hB1 hs1 hb1 w2 w1
       refine ol_g rfl rfl hs58 ?_
       refine ol_r (r_not rfl) rfl ?_
       refine ol_r (r_pickF rfl hs58 rfl) rfl ?_
       refine ol_nil (to_k0 (fun _ _ h => h) (hK16 _ _ _ _ _ ?_))
       clear hK16
       first | refine wp_condD rfl (fun hc63 => ?_) (fun hc63 => ?_) | refine wp_condN rfl (fun hc63 => ?_) (fun hc63 => ?_) | refine wp_condNB rfl (fun hc63 => ?_) (fun hc63 => ?_) | refine wp_cond' rfl (fun hc63 => ?_) (fun hc63 => ?_)
       ·refine wp_seq' fun K18 hK18 => ?_
        refine wp_reg ?_
        refine ol_r (r_assign rfl) rfl ?_
        refine ol_nil (to_k0 (fun _ _ h => h) (hK18 _ _ _ _ _ ?_))
        clear hK18
        refine hQ.ret (rvs1 (rv_t rfl)) (fun _ _ h => h) fun w hb hs hB hkd => ?_
        first
          | exact ⟨rfl, hb⟩
          | (exfalso; exact phs58 rfl)
          | (exfalso; cases hc63; done)
          | (exfalso; rw [hD, List.take_of_length_le (by omega), hlen.1 x87 (List.mem_of_getElem? hx87)] at hc92; cases hc92; done)
          | (exfalso; rw [hD, List.take_of_length_le (by omega), hlen.2, hl29] at phs99; exact phs99 rfl)
       ·refine wp_skip' (to_k0 (fun _ _ h => h) (hK13 _ _ _ _ _ ?_))
        clear hK13
        refine wp_reg ?_
        refine ol_r (r_add rfl rfl (by omega)) rfl ?_
        refine ol_r (r_move rfl) rfl ?_
        refine ol_nil (to_k0 (fun _ _ h => h) (hK10 (k + 1) _ _ ?_ ?_ (sub_cons rfl sub_nil) (sub_cons rfl (sub_cons rfl (sub_cons rfl (sub_cons rfl (sub_cons rfl sub_nil))))) (by exact subH_nil) (subH_same rfl (subH_same rfl (subH_same rfl subH_nil)))))
        ·try dsimp only
         omega
        ·try dsimp only
         omega
     ·refine wp_exit' (to_k0 (fun _ _ h => h) (hK8 _ _ _ _ _ ?_))
      clear hK8
      refine wp_seq' fun K19 hK19 => ?_
      refine wp_reg ?_
      refine ol_r (r_assign rfl) rfl ?_
      refine ol_nil (to_k0 (fun _ _ h => h) (hK19 _ _ _ _ _ ?_))
      clear hK19
      refine wp_seq' fun K20 hK20 => ?_
      refine wp_reg ?_
      refine ol_mkmapE (encTile.val) (Value.bool) 65 rfl fun b65 => ?_
      refine ol_r (r_assign rfl) rfl ?_
      refine ol_nil (to_k0 (fun _ _ h => h) (hK20 _ _ _ _ _ ?_))
      clear hK20
      refine wp_seq' fun K21 hK21 => ?_
      refine wp_seq' fun K22 hK22 => ?_
      refine wp_reg ?_
      refine ol_r (r_move rfl) rfl ?_
      refine ol_r (r_len rfl sl45) rfl ?_
      refine ol_r (r_move rfl) rfl ?_
      refine ol_nil (to_k0 (fun _ _ h => h) (hK22 _ _ _ _ _ ?_))
      clear hK22
      refine wp_block' ?_
      apply wp_loopM (σ := Nat × TM) (fun s => s.1 ≤ n22 ∧ s.2 = halfD (l.take s.1)) (fun s => [(68, .int .i64 s.1)]) [(7, _), (13, _), (14, _), (66, _), (67, _)] (fun s => [(65, .ob b65 (MapO (pEnc encTile.val Value.bool s.2)))]) [(2, _), (22, _), (29, _)] (fun s => n22 - s.1) ((0, []))
      ·try dsimp only
       exact ⟨Nat.zero_le _, rfl⟩
      ·exact (sub_cons rfl sub_nil)
      ·exact (sub_cons rfl (sub_cons rfl (sub_cons rfl (sub_cons rfl (sub_cons rfl sub_nil)))))
      ·exact (subH_same rfl subH_nil)
      ·exact (subH_same rfl (subH_same rfl (subH_same rfl subH_nil)))
      ·rintro ⟨k, D⟩ ⟨hk, hD⟩
       dsimp only at hk hD ⊢
       intro K23 hK23
       refine wp_seq' fun K24 hK24 => ?_
       refine wp_reg ?_
       refine ol_r (r_lss rfl rfl) rfl ?_
       refine ol_nil (to_k0 (fun _ _ h => h) (hK24 _ _ _ _ _ ?_))
       clear hK24
       refine wp_seq' fun K25 hK25 => ?_
       first | refine wp_condD rfl (fun hc69 => ?_) (fun hc69 => ?_) | refine wp_condN rfl (fun hc69 => ?_) (fun hc69 => ?_) | refine wp_condNB rfl (fun hc69 => ?_) (fun hc69 => ?_) | refine wp_cond' rfl (fun hc69 => ?_) (fun hc69 => ?_)
       ·refine wp_skip' (to_k0 (fun _ _ h => h) (hK25 _ _ _ _ _ ?_))
        clear hK25
        refine wp_seq' fun K26 hK26 => ?_
        refine wp_block' ?_
        refine wp_seq' fun K27 hK27 => ?_
        refine wp_reg ?_
        refine ol_ixo (id := 22) encTile _ rfl rfl rfl rfl sl45 (by omega) rfl fun x70 hx70 => ?_
        try simp only [Int.toNat_natCast] at hx70
        try simp only [Int.toNat_natCast] at hx70
        refine ol_r (r_ldw rfl (fun w1 hb1 hs1 hB1 => ld_own (id := 22) hs1 rfl rfl ty42 hx70)) rfl ?_
        refine ol_alloc 16 z42 rfl fun b16 => ?_
        refine ol_store (id := 16) rfl rfl rfl rfl sz42 rfl rfl (by first | decide | exact Nat.zero_lt_succ _ | simp) ?_
        refine ol_nil (to_k0 (fun _ _ h => h) (hK27 _ _ _ _ _ ?_))
        clear hK27
        refine wp_regqt 10 (by kernel_rfl) (by kernel_rfl) ?_
        simp only [List.take_succ_cons, List.take_zero, List.drop_succ_cons, List.drop_zero]
        have hbd := hS.bd (t := x70) (by rw [← (sortL_perm _).mem_iff, ← hlS]; exact List.mem_of_getElem? hx70)
        refine ql_r (r_move rfl) rfl ?_
        refine ql_r (r_move rfl) rfl ?_
        refine ql_r (r_fa (o' := 0) rfl fl42_0 rfl) rfl ?_
        refine ql_r (r_ld (id := 16) rfl rfl rfl sc3) rfl ?_
        refine ql_call rfl rfl cb20 rfl (fun w1 hb1 hs1 hB1 => law5_half _ _ (by omega)) ?_
        refine ql_r (r_move rfl) rfl ?_
        refine ql_r (r_fa (o' := 1) rfl fl42_1 rfl) rfl ?_
        refine ql_r (r_ld (id := 16) rfl rfl rfl sc3) rfl ?_
        refine ql_call rfl rfl cb20 rfl (fun w1 hb1 hs1 hB1 => law5_half _ _ (by omega)) ?_
        refine ql_r (r_build rfl (fun _ => bd42_0_1 _ _ _)) rfl ?_
        refine ql_tail ?_
        refine ol_mapset (K := encTile.val) (V := Value.bool) (z := false) (k := halfT x70) (id := 65) rfl rfl rfl rfl mk54 trivial ?_
        refine ol_nil (to_k0 (fun _ _ h => h) (hK26 _ _ _ _ _ ?_))
        clear hK26
        refine wp_reg ?_
        refine ol_r (r_add rfl rfl (by omega)) rfl ?_
        refine ol_r (r_move rfl) rfl ?_
        refine ol_nil (to_k0 (fun _ _ h => h) (hK23 ((k + 1, pS D (halfT x70) true)) _ _ ?_ ?_ (sub_cons rfl sub_nil) (sub_cons rfl (sub_cons rfl (sub_cons rfl (sub_cons rfl (sub_cons rfl sub_nil))))) (by exact (subH_same rfl subH_nil)) (subH_same rfl (subH_same rfl (subH_same rfl subH_nil)))))
        ·try dsimp only
         exact ⟨by omega, by rw [hD]; exact halfD_take hx70⟩
        ·try dsimp only
         omega
       ·refine wp_exit' (to_k0 (fun _ _ h => h) (hK21 _ _ _ _ _ ?_))
        clear hK21
        refine wp_seq' fun K28 hK28 => ?_
        refine wp_seq' fun K29 hK29 => ?_
        refine wp_reg ?_
        refine ol_r (r_move rfl) rfl ?_
        refine ol_r (r_len rfl sl45) rfl ?_
        refine ol_r (r_move rfl) rfl ?_
        refine ol_nil (to_k0 (fun _ _ h => h) (hK29 _ _ _ _ _ ?_))
        clear hK29
        refine wp_block' ?_
        apply wp_loopM (σ := Nat) (fun s => s ≤ n29) (fun s => [(85, .int .i64 s)]) [(7, _), (14, _), (83, _), (84, _)] (fun s => []) [(2, _), (22, _), (29, _), (65, _)] (fun s => n29 - s) (0)
        ·try dsimp only
         omega
        ·exact (sub_cons rfl sub_nil)
        ·exact (sub_cons rfl (sub_cons rfl (sub_cons rfl (sub_cons rfl sub_nil))))
        ·exact subH_nil
        ·exact (subH_same rfl (subH_same rfl (subH_same rfl (subH_same rfl subH_nil))))
        ·rintro k3 hk3
         intro K30 hK30
         refine wp_seq' fun K31 hK31 => ?_
         refine wp_reg ?_
         refine ol_r (r_lss rfl rfl) rfl ?_
         refine ol_nil (to_k0 (fun _ _ h => h) (hK31 _ _ _ _ _ ?_))
         clear hK31
         refine wp_seq' fun K32 hK32 => ?_
         first | refine wp_condD rfl (fun hc86 => ?_) (fun hc86 => ?_) | refine wp_condN rfl (fun hc86 => ?_) (fun hc86 => ?_) | refine wp_condNB rfl (fun hc86 => ?_) (fun hc86 => ?_) | refine wp_cond' rfl (fun hc86 => ?_) (fun hc86 => ?_)
         ·refine wp_skip' (to_k0 (fun _ _ h => h) (hK32 _ _ _ _ _ ?_))
          clear hK32
          refine wp_seq' fun K33 hK33 => ?_
          refine wp_block' ?_
          refine wp_seq' fun K34 hK34 => ?_
          refine wp_reg ?_
          refine ol_ixo (id := 29) encTile _ rfl rfl rfl rfl sl45 (by omega) rfl fun x87 hx87 => ?_
          try simp only [Int.toNat_natCast] at hx87
          try simp only [Int.toNat_natCast] at hx87
          refine ol_r (r_ldw rfl (fun w1 hb1 hs1 hB1 => ld_own (id := 29) hs1 rfl rfl ty42 hx87)) rfl ?_
          refine ol_alloc 18 z42 rfl fun b18 => ?_
          refine ol_store (id := 18) rfl rfl rfl rfl sz42 rfl rfl (by first | decide | exact Nat.zero_lt_succ _ | simp) ?_
          refine ol_nil (to_k0 (fun _ _ h => h) (hK34 _ _ _ _ _ ?_))
          clear hK34
          refine wp_seq' fun K35 hK35 => ?_
          refine wp_reg ?_
          refine ol_r (r_move rfl) rfl ?_
          refine ol_r (r_lda (id := 18) (n := 2) rfl rfl rfl ag42) rfl ?_
          refine ol_r (r_look1 (K := encTile.val) (V := Value.bool) (z := false) (id := 65) rfl rfl rfl mk54) rfl ?_
          refine ol_r (r_not rfl) rfl ?_
          refine ol_nil (to_k0 (fun _ _ h => h) (hK35 _ _ _ _ _ ?_))
          clear hK35
          first | refine wp_condD rfl (fun hc92 => ?_) (fun hc92 => ?_) | refine wp_condN rfl (fun hc92 => ?_) (fun hc92 => ?_) | refine wp_condNB rfl (fun hc92 => ?_) (fun hc92 => ?_) | refine wp_cond' rfl (fun hc92 => ?_) (fun hc92 => ?_)
          ·refine wp_seq' fun K36 hK36 => ?_
           refine wp_reg ?_
           refine ol_r (r_assign rfl) rfl ?_
           refine ol_nil (to_k0 (fun _ _ h => h) (hK36 _ _ _ _ _ ?_))
           clear hK36
           refine hQ.ret (rvs1 (rv_t rfl)) (fun _ _ h => h) fun w hb hs hB hkd => ?_
           first
             | exact ⟨rfl, hb⟩
             | (exfalso; exact phs58 rfl)
             | (exfalso; cases hc63; done)
             | (exfalso; rw [hD, List.take_of_length_le (by omega), hlen.1 x87 (List.mem_of_getElem? hx87)] at hc92; cases hc92; done)
             | (exfalso; rw [hD, List.take_of_length_le (by omega), hlen.2, hl29] at phs99; exact phs99 rfl)
          ·refine wp_skip' (to_k0 (fun _ _ h => h) (hK33 _ _ _ _ _ ?_))
           clear hK33
           refine wp_reg ?_
           refine ol_r (r_add rfl rfl (by omega)) rfl ?_
           refine ol_r (r_move rfl) rfl ?_
           refine ol_nil (to_k0 (fun _ _ h => h) (hK30 (k3 + 1) _ _ ?_ ?_ (sub_cons rfl sub_nil) (sub_cons rfl (sub_cons rfl (sub_cons rfl (sub_cons rfl sub_nil)))) (by exact subH_nil) (subH_same rfl (subH_same rfl (subH_same rfl (subH_same rfl subH_nil))))))
           ·try dsimp only
            omega
           ·try dsimp only
            omega
         ·refine wp_exit' (to_k0 (fun _ _ h => h) (hK28 _ _ _ _ _ ?_))
          clear hK28
          refine wp_seq' fun K37 hK37 => ?_
          refine wp_reg ?_
          refine ol_r (r_move rfl) rfl ?_
          refine ol_r (r_mlen (K := encTile.val) (V := Value.bool) (z := false) (id := 65) rfl rfl mk54) rfl ?_
          refine ol_r (r_move rfl) rfl ?_
          refine ol_r (r_len rfl sl45) rfl ?_
          refine ol_r (r_eql rfl rfl) rfl ?_
          refine ol_r (r_move rfl) rfl ?_
          refine ol_split (d := 99) rfl (fun hs99 => ?_) (fun hs99 => ?_)
          ·have phs99 := hs99; try simp only [decide_eq_true_eq, decide_eq_false_iff_not, Bool.not_eq_true', Bool.not_eq_false', Bool.not_true, Bool.not_false] at phs99
           refine ol_g rfl rfl hs99 ?_
           refine ol_call rfl rfl cb13 rfl (fun w1 hb1 hs1 hB1 => Calls.mono (law5_told _) ?_)
           rintro e w2 ⟨rfl, hb2⟩
           refine After.below rfl hb1 hs1 hB1 hb2 ?_
           clear hb2 hB1 hs1 hb1 w2 w1
           refine ol_r (r_pickT rfl hs99 rfl) rfl ?_
           refine ol_r (r_assign rfl) rfl ?_
           refine ol_nil (to_k0 (fun _ _ h => h) (hK37 _ _ _ _ _ ?_))
           clear hK37
           refine hQ.ret (rvs1 (rv_t rfl)) (fun _ _ h => h) fun w hb hs hB hkd => ?_
           first
             | exact ⟨rfl, hb⟩
             | (exfalso; exact phs58 rfl)
             | (exfalso; cases hc63; done)
             | (exfalso; rw [hD, List.take_of_length_le (by omega), hlen.1 x87 (List.mem_of_getElem? hx87)] at hc92; cases hc92; done)
             | (exfalso; rw [hD, List.take_of_length_le (by omega), hlen.2, hl29] at phs99; exact phs99 rfl)
          ·have phs99 := hs99; try simp only [decide_eq_true_eq, decide_eq_false_iff_not, Bool.not_eq_true', Bool.not_eq_false', Bool.not_true, Bool.not_false] at phs99
           refine ol_s rfl rfl hs99 rfl ?_
           refine ol_r (r_pickF rfl hs99 rfl) rfl ?_
           refine ol_r (r_assign rfl) rfl ?_
           refine ol_nil (to_k0 (fun _ _ h => h) (hK37 _ _ _ _ _ ?_))
           clear hK37
           refine hQ.ret (rvs1 (rv_t rfl)) (fun _ _ h => h) fun w hb hs hB hkd => ?_
           first
             | exact ⟨rfl, hb⟩
             | (exfalso; exact phs58 rfl)
             | (exfalso; cases hc63; done)
             | (exfalso; rw [hD, List.take_of_length_le (by omega), hlen.1 x87 (List.mem_of_getElem? hx87)] at hc92; cases hc92; done)
             | (exfalso; rw [hD, List.take_of_length_le (by omega), hlen.2, hl29] at phs99; exact phs99 rfl)
end Go.Proofs.Ytjflbnbofedlkaa
