/-
  Beats: program and reference; the laws of merges.
-/
import Derived.Test.YtafkojlccknicaaMerge3
import Derived.Test.YtafkojlccknicaaSlices
import Derived.Test.YtafkojlccknicaaBest
namespace Go.Proofs.Ytafkojlccknicaa
open Go Go.RowKit Hx
set_option linter.unusedVariables false
set_option linter.unusedSimpArgs false
set_option maxRecDepth 8000
theorem btsL_t {xs ys : List BestR} {k : Nat} {x : BestR} (h : xs[k]? = some x) (hc : lessB ((lkB ys x.size).getD noB) x = true) : btsL (xs.take (k + 1)) ys = btsL (xs.take k) ys ++ [x.size] := by
  unfold btsL; rw [take_succ_get h, List.filter_append, List.map_append]; simp [hc]
theorem btsL_f {xs ys : List BestR} {k : Nat} {x : BestR} (h : xs[k]? = some x) (hc : lessB ((lkB ys x.size).getD noB) x = false) : btsL (xs.take (k + 1)) ys = btsL (xs.take k) ys := by
  unfold btsL; rw [take_succ_get h, List.filter_append, List.map_append]; simp [hc]
theorem eff_Beats (a b : Option Addr) (n m c d : Nat) (xs ys : List BestR) (w : World) (hl : Rd encBest w.heap.size w a n c xs) (hm : Rd encBest w.heap.size w b m d ys) (hn : n ≤ 4398046511104) (hn2 : m ≤ 4398046511104) :
    Calls Try.prog 50 #[.slice a n c, .slice b m d] w fun e w' => ∃ o k kc, e = .returned (.tuple #[.slice o k kc, .int .i64 (beatsV xs ys).2]) ∧ Fresh encI 3 w w' o k kc (beatsV xs ys).1 := by
  obtain rfl := hl.len
  obtain rfl := hm.len
  refine enterQ (N := 44) (C := fun _ => True) (H := []) (B := w.heap.size) (args := [_, _]) Try.func50 rfl rfl rfl (Nat.le_refl _) (Sat.nil _ _) fun Q hQ => ?_
  refine wp_seq' fun K1 hK1 => ?_
  refine wp_reg ?_
  refine ol_r (r_assign rfl) rfl ?_
  refine ol_r (r_assign rfl) rfl ?_
  refine ol_nil (to_k0 (fun _ _ h => h) (hK1 _ _ _ _ _ ?_))
  clear hK1
  refine wp_seq' fun K2 hK2 => ?_
  refine wp_seq' fun K3 hK3 => ?_
  refine wp_reg ?_
  refine ol_r (r_move rfl) rfl ?_
  refine ol_call rfl rfl cb52 rfl (fun w1 hb1 hs1 hB1 => Calls.mono (eff_CheckCurve _ _ _ xs _ (hl.at hb1 hB1) hn) ?_)
  rintro e w2 ⟨rfl, hb2⟩
  refine After.below rfl hb1 hs1 hB1 hb2 ?_
  clear hb2 hB1 hs1 hb1 w2 w1
  refine ol_r (r_move rfl) rfl ?_
  refine ol_call rfl rfl cb52 rfl (fun w1 hb1 hs1 hB1 => Calls.mono (eff_CheckCurve _ _ _ ys _ (hm.at hb1 hB1) hn2) ?_)
  rintro e w2 ⟨rfl, hb2⟩
  refine After.below rfl hb1 hs1 hB1 hb2 ?_
  clear hb2 hB1 hs1 hb1 w2 w1
  refine ol_bsN 16 rfl rw143 rfl rfl (fun _ => by kernel_rfl) rfl fun a16 => ?_
  refine ol_call rfl rfl cb74 rfl (fun w1 hb1 hs1 hB1 => Calls.mono (cmp_Or _ _ _ [chkC xs, chkC ys] _ (Sat.rd hs1 (E := encI) (id := 16) rfl rfl)) ?_)
  rintro e w2 ⟨rfl, hb2⟩
  refine After.below rfl hb1 hs1 hB1 hb2 ?_
  clear hb2 hB1 hs1 hb1 w2 w1
  refine ol_r (r_assign rfl) rfl ?_
  refine ol_nil (to_k0 (fun _ _ h => h) (hK3 _ _ _ _ _ ?_))
  clear hK3
  refine wp_seq' fun K4 hK4 => ?_
  refine wp_reg ?_
  refine ol_r (r_move rfl) rfl ?_
  refine ol_r (r_neq rfl rfl) rfl ?_
  refine ol_nil (to_k0 (fun _ _ h => h) (hK4 _ _ _ _ _ ?_))
  clear hK4
  first | refine wp_condD rfl (fun hc19 => ?_) (fun hc19 => ?_) | refine wp_condN rfl (fun hc19 => ?_) (fun hc19 => ?_) | refine wp_condNB rfl (fun hc19 => ?_) (fun hc19 => ?_) | refine wp_cond' rfl (fun hc19 => ?_) (fun hc19 => ?_)
  ·refine wp_seq' fun K5 hK5 => ?_
   refine wp_reg ?_
   refine ol_r (r_move rfl) rfl ?_
   refine ol_r (r_assign rfl) rfl ?_
   refine ol_r (r_assign rfl) rfl ?_
   refine ol_nil (to_k0 (fun _ _ h => h) (hK5 _ _ _ _ _ ?_))
   clear hK5
   refine hQ.ret (rvs2 (rv_t rfl) (rv_t rfl)) (fun _ _ h => h) fun w hb hs hB hkd => ?_
   exact ⟨none, 0, 0, by rw [beatsV_e hc19], by rw [beatsV_e hc19]; exact Fresh.nil hb⟩
  ·refine wp_skip' (to_k0 (fun _ _ h => h) (hK2 _ _ _ _ _ ?_))
   clear hK2
   refine wp_seq' fun K6 hK6 => ?_
   refine wp_reg ?_
   refine ol_nilrow 7 3 1 ?_
   refine ol_r (r_assign rfl) rfl ?_
   refine ol_nil (to_k0 (fun _ _ h => h) (hK6 _ _ _ _ _ ?_))
   clear hK6
   refine wp_seq' fun K7 hK7 => ?_
   refine wp_seq' fun K8 hK8 => ?_
   refine wp_reg ?_
   have hX := chkC_ok (orR2 hc19).1
   have hY := chkC_ok (orR2 hc19).2
   refine ol_r (r_move rfl) rfl ?_
   refine ol_r (r_len rfl sl38) rfl ?_
   refine ol_r (r_move rfl) rfl ?_
   refine ol_nil (to_k0 (fun _ _ h => h) (hK8 _ _ _ _ _ ?_))
   clear hK8
   refine wp_block' ?_
   apply wp_loopM (σ := Nat × Option Addr × Nat × Nat) (fun s => s.1 ≤ xs.length ∧ (btsL (xs.take s.1) ys).length = s.2.2.1 ∧ s.2.2.1 ≤ s.1) (fun s => [(23, .int .i64 s.1), (7, .slice s.2.1 s.2.2.1 s.2.2.2)]) [(1, _), (4, _), (5, _), (21, _), (22, _)] (fun s => [(7, .row s.2.1 s.2.2.1 s.2.2.2 (encI.enc (btsL (xs.take s.1) ys)) 3 1)]) [(16, _)] (fun s => xs.length - s.1) ((0, none, 0, 0))
   ·try dsimp only
    exact ⟨Nat.zero_le _, rfl, Nat.le_refl _⟩
   ·exact (sub_cons rfl (sub_cons rfl sub_nil))
   ·exact (sub_cons rfl (sub_cons rfl (sub_cons rfl (sub_cons rfl (sub_cons rfl sub_nil)))))
   ·exact (subH_row rfl (by first | (dsimp only; rfl; done) | (rfl; done) | (dsimp only; done)) subH_nil)
   ·exact (subH_same rfl subH_nil)
   ·rintro ⟨i, oa, on, oc⟩ ⟨hi, hon, hon2⟩
    dsimp only at hi hon hon2 ⊢
    intro K9 hK9
    refine wp_seq' fun K10 hK10 => ?_
    refine wp_reg ?_
    refine ol_r (r_lss rfl rfl) rfl ?_
    refine ol_nil (to_k0 (fun _ _ h => h) (hK10 _ _ _ _ _ ?_))
    clear hK10
    refine wp_seq' fun K11 hK11 => ?_
    first | refine wp_condD rfl (fun hc24 => ?_) (fun hc24 => ?_) | refine wp_condN rfl (fun hc24 => ?_) (fun hc24 => ?_) | refine wp_condNB rfl (fun hc24 => ?_) (fun hc24 => ?_) | refine wp_cond' rfl (fun hc24 => ?_) (fun hc24 => ?_)
    ·refine wp_skip' (to_k0 (fun _ _ h => h) (hK11 _ _ _ _ _ ?_))
     clear hK11
     refine wp_seq' fun K12 hK12 => ?_
     refine wp_block' ?_
     refine wp_seq' fun K13 hK13 => ?_
     refine wp_reg ?_
     refine ol_ixr hl rfl rfl sl38 (by omega) rfl fun x25 hx25 => ?_
     try simp only [Int.toNat_natCast] at hx25
     refine ol_r (r_ldw rfl (fun w1 hb1 hs1 hB1 => Rd.loads hl ty24 hx25 hb1)) rfl ?_
     refine ol_alloc 9 z24 rfl fun b9 => ?_
     refine ol_store (id := 9) rfl rfl rfl rfl sz24 rfl rfl (by first | decide | exact Nat.zero_lt_succ _ | simp) ?_
     refine ol_nil (to_k0 (fun _ _ h => h) (hK13 _ _ _ _ _ ?_))
     clear hK13
     refine wp_seq' fun K14 hK14 => ?_
     refine wp_reg ?_
     refine ol_r (r_move rfl) rfl ?_
     refine ol_r (r_fa (o' := 0) rfl fl24_0 rfl) rfl ?_
     refine ol_r (r_ld (id := 9) rfl rfl rfl sc3) rfl ?_
     refine ol_call rfl rfl cb97 rfl (fun w1 hb1 hs1 hB1 => Calls.mono (eff_sized _ _ _ ys _ _ (hm.at hb1 hB1) hn2 hY.up) ?_)
     rintro e w2 ⟨rfl, hb2⟩
     refine After.below rfl hb1 hs1 hB1 hb2 ?_
     clear hb2 hB1 hs1 hb1 w2 w1
     refine ol_r (r_move rfl) rfl ?_
     refine ol_r (r_extract rfl rfl) rfl ?_
     refine ol_r (r_extract rfl rfl) rfl ?_
     refine ol_alloc 10 z24 rfl fun b10 => ?_
     refine ol_store (id := 10) rfl rfl rfl rfl sz24 rfl rfl (by first | decide | exact Nat.zero_lt_succ _ | simp) ?_
     refine ol_r (r_assign rfl) rfl ?_
     refine ol_nil (to_k0 (fun _ _ h => h) (hK14 _ _ _ _ _ ?_))
     clear hK14
     refine wp_seq' fun K15 hK15 => ?_
     refine wp_reg ?_
     refine ol_r (r_lda (id := 9) (n := 4) rfl rfl rfl ag24) rfl ?_
     refine ol_r (r_lda (id := 10) (n := 4) rfl rfl rfl ag24) rfl ?_
     refine ol_call rfl rfl cb98 rfl (fun w1 hb1 hs1 hB1 => Calls.mono (eff_beats x25 ((lkB ys x25.size).getD noB) _) ?_)
     rintro e w2 ⟨rfl, hb2⟩
     refine After.below rfl hb1 hs1 hB1 hb2 ?_
     clear hb2 hB1 hs1 hb1 w2 w1
     refine ol_nil (to_k0 (fun _ _ h => h) (hK15 _ _ _ _ _ ?_))
     clear hK15
     first | refine wp_condD rfl (fun hc36 => ?_) (fun hc36 => ?_) | refine wp_condN rfl (fun hc36 => ?_) (fun hc36 => ?_) | refine wp_condNB rfl (fun hc36 => ?_) (fun hc36 => ?_) | refine wp_cond' rfl (fun hc36 => ?_) (fun hc36 => ?_)
     ·refine wp_reg ?_
      refine ol_r (r_move rfl) rfl ?_
      refine ol_r (r_fa (o' := 0) rfl fl24_0 rfl) rfl ?_
      refine ol_r (r_ld (id := 9) rfl rfl rfl sc3) rfl ?_
      refine ol_bs1 40 rfl rfl rw22 rfl rfl rfl fun a40 => ?_
      refine ol_append1 (id := 7) (id2 := 40) rfl rfl rfl rfl rfl rw22 (by omega) rfl fun a41 c41 => ?_
      refine ol_r (r_assign rfl) rfl ?_
      refine ol_nil (to_k0 (fun _ _ h => h) (hK12 _ _ _ _ _ ?_))
      clear hK12
      refine wp_reg ?_
      refine ol_r (r_add rfl rfl (by omega)) rfl ?_
      refine ol_r (r_move rfl) rfl ?_
      refine ol_nil (to_k0 (fun _ _ h => h) (hK9 ((i + 1, _, _, _)) _ _ ?_ ?_ (sub_cons rfl (sub_cons rfl sub_nil)) (sub_cons rfl (sub_cons rfl (sub_cons rfl (sub_cons rfl (sub_cons rfl sub_nil))))) (by exact (subH_row rfl (by first | (dsimp only; rw [btsL_t hx25 hc36, Enc.enc_append]; rfl; done) | (rw [btsL_t hx25 hc36, Enc.enc_append]; rfl; done) | (dsimp only; done)) subH_nil)) (subH_same rfl subH_nil)))
      ·try dsimp only
       exact ⟨by omega, by rw [btsL_t hx25 hc36, List.length_append, hon]; rfl, by omega⟩
      ·try dsimp only
       omega
     ·refine wp_skip' (to_k0 (fun _ _ h => h) (hK12 _ _ _ _ _ ?_))
      clear hK12
      refine wp_reg ?_
      refine ol_r (r_add rfl rfl (by omega)) rfl ?_
      refine ol_r (r_move rfl) rfl ?_
      refine ol_nil (to_k0 (fun _ _ h => h) (hK9 ((i + 1, _, _, _)) _ _ ?_ ?_ (sub_cons rfl (sub_cons rfl sub_nil)) (sub_cons rfl (sub_cons rfl (sub_cons rfl (sub_cons rfl (sub_cons rfl sub_nil))))) (by exact (subH_row rfl (by first | (dsimp only; rw [btsL_f hx25 hc36]; done) | (rw [btsL_f hx25 hc36]; done) | (dsimp only; done)) subH_nil)) (subH_same rfl subH_nil)))
      ·try dsimp only
       exact ⟨by omega, by rw [btsL_f hx25 hc36]; exact hon, by omega⟩
      ·try dsimp only
       omega
    ·refine wp_exit' (to_k0 (fun _ _ h => h) (hK7 _ _ _ _ _ ?_))
     clear hK7
     refine wp_seq' fun K16 hK16 => ?_
     refine wp_reg ?_
     refine ol_r (r_move rfl) rfl ?_
     refine ol_r (r_assign rfl) rfl ?_
     refine ol_r (r_assign rfl) rfl ?_
     refine ol_nil (to_k0 (fun _ _ h => h) (hK16 _ _ _ _ _ ?_))
     clear hK16
     refine hQ.ret (rvs2 (rv_t rfl) (rv_t rfl)) (fun _ _ h => h) fun w hb hs hB hkd => ?_
     obtain rfl : i = xs.length := by omega
     refine ⟨oa, on, oc, by rw [beatsV_of hX hY], ?_⟩
     rw [beatsV_of hX hY]
     have h7 := hs.ok 7 _ rfl
     rw [List.take_length] at h7
     exact ⟨hb, h7⟩
theorem lkB_app : ∀ (a b : List BestR) (s : Int), lkB (a ++ b) s = (lkB a s).or (lkB b s)
  | [], b, s => rfl
  | x :: a, b, s => by
    rw [List.cons_append, lkB, lkB]
    by_cases h : x.size = s
    · rw [if_pos h, if_pos h]; rfl
    · rw [if_neg h, if_neg h, lkB_app a b s]
theorem lk_take_t {ys : List BestR} {j : Nat} {y : BestR} (hr : RisingB ys) (h : ys[j]? = some y) : (lkB (ys.take (j + 1)) y.size).getD noB = y := by
  rw [take_succ_get h, lkB_app]
  have hn : lkB (ys.take j) y.size = none := lkB_none fun hm => by
    obtain ⟨z, hz, hzs⟩ := List.mem_map.1 hm
    obtain ⟨i, hi⟩ := List.getElem?_of_mem hz
    have hlt : i < j := by have := (List.getElem?_eq_some_iff.1 hi).1; rw [List.length_take] at this; omega
    rw [List.getElem?_take_of_lt hlt] at hi
    have h1 : (szs ys)[i]? = some z.size := by rw [szs, List.getElem?_map, hi]; rfl
    have h2 : (szs ys)[j]? = some y.size := by rw [szs, List.getElem?_map, h]; rfl
    have := rising_pair.2 hr i j _ _ hlt h1 h2
    have hzs : z.size = y.size := hzs
    omega
  rw [hn]
  show (lkB [y] y.size).getD noB = y
  rw [lkB, if_pos rfl]; rfl
theorem lk_take_f {ys : List BestR} {j : Nat} {y : BestR} {s : Int} (h : ys[j]? = some y) (hs : y.size ≠ s) : lkB (ys.take (j + 1)) s = lkB (ys.take j) s := by
  rw [take_succ_get h, lkB_app, lkB, if_neg hs, lkB, Option.or_none]
theorem ref4_Beats (a b : Option Addr) (n m c d : Nat) (xs ys : List BestR) (w : World) (hl : Rd encBest w.heap.size w a n c xs) (hm : Rd encBest w.heap.size w b m d ys) (hn : n ≤ 4398046511104) (hn2 : m ≤ 4398046511104) :
    Calls Try.prog 51 #[.slice a n c, .slice b m d] w fun e w' => ∃ o k kc, e = .returned (.tuple #[.slice o k kc, .int .i64 (beatsV xs ys).2]) ∧ Fresh encI 3 w w' o k kc (beatsV xs ys).1 := by
  obtain rfl := hl.len
  obtain rfl := hm.len
  refine enterQ (N := 49) (C := fun _ => True) (H := []) (B := w.heap.size) (args := [_, _]) Try.func51 rfl rfl rfl (Nat.le_refl _) (Sat.nil _ _) fun Q hQ => ?_
  refine wp_seq' fun K1 hK1 => ?_
  refine wp_reg ?_
  refine ol_r (r_assign rfl) rfl ?_
  refine ol_r (r_assign rfl) rfl ?_
  refine ol_nil (to_k0 (fun _ _ h => h) (hK1 _ _ _ _ _ ?_))
  clear hK1
  refine wp_seq' fun K2 hK2 => ?_
  refine wp_seq' fun K3 hK3 => ?_
  refine wp_reg ?_
  refine ol_r (r_move rfl) rfl ?_
  refine ol_r (r_move rfl) rfl ?_
  refine ol_call rfl rfl cb99 rfl (fun w1 hb1 hs1 hB1 => Calls.mono (ref4_two _ _ _ _ _ _ xs ys _ (hl.at hb1 hB1) (hm.at hb1 hB1) hn hn2) ?_)
  rintro e w2 ⟨rfl, hb2⟩
  refine After.below rfl hb1 hs1 hB1 hb2 ?_
  clear hb2 hB1 hs1 hb1 w2 w1
  refine ol_r (r_assign rfl) rfl ?_
  refine ol_nil (to_k0 (fun _ _ h => h) (hK3 _ _ _ _ _ ?_))
  clear hK3
  refine wp_seq' fun K4 hK4 => ?_
  refine wp_reg ?_
  refine ol_r (r_move rfl) rfl ?_
  refine ol_r (r_neq rfl rfl) rfl ?_
  refine ol_nil (to_k0 (fun _ _ h => h) (hK4 _ _ _ _ _ ?_))
  clear hK4
  first | refine wp_condD rfl (fun hc17 => ?_) (fun hc17 => ?_) | refine wp_condN rfl (fun hc17 => ?_) (fun hc17 => ?_) | refine wp_condNB rfl (fun hc17 => ?_) (fun hc17 => ?_) | refine wp_cond' rfl (fun hc17 => ?_) (fun hc17 => ?_)
  ·refine wp_seq' fun K5 hK5 => ?_
   refine wp_reg ?_
   refine ol_r (r_move rfl) rfl ?_
   refine ol_r (r_assign rfl) rfl ?_
   refine ol_r (r_assign rfl) rfl ?_
   refine ol_nil (to_k0 (fun _ _ h => h) (hK5 _ _ _ _ _ ?_))
   clear hK5
   refine hQ.ret (rvs2 (rv_t rfl) (rv_t rfl)) (fun _ _ h => h) fun w hb hs hB hkd => ?_
   exact ⟨none, 0, 0, by rw [beatsV_e hc17], by rw [beatsV_e hc17]; exact Fresh.nil hb⟩
  ·refine wp_skip' (to_k0 (fun _ _ h => h) (hK2 _ _ _ _ _ ?_))
   clear hK2
   refine wp_seq' fun K6 hK6 => ?_
   refine wp_reg ?_
   refine ol_nilrow 7 3 1 ?_
   refine ol_r (r_assign rfl) rfl ?_
   refine ol_nil (to_k0 (fun _ _ h => h) (hK6 _ _ _ _ _ ?_))
   clear hK6
   refine wp_seq' fun K7 hK7 => ?_
   refine wp_seq' fun K8 hK8 => ?_
   refine wp_reg ?_
   have hX := chkC_ok (orR2 hc17).1
   have hY := chkC_ok (orR2 hc17).2
   refine ol_r (r_move rfl) rfl ?_
   refine ol_r (r_len rfl sl38) rfl ?_
   refine ol_r (r_move rfl) rfl ?_
   refine ol_nil (to_k0 (fun _ _ h => h) (hK8 _ _ _ _ _ ?_))
   clear hK8
   refine wp_block' ?_
   apply wp_loopM (σ := Nat × Option Addr × Nat × Nat) (fun s => s.1 ≤ xs.length ∧ (btsL (xs.take s.1) ys).length = s.2.2.1 ∧ s.2.2.1 ≤ s.1) (fun s => [(21, .int .i64 s.1), (7, .slice s.2.1 s.2.2.1 s.2.2.2)]) [(1, _), (4, _), (5, _), (19, _), (20, _)] (fun s => [(7, .row s.2.1 s.2.2.1 s.2.2.2 (encI.enc (btsL (xs.take s.1) ys)) 3 1)]) [] (fun s => xs.length - s.1) ((0, none, 0, 0))
   ·try dsimp only
    exact ⟨Nat.zero_le _, rfl, Nat.le_refl _⟩
   ·exact (sub_cons rfl (sub_cons rfl sub_nil))
   ·exact (sub_cons rfl (sub_cons rfl (sub_cons rfl (sub_cons rfl (sub_cons rfl sub_nil)))))
   ·exact (subH_row rfl (by first | (dsimp only; rfl; done) | (rfl; done) | (dsimp only; done)) subH_nil)
   ·exact subH_nil
   ·rintro ⟨i, oa, on, oc⟩ ⟨hi, hon, hon2⟩
    dsimp only at hi hon hon2 ⊢
    intro K9 hK9
    refine wp_seq' fun K10 hK10 => ?_
    refine wp_reg ?_
    refine ol_r (r_lss rfl rfl) rfl ?_
    refine ol_nil (to_k0 (fun _ _ h => h) (hK10 _ _ _ _ _ ?_))
    clear hK10
    refine wp_seq' fun K11 hK11 => ?_
    first | refine wp_condD rfl (fun hc22 => ?_) (fun hc22 => ?_) | refine wp_condN rfl (fun hc22 => ?_) (fun hc22 => ?_) | refine wp_condNB rfl (fun hc22 => ?_) (fun hc22 => ?_) | refine wp_cond' rfl (fun hc22 => ?_) (fun hc22 => ?_)
    ·refine wp_skip' (to_k0 (fun _ _ h => h) (hK11 _ _ _ _ _ ?_))
     clear hK11
     refine wp_seq' fun K12 hK12 => ?_
     refine wp_block' ?_
     refine wp_seq' fun K13 hK13 => ?_
     refine wp_reg ?_
     refine ol_ixr hl rfl rfl sl38 (by omega) rfl fun x23 hx23 => ?_
     try simp only [Int.toNat_natCast] at hx23
     refine ol_r (r_ldw rfl (fun w1 hb1 hs1 hB1 => Rd.loads hl ty24 hx23 hb1)) rfl ?_
     refine ol_alloc 9 z24 rfl fun b9 => ?_
     refine ol_store (id := 9) rfl rfl rfl rfl sz24 rfl rfl (by first | decide | exact Nat.zero_lt_succ _ | simp) ?_
     refine ol_nil (to_k0 (fun _ _ h => h) (hK13 _ _ _ _ _ ?_))
     clear hK13
     refine wp_seq' fun K14 hK14 => ?_
     refine wp_reg ?_
     refine ol_r (r_build rfl (fun _ => bd24 _)) rfl ?_
     refine ol_alloc 10 z24 rfl fun b10 => ?_
     refine ol_store (id := 10) rfl rfl rfl rfl sz24 rfl rfl (by first | decide | exact Nat.zero_lt_succ _ | simp) ?_
     refine ol_nil (to_k0 (fun _ _ h => h) (hK14 _ _ _ _ _ ?_))
     clear hK14
     refine wp_seq' fun K15 hK15 => ?_
     refine wp_seq' fun K16 hK16 => ?_
     refine wp_reg ?_
     refine ol_r (r_move rfl) rfl ?_
     refine ol_r (r_len rfl sl38) rfl ?_
     refine ol_r (r_move rfl) rfl ?_
     refine ol_nil (to_k0 (fun _ _ h => h) (hK16 _ _ _ _ _ ?_))
     clear hK16
     refine wp_block' ?_
     apply wp_loopM (σ := Nat × BestR) (fun s => s.1 ≤ ys.length ∧ s.2 = (lkB (ys.take s.1) x23.size).getD noB) (fun s => [(28, .int .i64 s.1)]) [(1, _), (4, _), (5, _), (7, _), (9, _), (10, _), (19, _), (20, _), (21, _), (26, _), (27, _)] (fun s => [(10, .blk b10 (pairs 0 [.int .i64 s.2.size, .int .i64 s.2.sum, .int .i64 s.2.at_, .bool s.2.found]) 24)]) [(7, _), (9, _)] (fun s => ys.length - s.1) ((0, noB))
     ·try dsimp only
      exact ⟨Nat.zero_le _, rfl⟩
     ·exact (sub_cons rfl sub_nil)
     ·exact (sub_cons rfl (sub_cons rfl (sub_cons rfl (sub_cons rfl (sub_cons rfl (sub_cons rfl (sub_cons rfl (sub_cons rfl (sub_cons rfl (sub_cons rfl (sub_cons rfl sub_nil)))))))))))
     ·exact (subH_blk rfl (by repeat' first | exact sub_nil | refine sub_cons rfl ?_) subH_nil)
     ·exact (subH_same rfl (subH_same rfl subH_nil))
     ·rintro ⟨j, z⟩ ⟨hj, hz⟩
      dsimp only at hj hz ⊢
      intro K17 hK17
      refine wp_seq' fun K18 hK18 => ?_
      refine wp_reg ?_
      refine ol_r (r_lss rfl rfl) rfl ?_
      refine ol_nil (to_k0 (fun _ _ h => h) (hK18 _ _ _ _ _ ?_))
      clear hK18
      refine wp_seq' fun K19 hK19 => ?_
      first | refine wp_condD rfl (fun hc29 => ?_) (fun hc29 => ?_) | refine wp_condN rfl (fun hc29 => ?_) (fun hc29 => ?_) | refine wp_condNB rfl (fun hc29 => ?_) (fun hc29 => ?_) | refine wp_cond' rfl (fun hc29 => ?_) (fun hc29 => ?_)
      ·refine wp_skip' (to_k0 (fun _ _ h => h) (hK19 _ _ _ _ _ ?_))
       clear hK19
       refine wp_seq' fun K20 hK20 => ?_
       refine wp_block' ?_
       refine wp_seq' fun K21 hK21 => ?_
       refine wp_reg ?_
       refine ol_ixr hm rfl rfl sl38 (by omega) rfl fun x30 hx30 => ?_
       try simp only [Int.toNat_natCast] at hx30
       refine ol_r (r_ldw rfl (fun w1 hb1 hs1 hB1 => Rd.loads hm ty24 hx30 hb1)) rfl ?_
       refine ol_alloc 12 z24 rfl fun b12 => ?_
       refine ol_store (id := 12) rfl rfl rfl rfl sz24 rfl rfl (by first | decide | exact Nat.zero_lt_succ _ | simp) ?_
       refine ol_nil (to_k0 (fun _ _ h => h) (hK21 _ _ _ _ _ ?_))
       clear hK21
       refine wp_seq' fun K22 hK22 => ?_
       refine wp_reg ?_
       refine ol_r (r_fa (o' := 0) rfl fl24_0 rfl) rfl ?_
       refine ol_r (r_ld (id := 12) rfl rfl rfl sc3) rfl ?_
       refine ol_r (r_fa (o' := 0) rfl fl24_0 rfl) rfl ?_
       refine ol_r (r_ld (id := 9) rfl rfl rfl sc3) rfl ?_
       refine ol_r (r_eql rfl rfl) rfl ?_
       refine ol_nil (to_k0 (fun _ _ h => h) (hK22 _ _ _ _ _ ?_))
       clear hK22
       first | refine wp_condD rfl (fun hc36 => ?_) (fun hc36 => ?_) | refine wp_condN rfl (fun hc36 => ?_) (fun hc36 => ?_) | refine wp_condNB rfl (fun hc36 => ?_) (fun hc36 => ?_) | refine wp_cond' rfl (fun hc36 => ?_) (fun hc36 => ?_)
       ·refine wp_reg ?_
        refine ol_r (r_lda (id := 12) (n := 4) rfl rfl rfl ag24) rfl ?_
        refine ol_store (id := 10) rfl rfl rfl rfl sz24 rfl rfl (by first | decide | exact Nat.zero_lt_succ _ | simp) ?_
        refine ol_nil (to_k0 (fun _ _ h => h) (hK20 _ _ _ _ _ ?_))
        clear hK20
        refine wp_reg ?_
        refine ol_r (r_add rfl rfl (by omega)) rfl ?_
        refine ol_r (r_move rfl) rfl ?_
        refine ol_nil (to_k0 (fun _ _ h => h) (hK17 ((j + 1, x30)) _ _ ?_ ?_ (sub_cons rfl sub_nil) (sub_cons rfl (sub_cons rfl (sub_cons rfl (sub_cons rfl (sub_cons rfl (sub_cons rfl (sub_cons rfl (sub_cons rfl (sub_cons rfl (sub_cons rfl (sub_cons rfl sub_nil))))))))))) (by exact (subH_blk rfl (by repeat' first | exact sub_nil | refine sub_cons rfl ?_) subH_nil)) (subH_same rfl (subH_same rfl subH_nil))))
        ·try dsimp only
         exact ⟨by omega, by rw [← hc36, lk_take_t hY.up hx30]⟩
        ·try dsimp only
         omega
       ·refine wp_skip' (to_k0 (fun _ _ h => h) (hK20 _ _ _ _ _ ?_))
        clear hK20
        refine wp_reg ?_
        refine ol_r (r_add rfl rfl (by omega)) rfl ?_
        refine ol_r (r_move rfl) rfl ?_
        refine ol_nil (to_k0 (fun _ _ h => h) (hK17 ((j + 1, z)) _ _ ?_ ?_ (sub_cons rfl sub_nil) (sub_cons rfl (sub_cons rfl (sub_cons rfl (sub_cons rfl (sub_cons rfl (sub_cons rfl (sub_cons rfl (sub_cons rfl (sub_cons rfl (sub_cons rfl (sub_cons rfl sub_nil))))))))))) (by exact (subH_blk rfl (by repeat' first | exact sub_nil | refine sub_cons rfl ?_) subH_nil)) (subH_same rfl (subH_same rfl subH_nil))))
        ·try dsimp only
         exact ⟨by omega, by rw [lk_take_f hx30 hc36]; exact hz⟩
        ·try dsimp only
         omega
      ·refine wp_exit' (to_k0 (fun _ _ h => h) (hK15 _ _ _ _ _ ?_))
       clear hK15
       refine wp_seq' fun K23 hK23 => ?_
       refine wp_reg ?_
       have hjl : j = ys.length := by omega
       rw [hjl, List.take_length] at hz
       subst hz
       refine ol_r (r_lda (id := 10) (n := 4) rfl rfl rfl ag24) rfl ?_
       refine ol_r (r_lda (id := 9) (n := 4) rfl rfl rfl ag24) rfl ?_
       refine ol_call rfl rfl cb100 rfl (fun w1 hb1 hs1 hB1 => Calls.mono (ref4_less ((lkB ys x23.size).getD noB) x23 _) ?_)
       rintro e w2 ⟨rfl, hb2⟩
       refine After.below rfl hb1 hs1 hB1 hb2 ?_
       clear hb2 hB1 hs1 hb1 w2 w1
       refine ol_nil (to_k0 (fun _ _ h => h) (hK23 _ _ _ _ _ ?_))
       clear hK23
       first | refine wp_condD rfl (fun hc41 => ?_) (fun hc41 => ?_) | refine wp_condN rfl (fun hc41 => ?_) (fun hc41 => ?_) | refine wp_condNB rfl (fun hc41 => ?_) (fun hc41 => ?_) | refine wp_cond' rfl (fun hc41 => ?_) (fun hc41 => ?_)
       ·refine wp_reg ?_
        refine ol_r (r_move rfl) rfl ?_
        refine ol_r (r_fa (o' := 0) rfl fl24_0 rfl) rfl ?_
        refine ol_r (r_ld (id := 9) rfl rfl rfl sc3) rfl ?_
        refine ol_bs1 45 rfl rfl rw22 rfl rfl rfl fun a45 => ?_
        refine ol_append1 (id := 7) (id2 := 45) rfl rfl rfl rfl rfl rw22 (by omega) rfl fun a46 c46 => ?_
        refine ol_r (r_assign rfl) rfl ?_
        refine ol_nil (to_k0 (fun _ _ h => h) (hK12 _ _ _ _ _ ?_))
        clear hK12
        refine wp_reg ?_
        refine ol_r (r_add rfl rfl (by omega)) rfl ?_
        refine ol_r (r_move rfl) rfl ?_
        refine ol_nil (to_k0 (fun _ _ h => h) (hK9 ((i + 1, _, _, _)) _ _ ?_ ?_ (sub_cons rfl (sub_cons rfl sub_nil)) (sub_cons rfl (sub_cons rfl (sub_cons rfl (sub_cons rfl (sub_cons rfl sub_nil))))) (by exact (subH_row rfl (by first | (dsimp only; rw [btsL_t hx23 hc41, Enc.enc_append]; rfl; done) | (rw [btsL_t hx23 hc41, Enc.enc_append]; rfl; done) | (dsimp only; done)) subH_nil)) subH_nil))
        ·try dsimp only
         exact ⟨by omega, by rw [btsL_t hx23 hc41, List.length_append, hon]; rfl, by omega⟩
        ·try dsimp only
         omega
       ·refine wp_skip' (to_k0 (fun _ _ h => h) (hK12 _ _ _ _ _ ?_))
        clear hK12
        refine wp_reg ?_
        refine ol_r (r_add rfl rfl (by omega)) rfl ?_
        refine ol_r (r_move rfl) rfl ?_
        refine ol_nil (to_k0 (fun _ _ h => h) (hK9 ((i + 1, _, _, _)) _ _ ?_ ?_ (sub_cons rfl (sub_cons rfl sub_nil)) (sub_cons rfl (sub_cons rfl (sub_cons rfl (sub_cons rfl (sub_cons rfl sub_nil))))) (by exact (subH_row rfl (by first | (dsimp only; rw [btsL_f hx23 hc41]; done) | (rw [btsL_f hx23 hc41]; done) | (dsimp only; done)) subH_nil)) subH_nil))
        ·try dsimp only
         exact ⟨by omega, by rw [btsL_f hx23 hc41]; exact hon, by omega⟩
        ·try dsimp only
         omega
    ·refine wp_exit' (to_k0 (fun _ _ h => h) (hK7 _ _ _ _ _ ?_))
     clear hK7
     refine wp_seq' fun K24 hK24 => ?_
     refine wp_reg ?_
     refine ol_r (r_move rfl) rfl ?_
     refine ol_r (r_assign rfl) rfl ?_
     refine ol_r (r_assign rfl) rfl ?_
     refine ol_nil (to_k0 (fun _ _ h => h) (hK24 _ _ _ _ _ ?_))
     clear hK24
     refine hQ.ret (rvs2 (rv_t rfl) (rv_t rfl)) (fun _ _ h => h) fun w hb hs hB hkd => ?_
     obtain rfl : i = xs.length := by omega
     refine ⟨oa, on, oc, by rw [beatsV_of hX hY], ?_⟩
     rw [beatsV_of hX hY]
     have h7 := hs.ok 7 _ rfl
     rw [List.take_length] at h7
     exact ⟨hb, h7⟩
theorem equal_curves (a b : Option Addr) (n m c1 c2 : Nat) (xs : List BestR) (w : World) (hx : Rd encBest w.heap.size w a n c1 xs) (hy : Rd encBest w.heap.size w b m c2 xs) :
    Calls Try.prog 35 #[.slice a n c1, .slice b m c2] w fun e w' => e = .returned (.bool true) ∧ Below w.heap.size w w' := by
  have hn := hx.len
  have hm := hy.len
  obtain rfl : n = m := by omega
  have hf := hx.fit
  refine enterQ (N := 26) (C := fun _ => True) (H := []) (B := w.heap.size) (args := [_, _]) Try.func35 rfl rfl rfl (Nat.le_refl _) (Sat.nil _ _) fun Q hQ => ?_
  refine wp_seq' fun K1 hK1 => ?_
  refine wp_reg ?_
  refine ol_r (r_assign rfl) rfl ?_
  refine ol_nil (to_k0 (fun _ _ h => h) (hK1 _ _ _ _ _ ?_))
  clear hK1
  refine wp_seq' fun K2 hK2 => ?_
  refine wp_seq' fun K3 hK3 => ?_
  refine wp_reg ?_
  refine ol_r (r_move rfl) rfl ?_
  refine ol_r (r_len rfl sl38) rfl ?_
  refine ol_r (r_move rfl) rfl ?_
  refine ol_r (r_len rfl sl38) rfl ?_
  refine ol_r (r_neq rfl rfl) rfl ?_
  refine ol_nil (to_k0 (fun _ _ h => h) (hK3 _ _ _ _ _ ?_))
  clear hK3
  first | refine wp_condD rfl (fun hc10 => ?_) (fun hc10 => ?_) | refine wp_condN rfl (fun hc10 => ?_) (fun hc10 => ?_) | refine wp_condNB rfl (fun hc10 => ?_) (fun hc10 => ?_) | refine wp_cond' rfl (fun hc10 => ?_) (fun hc10 => ?_)
  ·refine wp_seq' fun K4 hK4 => ?_
   refine wp_reg ?_
   refine ol_r (r_assign rfl) rfl ?_
   refine ol_nil (to_k0 (fun _ _ h => h) (hK4 _ _ _ _ _ ?_))
   clear hK4
   refine hQ.ret (rvs1 (rv_t rfl)) (fun _ _ h => h) fun w hb hs hB hkd => ?_
   first
     | exact ⟨rfl, hb⟩
     | (exfalso; simp_all; done)
     | (exfalso; simp_all [eqs, eqV, encBest]; done)
  ·refine wp_skip' (to_k0 (fun _ _ h => h) (hK2 _ _ _ _ _ ?_))
   clear hK2
   refine wp_seq' fun K5 hK5 => ?_
   refine wp_seq' fun K6 hK6 => ?_
   refine wp_reg ?_
   refine ol_r (r_move rfl) rfl ?_
   refine ol_r (r_len rfl sl38) rfl ?_
   refine ol_r (r_move rfl) rfl ?_
   refine ol_nil (to_k0 (fun _ _ h => h) (hK6 _ _ _ _ _ ?_))
   clear hK6
   refine wp_block' ?_
   apply wp_loopM (σ := Nat) (fun s => s ≤ n) (fun s => [(13, .int .i64 s)]) [(0, _), (1, _), (12, _)] (fun s => []) [] (fun s => n - s) (0)
   ·try dsimp only
    simp
   ·exact (sub_cons rfl sub_nil)
   ·exact (sub_cons rfl (sub_cons rfl (sub_cons rfl sub_nil)))
   ·exact subH_nil
   ·exact subH_nil
   ·intro k hk
    intro K7 hK7
    refine wp_seq' fun K8 hK8 => ?_
    refine wp_reg ?_
    refine ol_r (r_lss rfl rfl) rfl ?_
    refine ol_nil (to_k0 (fun _ _ h => h) (hK8 _ _ _ _ _ ?_))
    clear hK8
    refine wp_seq' fun K9 hK9 => ?_
    first | refine wp_condD rfl (fun hc14 => ?_) (fun hc14 => ?_) | refine wp_condN rfl (fun hc14 => ?_) (fun hc14 => ?_) | refine wp_condNB rfl (fun hc14 => ?_) (fun hc14 => ?_) | refine wp_cond' rfl (fun hc14 => ?_) (fun hc14 => ?_)
    ·refine wp_skip' (to_k0 (fun _ _ h => h) (hK9 _ _ _ _ _ ?_))
     clear hK9
     refine wp_seq' fun K10 hK10 => ?_
     refine wp_block' ?_
     refine wp_seq' fun K11 hK11 => ?_
     refine wp_reg ?_
     refine ol_r (r_move rfl) rfl ?_
     refine ol_r (r_assign rfl) rfl ?_
     refine ol_nil (to_k0 (fun _ _ h => h) (hK11 _ _ _ _ _ ?_))
     clear hK11
     refine wp_seq' fun K12 hK12 => ?_
     refine wp_regq (by kernel_rfl) (by kernel_rfl) ?_
     refine ql_r (r_move rfl) rfl ?_
     refine ql_r (r_move rfl) rfl ?_
     refine ql_ixr hx rfl rfl sl38 (by omega) rfl fun x18 hx18 => ?_
     try simp only [Int.toNat_natCast] at hx18
     refine ql_r (r_ldw rfl (fun w1 hb1 hs1 hB1 => Rd.loads hx ty24 hx18 hb1)) rfl ?_
     refine ql_r (r_move rfl) rfl ?_
     refine ql_r (r_move rfl) rfl ?_
     refine ql_ixr hy rfl rfl sl38 (by omega) rfl fun x22 hx22 => ?_
     try simp only [Int.toNat_natCast] at hx22
     have h22 : x22 = x18 := by rw [hx18] at hx22; cases hx22; rfl
     subst h22
     refine ql_r (r_ldw rfl (fun w1 hb1 hs1 hB1 => Rd.loads hy ty24 hx22 hb1)) rfl ?_
     refine ql_r (r_nes rfl rfl (by kernel_rfl) (fun w => run_eqs (by kernel_rfl) (by kernel_rfl) w)) rfl ?_
     refine ql_nil (to_k0 (fun _ _ h => h) (hK12 _ _ _ _ _ ?_))
     clear hK12
     first | refine wp_condD rfl (fun hc24 => ?_) (fun hc24 => ?_) | refine wp_condN rfl (fun hc24 => ?_) (fun hc24 => ?_) | refine wp_condNB rfl (fun hc24 => ?_) (fun hc24 => ?_) | refine wp_cond' rfl (fun hc24 => ?_) (fun hc24 => ?_)
     ·refine wp_seq' fun K13 hK13 => ?_
      refine wp_reg ?_
      refine ol_r (r_assign rfl) rfl ?_
      refine ol_nil (to_k0 (fun _ _ h => h) (hK13 _ _ _ _ _ ?_))
      clear hK13
      refine hQ.ret (rvs1 (rv_t rfl)) (fun _ _ h => h) fun w hb hs hB hkd => ?_
      first
        | exact ⟨rfl, hb⟩
        | (exfalso; simp_all; done)
        | (exfalso; simp_all [eqs, eqV, encBest]; done)
     ·refine wp_skip' (to_k0 (fun _ _ h => h) (hK10 _ _ _ _ _ ?_))
      clear hK10
      refine wp_reg ?_
      refine ol_r (r_add rfl rfl (by omega)) rfl ?_
      refine ol_r (r_move rfl) rfl ?_
      refine ol_nil (to_k0 (fun _ _ h => h) (hK7 (k + 1) _ _ ?_ ?_ (sub_cons rfl sub_nil) (sub_cons rfl (sub_cons rfl (sub_cons rfl sub_nil))) (by exact subH_nil) subH_nil))
      ·try dsimp only
       omega
      ·try dsimp only
       omega
    ·refine wp_exit' (to_k0 (fun _ _ h => h) (hK5 _ _ _ _ _ ?_))
     clear hK5
     refine wp_seq' fun K14 hK14 => ?_
     refine wp_reg ?_
     refine ol_r (r_assign rfl) rfl ?_
     refine ol_nil (to_k0 (fun _ _ h => h) (hK14 _ _ _ _ _ ?_))
     clear hK14
     refine hQ.ret (rvs1 (rv_t rfl)) (fun _ _ h => h) fun w hb hs hB hkd => ?_
     first
       | exact ⟨rfl, hb⟩
       | (exfalso; simp_all; done)
       | (exfalso; simp_all [eqs, eqV, encBest]; done)
theorem law_merges (a : Option Addr) (n c : Nat) (xs : List BestR) (b : Option Addr) (m d : Nat) (ys : List BestR) (w : World) (hl : Rd encBest w.heap.size w a n c xs) (hm : Rd encBest w.heap.size w b m d ys) (hn : n ≤ 4398046511104) (hn2 : m ≤ 4398046511104) :
    Calls Try.prog 11 #[.slice a n c, .slice b m d] w fun e w' => e = .returned (.bool true) ∧ Below w.heap.size w w' := by
  refine enterQ (N := 65) (C := fun _ => True) (H := []) (B := w.heap.size) (args := [_, _]) Try.func11 rfl rfl rfl (Nat.le_refl _) (Sat.nil _ _) fun Q hQ => ?_
  refine wp_seq' fun K1 hK1 => ?_
  refine wp_reg ?_
  refine ol_r (r_assign rfl) rfl ?_
  refine ol_nil (to_k0 (fun _ _ h => h) (hK1 _ _ _ _ _ ?_))
  clear hK1
  refine wp_seq' fun K2 hK2 => ?_
  refine wp_reg ?_
  refine ol_r (r_move rfl) rfl ?_
  refine ol_r (r_move rfl) rfl ?_
  refine ol_call rfl rfl cb48 rfl (fun w1 hb1 hs1 hB1 => Calls.mono (eff_Merge _ _ _ _ _ _ xs ys _ (hl.at hb1 hB1) (hm.at hb1 hB1) hn hn2) ?_)
  rintro e w2 ⟨a16, n16, c16, rfl, hf16⟩
  refine After.fresh (id := 16) rfl hb1 hs1 hB1 hf16 ?_
  have hl16 := hf16.len; clear hf16 hB1 hs1 hb1 w2 w1
  refine ol_r (r_move rfl) rfl ?_
  refine ol_r (r_extract rfl rfl) rfl ?_
  refine ol_r (r_extract rfl rfl) rfl ?_
  refine ol_r (r_assign rfl) rfl ?_
  refine ol_r (r_assign rfl) rfl ?_
  refine ol_nil (to_k0 (fun _ _ h => h) (hK2 _ _ _ _ _ ?_))
  clear hK2
  refine wp_seq' fun K3 hK3 => ?_
  refine wp_reg ?_
  refine ol_r (r_move rfl) rfl ?_
  refine ol_r (r_move rfl) rfl ?_
  refine ol_call rfl rfl cb49 rfl (fun w1 hb1 hs1 hB1 => Calls.mono (ref4_Merge _ _ _ _ _ _ xs ys _ (hl.at hb1 hB1) (hm.at hb1 hB1) hn hn2) ?_)
  rintro e w2 ⟨a22, n22, c22, rfl, hf22⟩
  refine After.fresh (id := 22) rfl hb1 hs1 hB1 hf22 ?_
  have hl22 := hf22.len; clear hf22 hB1 hs1 hb1 w2 w1
  refine ol_r (r_move rfl) rfl ?_
  refine ol_r (r_extract rfl rfl) rfl ?_
  refine ol_r (r_extract rfl rfl) rfl ?_
  refine ol_r (r_assign rfl) rfl ?_
  refine ol_r (r_assign rfl) rfl ?_
  refine ol_nil (to_k0 (fun _ _ h => h) (hK3 _ _ _ _ _ ?_))
  clear hK3
  refine wp_seq' fun K4 hK4 => ?_
  refine wp_reg ?_
  refine ol_r (r_move rfl) rfl ?_
  refine ol_r (r_move rfl) rfl ?_
  refine ol_call rfl rfl cb50 rfl (fun w1 hb1 hs1 hB1 => Calls.mono (eff_Beats _ _ _ _ _ _ xs ys _ (hl.at hb1 hB1) (hm.at hb1 hB1) hn hn2) ?_)
  rintro e w2 ⟨a28, n28, c28, rfl, hf28⟩
  refine After.fresh (id := 28) rfl hb1 hs1 hB1 hf28 ?_
  have hl28 := hf28.len; clear hf28 hB1 hs1 hb1 w2 w1
  refine ol_r (r_move rfl) rfl ?_
  refine ol_r (r_extract rfl rfl) rfl ?_
  refine ol_r (r_extract rfl rfl) rfl ?_
  refine ol_r (r_assign rfl) rfl ?_
  refine ol_r (r_assign rfl) rfl ?_
  refine ol_nil (to_k0 (fun _ _ h => h) (hK4 _ _ _ _ _ ?_))
  clear hK4
  refine wp_seq' fun K5 hK5 => ?_
  refine wp_reg ?_
  refine ol_r (r_move rfl) rfl ?_
  refine ol_r (r_move rfl) rfl ?_
  refine ol_call rfl rfl cb51 rfl (fun w1 hb1 hs1 hB1 => Calls.mono (ref4_Beats _ _ _ _ _ _ xs ys _ (hl.at hb1 hB1) (hm.at hb1 hB1) hn hn2) ?_)
  rintro e w2 ⟨a34, n34, c34, rfl, hf34⟩
  refine After.fresh (id := 34) rfl hb1 hs1 hB1 hf34 ?_
  have hl34 := hf34.len; clear hf34 hB1 hs1 hb1 w2 w1
  refine ol_r (r_move rfl) rfl ?_
  refine ol_r (r_extract rfl rfl) rfl ?_
  refine ol_r (r_extract rfl rfl) rfl ?_
  refine ol_r (r_assign rfl) rfl ?_
  refine ol_r (r_assign rfl) rfl ?_
  refine ol_nil (to_k0 (fun _ _ h => h) (hK5 _ _ _ _ _ ?_))
  clear hK5
  refine wp_seq' fun K6 hK6 => ?_
  refine wp_reg ?_
  refine ol_r (r_move rfl) rfl ?_
  refine ol_call rfl rfl cb52 rfl (fun w1 hb1 hs1 hB1 => Calls.mono (eff_CheckCurve _ _ _ xs _ (hl.at hb1 hB1) hn) ?_)
  rintro e w2 ⟨rfl, hb2⟩
  refine After.below rfl hb1 hs1 hB1 hb2 ?_
  clear hb2 hB1 hs1 hb1 w2 w1
  refine ol_r (r_move rfl) rfl ?_
  refine ol_call rfl rfl cb53 rfl (fun w1 hb1 hs1 hB1 => Calls.mono (ref4_CheckCurve _ _ _ xs _ (hl.at hb1 hB1) hn) ?_)
  rintro e w2 ⟨rfl, hb2⟩
  refine After.below rfl hb1 hs1 hB1 hb2 ?_
  clear hb2 hB1 hs1 hb1 w2 w1
  refine ol_r (r_eql rfl rfl) rfl ?_
  refine ol_r (r_move rfl) rfl ?_
  refine ol_split (d := 42) rfl (fun hs42 => ?_) (fun hs42 => ?_)
  ·have phs42 := hs42; try simp only [decide_eq_true_eq, decide_eq_false_iff_not, Bool.not_eq_true', Bool.not_eq_false', Bool.not_true, Bool.not_false] at phs42
   refine ol_g rfl rfl hs42 ?_
   refine ol_r (r_move rfl) rfl ?_
   refine ol_g rfl rfl hs42 ?_
   refine ol_r (r_move rfl) rfl ?_
   refine ol_g rfl rfl hs42 ?_
   refine ol_call rfl rfl cb35 rfl (fun w1 hb1 hs1 hB1 => Calls.mono (equal_curves _ _ _ _ _ _ _ _ (Sat.rd hs1 (id := 16) rfl rfl) (Sat.rd hs1 (id := 22) rfl rfl)) ?_)
   rintro e w2 ⟨rfl, hb2⟩
   refine After.below rfl hb1 hs1 hB1 hb2 ?_
   clear hb2 hB1 hs1 hb1 w2 w1
   refine ol_r (r_pickT rfl hs42 rfl) rfl ?_
   refine ol_r (r_move rfl) rfl ?_
   refine ol_split (d := 47) rfl (fun hs47 => ?_) (fun hs47 => ?_)
   ·have phs47 := hs47; try simp only [decide_eq_true_eq, decide_eq_false_iff_not, Bool.not_eq_true', Bool.not_eq_false', Bool.not_true, Bool.not_false] at phs47
    refine ol_g rfl rfl hs47 ?_
    refine ol_r (r_move rfl) rfl ?_
    refine ol_g rfl rfl hs47 ?_
    refine ol_r (r_move rfl) rfl ?_
    refine ol_g rfl rfl hs47 ?_
    refine ol_r (r_eql rfl rfl) rfl ?_
    refine ol_r (r_pickT rfl hs47 rfl) rfl ?_
    refine ol_r (r_move rfl) rfl ?_
    refine ol_split (d := 52) rfl (fun hs52 => ?_) (fun hs52 => ?_)
    ·have phs52 := hs52; try simp only [decide_eq_true_eq, decide_eq_false_iff_not, Bool.not_eq_true', Bool.not_eq_false', Bool.not_true, Bool.not_false] at phs52
     refine ol_g rfl rfl hs52 ?_
     refine ol_r (r_move rfl) rfl ?_
     refine ol_g rfl rfl hs52 ?_
     refine ol_r (r_move rfl) rfl ?_
     refine ol_g rfl rfl hs52 ?_
     refine ol_call rfl rfl cb26 rfl (fun w1 hb1 hs1 hB1 => Calls.mono (equal_int _ _ _ _ _ _ _ _ _ (Sat.rd hs1 (id := 28) rfl rfl) (Sat.rd hs1 (id := 34) rfl rfl)) ?_)
     rintro e w2 ⟨rfl, hb2⟩
     refine After.below rfl hb1 hs1 hB1 hb2 ?_
     clear hb2 hB1 hs1 hb1 w2 w1
     refine ol_r (r_pickT rfl hs52 rfl) rfl ?_
     refine ol_r (r_move rfl) rfl ?_
     refine ol_split (d := 57) rfl (fun hs57 => ?_) (fun hs57 => ?_)
     ·have phs57 := hs57; try simp only [decide_eq_true_eq, decide_eq_false_iff_not, Bool.not_eq_true', Bool.not_eq_false', Bool.not_true, Bool.not_false] at phs57
      refine ol_g rfl rfl hs57 ?_
      refine ol_r (r_move rfl) rfl ?_
      refine ol_g rfl rfl hs57 ?_
      refine ol_r (r_move rfl) rfl ?_
      refine ol_g rfl rfl hs57 ?_
      refine ol_r (r_eql rfl rfl) rfl ?_
      refine ol_r (r_pickT rfl hs57 rfl) rfl ?_
      refine ol_r (r_move rfl) rfl ?_
      refine ol_split (d := 62) rfl (fun hs62 => ?_) (fun hs62 => ?_)
      ·have phs62 := hs62; try simp only [decide_eq_true_eq, decide_eq_false_iff_not, Bool.not_eq_true', Bool.not_eq_false', Bool.not_true, Bool.not_false] at phs62
       refine ol_g rfl rfl hs62 ?_
       refine ol_call rfl rfl cb16 rfl (fun w1 hb1 hs1 hB1 => Calls.mono (effort_told _) ?_)
       rintro e w2 ⟨rfl, hb2⟩
       refine After.below rfl hb1 hs1 hB1 hb2 ?_
       clear hb2 hB1 hs1 hb1 w2 w1
       refine ol_r (r_pickT rfl hs62 rfl) rfl ?_
       refine ol_r (r_assign rfl) rfl ?_
       refine ol_nil (to_k0 (fun _ _ h => h) (hK6 _ _ _ _ _ ?_))
       clear hK6
       refine hQ.ret (rvs1 (rv_t rfl)) (fun _ _ h => h) fun w hb hs hB hkd => ?_
       first
         | exact ⟨rfl, hb⟩
         | (exfalso; simp_all; done)
      ·have phs62 := hs62; try simp only [decide_eq_true_eq, decide_eq_false_iff_not, Bool.not_eq_true', Bool.not_eq_false', Bool.not_true, Bool.not_false] at phs62
       refine ol_s rfl rfl hs62 rfl ?_
       refine ol_r (r_pickF rfl hs62 rfl) rfl ?_
       refine ol_r (r_assign rfl) rfl ?_
       refine ol_nil (to_k0 (fun _ _ h => h) (hK6 _ _ _ _ _ ?_))
       clear hK6
       refine hQ.ret (rvs1 (rv_t rfl)) (fun _ _ h => h) fun w hb hs hB hkd => ?_
       first
         | exact ⟨rfl, hb⟩
         | (exfalso; simp_all; done)
     ·have phs57 := hs57; try simp only [decide_eq_true_eq, decide_eq_false_iff_not, Bool.not_eq_true', Bool.not_eq_false', Bool.not_true, Bool.not_false] at phs57
      refine ol_s rfl rfl hs57 rfl ?_
      refine ol_s rfl rfl hs57 rfl ?_
      refine ol_s rfl rfl hs57 rfl ?_
      refine ol_r (r_pickF rfl hs57 rfl) rfl ?_
      refine ol_r (r_move rfl) rfl ?_
      refine ol_s rfl rfl rfl rfl ?_
      refine ol_r (r_pickF rfl rfl rfl) rfl ?_
      refine ol_r (r_assign rfl) rfl ?_
      refine ol_nil (to_k0 (fun _ _ h => h) (hK6 _ _ _ _ _ ?_))
      clear hK6
      refine hQ.ret (rvs1 (rv_t rfl)) (fun _ _ h => h) fun w hb hs hB hkd => ?_
      first
        | exact ⟨rfl, hb⟩
        | (exfalso; simp_all; done)
    ·have phs52 := hs52; try simp only [decide_eq_true_eq, decide_eq_false_iff_not, Bool.not_eq_true', Bool.not_eq_false', Bool.not_true, Bool.not_false] at phs52
     refine ol_s rfl rfl hs52 rfl ?_
     refine ol_s rfl rfl hs52 rfl ?_
     refine ol_s rfl rfl hs52 rfl ?_
     refine ol_r (r_pickF rfl hs52 rfl) rfl ?_
     refine ol_r (r_move rfl) rfl ?_
     refine ol_s rfl rfl rfl rfl ?_
     refine ol_s rfl rfl rfl rfl ?_
     refine ol_s rfl rfl rfl rfl ?_
     refine ol_r (r_pickF rfl rfl rfl) rfl ?_
     refine ol_r (r_move rfl) rfl ?_
     refine ol_s rfl rfl rfl rfl ?_
     refine ol_r (r_pickF rfl rfl rfl) rfl ?_
     refine ol_r (r_assign rfl) rfl ?_
     refine ol_nil (to_k0 (fun _ _ h => h) (hK6 _ _ _ _ _ ?_))
     clear hK6
     refine hQ.ret (rvs1 (rv_t rfl)) (fun _ _ h => h) fun w hb hs hB hkd => ?_
     first
       | exact ⟨rfl, hb⟩
       | (exfalso; simp_all; done)
   ·have phs47 := hs47; try simp only [decide_eq_true_eq, decide_eq_false_iff_not, Bool.not_eq_true', Bool.not_eq_false', Bool.not_true, Bool.not_false] at phs47
    refine ol_s rfl rfl hs47 rfl ?_
    refine ol_s rfl rfl hs47 rfl ?_
    refine ol_s rfl rfl hs47 rfl ?_
    refine ol_r (r_pickF rfl hs47 rfl) rfl ?_
    refine ol_r (r_move rfl) rfl ?_
    refine ol_s rfl rfl rfl rfl ?_
    refine ol_s rfl rfl rfl rfl ?_
    refine ol_s rfl rfl rfl rfl ?_
    refine ol_r (r_pickF rfl rfl rfl) rfl ?_
    refine ol_r (r_move rfl) rfl ?_
    refine ol_s rfl rfl rfl rfl ?_
    refine ol_s rfl rfl rfl rfl ?_
    refine ol_s rfl rfl rfl rfl ?_
    refine ol_r (r_pickF rfl rfl rfl) rfl ?_
    refine ol_r (r_move rfl) rfl ?_
    refine ol_s rfl rfl rfl rfl ?_
    refine ol_r (r_pickF rfl rfl rfl) rfl ?_
    refine ol_r (r_assign rfl) rfl ?_
    refine ol_nil (to_k0 (fun _ _ h => h) (hK6 _ _ _ _ _ ?_))
    clear hK6
    refine hQ.ret (rvs1 (rv_t rfl)) (fun _ _ h => h) fun w hb hs hB hkd => ?_
    first
      | exact ⟨rfl, hb⟩
      | (exfalso; simp_all; done)
  ·have phs42 := hs42; try simp only [decide_eq_true_eq, decide_eq_false_iff_not, Bool.not_eq_true', Bool.not_eq_false', Bool.not_true, Bool.not_false] at phs42
   refine ol_s rfl rfl hs42 rfl ?_
   refine ol_s rfl rfl hs42 rfl ?_
   refine ol_s rfl rfl hs42 rfl ?_
   refine ol_r (r_pickF rfl hs42 rfl) rfl ?_
   refine ol_r (r_move rfl) rfl ?_
   refine ol_s rfl rfl rfl rfl ?_
   refine ol_s rfl rfl rfl rfl ?_
   refine ol_s rfl rfl rfl rfl ?_
   refine ol_r (r_pickF rfl rfl rfl) rfl ?_
   refine ol_r (r_move rfl) rfl ?_
   refine ol_s rfl rfl rfl rfl ?_
   refine ol_s rfl rfl rfl rfl ?_
   refine ol_s rfl rfl rfl rfl ?_
   refine ol_r (r_pickF rfl rfl rfl) rfl ?_
   refine ol_r (r_move rfl) rfl ?_
   refine ol_s rfl rfl rfl rfl ?_
   refine ol_s rfl rfl rfl rfl ?_
   refine ol_s rfl rfl rfl rfl ?_
   refine ol_r (r_pickF rfl rfl rfl) rfl ?_
   refine ol_r (r_move rfl) rfl ?_
   refine ol_s rfl rfl rfl rfl ?_
   refine ol_r (r_pickF rfl rfl rfl) rfl ?_
   refine ol_r (r_assign rfl) rfl ?_
   refine ol_nil (to_k0 (fun _ _ h => h) (hK6 _ _ _ _ _ ?_))
   clear hK6
   refine hQ.ret (rvs1 (rv_t rfl)) (fun _ _ h => h) fun w hb hs hB hkd => ?_
   first
     | exact ⟨rfl, hb⟩
     | (exfalso; simp_all; done)
end Go.Proofs.Ytafkojlccknicaa
