/-
  CheckCurve, sized, Merge, Beats: program and reference.
-/
import Derived.Test.YtafkojlccknicaaMergeM
import Derived.Test.YtafkojlccknicaaSortF
import Derived.Test.YtafkojlccknicaaHa
import Derived.Test.YtafkojlccknicaaZones
namespace Go.Proofs.Ytafkojlccknicaa
open Go Go.RowKit Hx
set_option linter.unusedVariables false
set_option linter.unusedSimpArgs false
set_option maxRecDepth 8000
theorem szs_take {xs : List BestR} {k : Nat} {x : BestR} (h : xs[k]? = some x) : szs (xs.take (k + 1)) = szs (xs.take k) ++ [x.size] := by
  unfold szs; rw [take_succ_get h, List.map_append]; rfl
theorem eff_sizesOf (a : Option Addr) (n c : Nat) (xs : List BestR) (w : World) (hl : Rd encBest w.heap.size w a n c xs) (hn : n ≤ 4398046511104) :
    Calls Try.prog 95 #[.slice a n c] w fun e w' => ∃ b m k, e = .returned (.slice b m k) ∧ Fresh encI 3 w w' b m k (szs xs) := by
  obtain rfl := hl.len
  refine enterQ (N := 19) (C := fun _ => True) (H := []) (B := w.heap.size) (args := [_]) Try.func95 rfl rfl rfl (Nat.le_refl _) (Sat.nil _ _) fun Q hQ => ?_
  refine wp_seq' fun K1 hK1 => ?_
  refine wp_reg ?_
  refine ol_r (r_assign rfl) rfl ?_
  refine ol_nil (to_k0 (fun _ _ h => h) (hK1 _ _ _ _ _ ?_))
  clear hK1
  refine wp_seq' fun K2 hK2 => ?_
  refine wp_reg ?_
  refine ol_nilrow 3 3 1 ?_
  refine ol_r (r_assign rfl) rfl ?_
  refine ol_nil (to_k0 (fun _ _ h => h) (hK2 _ _ _ _ _ ?_))
  clear hK2
  refine wp_seq' fun K3 hK3 => ?_
  refine wp_seq' fun K4 hK4 => ?_
  refine wp_reg ?_
  refine ol_r (r_move rfl) rfl ?_
  refine ol_r (r_len rfl sl38) rfl ?_
  refine ol_r (r_move rfl) rfl ?_
  refine ol_nil (to_k0 (fun _ _ h => h) (hK4 _ _ _ _ _ ?_))
  clear hK4
  refine wp_block' ?_
  apply wp_loopM (σ := Nat × Option Addr × Nat) (fun s => s.1 ≤ xs.length) (fun s => [(8, .int .i64 s.1), (3, .slice s.2.1 s.1 s.2.2)]) [(2, _), (6, _), (7, _)] (fun s => [(3, .row s.2.1 s.1 s.2.2 (encI.enc (szs (xs.take s.1))) 3 1)]) [] (fun s => xs.length - s.1) ((0, none, 0))
  ·try dsimp only
   exact Nat.zero_le _
  ·exact (sub_cons rfl (sub_cons rfl sub_nil))
  ·exact (sub_cons rfl (sub_cons rfl (sub_cons rfl sub_nil)))
  ·exact (subH_row rfl (by first | (dsimp only; rfl; done) | (rfl; done) | (dsimp only; done)) subH_nil)
  ·exact subH_nil
  ·rintro ⟨i, oa, oc⟩ hi
   dsimp only at hi ⊢
   intro K5 hK5
   refine wp_seq' fun K6 hK6 => ?_
   refine wp_reg ?_
   refine ol_r (r_lss rfl rfl) rfl ?_
   refine ol_nil (to_k0 (fun _ _ h => h) (hK6 _ _ _ _ _ ?_))
   clear hK6
   refine wp_seq' fun K7 hK7 => ?_
   first | refine wp_condD rfl (fun hc9 => ?_) (fun hc9 => ?_) | refine wp_condN rfl (fun hc9 => ?_) (fun hc9 => ?_) | refine wp_condNB rfl (fun hc9 => ?_) (fun hc9 => ?_) | refine wp_cond' rfl (fun hc9 => ?_) (fun hc9 => ?_)
   ·refine wp_skip' (to_k0 (fun _ _ h => h) (hK7 _ _ _ _ _ ?_))
    clear hK7
    refine wp_seq' fun K8 hK8 => ?_
    refine wp_block' ?_
    refine wp_seq' fun K9 hK9 => ?_
    refine wp_reg ?_
    refine ol_ixr hl rfl rfl sl38 (by omega) rfl fun x10 hx10 => ?_
    try simp only [Int.toNat_natCast] at hx10
    refine ol_r (r_ldw rfl (fun w1 hb1 hs1 hB1 => Rd.loads hl ty24 hx10 hb1)) rfl ?_
    refine ol_alloc 5 z24 rfl fun b5 => ?_
    refine ol_store (id := 5) rfl rfl rfl rfl sz24 rfl rfl (by first | decide | exact Nat.zero_lt_succ _ | simp) ?_
    refine ol_nil (to_k0 (fun _ _ h => h) (hK9 _ _ _ _ _ ?_))
    clear hK9
    refine wp_reg ?_
    refine ol_r (r_move rfl) rfl ?_
    refine ol_r (r_fa (o' := 0) rfl fl24_0 rfl) rfl ?_
    refine ol_r (r_ld (id := 5) rfl rfl rfl sc3) rfl ?_
    refine ol_bs1 15 rfl rfl rw22 rfl rfl rfl fun a15 => ?_
    refine ol_append1 (id := 3) (id2 := 15) rfl rfl rfl rfl rfl rw22 (by omega) rfl fun a16 c16 => ?_
    refine ol_r (r_assign rfl) rfl ?_
    refine ol_nil (to_k0 (fun _ _ h => h) (hK8 _ _ _ _ _ ?_))
    clear hK8
    refine wp_reg ?_
    refine ol_r (r_add rfl rfl (by omega)) rfl ?_
    refine ol_r (r_move rfl) rfl ?_
    refine ol_nil (to_k0 (fun _ _ h => h) (hK5 ((i + 1, _, _)) _ _ ?_ ?_ (sub_cons rfl (sub_cons rfl sub_nil)) (sub_cons rfl (sub_cons rfl (sub_cons rfl sub_nil))) (by exact (subH_row rfl (by first | (dsimp only; rw [szs_take hx10, Enc.enc_append]; rfl; done) | (rw [szs_take hx10, Enc.enc_append]; rfl; done) | (dsimp only; done)) subH_nil)) subH_nil))
    ·try dsimp only
     omega
    ·try dsimp only
     omega
   ·refine wp_exit' (to_k0 (fun _ _ h => h) (hK3 _ _ _ _ _ ?_))
    clear hK3
    refine wp_seq' fun K10 hK10 => ?_
    refine wp_reg ?_
    refine ol_r (r_move rfl) rfl ?_
    refine ol_r (r_assign rfl) rfl ?_
    refine ol_nil (to_k0 (fun _ _ h => h) (hK10 _ _ _ _ _ ?_))
    clear hK10
    refine hQ.ret (rvs1 (rv_t rfl)) (fun _ _ h => h) fun w hb hs hB hkd => ?_
    obtain rfl : i = xs.length := by omega
    have := hs.ok 3 _ rfl
    rw [List.take_length] at this
    exact ⟨oa, _, oc, rfl, hb, this⟩
theorem ref4_sizesOf (a : Option Addr) (n c : Nat) (xs : List BestR) (w : World) (hl : Rd encBest w.heap.size w a n c xs) (hn : n ≤ 4398046511104) :
    Calls Try.prog 101 #[.slice a n c] w fun e w' => ∃ b m k, e = .returned (.slice b m k) ∧ Fresh encI 3 w w' b m k (szs xs) := by
  obtain rfl := hl.len
  refine enterQ (N := 19) (C := fun _ => True) (H := []) (B := w.heap.size) (args := [_]) Try.func101 rfl rfl rfl (Nat.le_refl _) (Sat.nil _ _) fun Q hQ => ?_
  refine wp_seq' fun K1 hK1 => ?_
  refine wp_reg ?_
  refine ol_r (r_assign rfl) rfl ?_
  refine ol_nil (to_k0 (fun _ _ h => h) (hK1 _ _ _ _ _ ?_))
  clear hK1
  refine wp_seq' fun K2 hK2 => ?_
  refine wp_reg ?_
  refine ol_nilrow 3 3 1 ?_
  refine ol_r (r_assign rfl) rfl ?_
  refine ol_nil (to_k0 (fun _ _ h => h) (hK2 _ _ _ _ _ ?_))
  clear hK2
  refine wp_seq' fun K3 hK3 => ?_
  refine wp_seq' fun K4 hK4 => ?_
  refine wp_reg ?_
  refine ol_r (r_move rfl) rfl ?_
  refine ol_r (r_len rfl sl38) rfl ?_
  refine ol_r (r_move rfl) rfl ?_
  refine ol_nil (to_k0 (fun _ _ h => h) (hK4 _ _ _ _ _ ?_))
  clear hK4
  refine wp_block' ?_
  apply wp_loopM (σ := Nat × Option Addr × Nat) (fun s => s.1 ≤ xs.length) (fun s => [(8, .int .i64 s.1), (3, .slice s.2.1 s.1 s.2.2)]) [(2, _), (6, _), (7, _)] (fun s => [(3, .row s.2.1 s.1 s.2.2 (encI.enc (szs (xs.take s.1))) 3 1)]) [] (fun s => xs.length - s.1) ((0, none, 0))
  ·try dsimp only
   exact Nat.zero_le _
  ·exact (sub_cons rfl (sub_cons rfl sub_nil))
  ·exact (sub_cons rfl (sub_cons rfl (sub_cons rfl sub_nil)))
  ·exact (subH_row rfl (by first | (dsimp only; rfl; done) | (rfl; done) | (dsimp only; done)) subH_nil)
  ·exact subH_nil
  ·rintro ⟨i, oa, oc⟩ hi
   dsimp only at hi ⊢
   intro K5 hK5
   refine wp_seq' fun K6 hK6 => ?_
   refine wp_reg ?_
   refine ol_r (r_lss rfl rfl) rfl ?_
   refine ol_nil (to_k0 (fun _ _ h => h) (hK6 _ _ _ _ _ ?_))
   clear hK6
   refine wp_seq' fun K7 hK7 => ?_
   first | refine wp_condD rfl (fun hc9 => ?_) (fun hc9 => ?_) | refine wp_condN rfl (fun hc9 => ?_) (fun hc9 => ?_) | refine wp_condNB rfl (fun hc9 => ?_) (fun hc9 => ?_) | refine wp_cond' rfl (fun hc9 => ?_) (fun hc9 => ?_)
   ·refine wp_skip' (to_k0 (fun _ _ h => h) (hK7 _ _ _ _ _ ?_))
    clear hK7
    refine wp_seq' fun K8 hK8 => ?_
    refine wp_block' ?_
    refine wp_seq' fun K9 hK9 => ?_
    refine wp_reg ?_
    refine ol_ixr hl rfl rfl sl38 (by omega) rfl fun x10 hx10 => ?_
    try simp only [Int.toNat_natCast] at hx10
    refine ol_r (r_ldw rfl (fun w1 hb1 hs1 hB1 => Rd.loads hl ty24 hx10 hb1)) rfl ?_
    refine ol_alloc 5 z24 rfl fun b5 => ?_
    refine ol_store (id := 5) rfl rfl rfl rfl sz24 rfl rfl (by first | decide | exact Nat.zero_lt_succ _ | simp) ?_
    refine ol_nil (to_k0 (fun _ _ h => h) (hK9 _ _ _ _ _ ?_))
    clear hK9
    refine wp_reg ?_
    refine ol_r (r_move rfl) rfl ?_
    refine ol_r (r_fa (o' := 0) rfl fl24_0 rfl) rfl ?_
    refine ol_r (r_ld (id := 5) rfl rfl rfl sc3) rfl ?_
    refine ol_bs1 15 rfl rfl rw22 rfl rfl rfl fun a15 => ?_
    refine ol_append1 (id := 3) (id2 := 15) rfl rfl rfl rfl rfl rw22 (by omega) rfl fun a16 c16 => ?_
    refine ol_r (r_assign rfl) rfl ?_
    refine ol_nil (to_k0 (fun _ _ h => h) (hK8 _ _ _ _ _ ?_))
    clear hK8
    refine wp_reg ?_
    refine ol_r (r_add rfl rfl (by omega)) rfl ?_
    refine ol_r (r_move rfl) rfl ?_
    refine ol_nil (to_k0 (fun _ _ h => h) (hK5 ((i + 1, _, _)) _ _ ?_ ?_ (sub_cons rfl (sub_cons rfl sub_nil)) (sub_cons rfl (sub_cons rfl (sub_cons rfl sub_nil))) (by exact (subH_row rfl (by first | (dsimp only; rw [szs_take hx10, Enc.enc_append]; rfl; done) | (rw [szs_take hx10, Enc.enc_append]; rfl; done) | (dsimp only; done)) subH_nil)) subH_nil))
    ·try dsimp only
     omega
    ·try dsimp only
     omega
   ·refine wp_exit' (to_k0 (fun _ _ h => h) (hK3 _ _ _ _ _ ?_))
    clear hK3
    refine wp_seq' fun K10 hK10 => ?_
    refine wp_reg ?_
    refine ol_r (r_move rfl) rfl ?_
    refine ol_r (r_assign rfl) rfl ?_
    refine ol_nil (to_k0 (fun _ _ h => h) (hK10 _ _ _ _ _ ?_))
    clear hK10
    refine hQ.ret (rvs1 (rv_t rfl)) (fun _ _ h => h) fun w hb hs hB hkd => ?_
    obtain rfl : i = xs.length := by omega
    have := hs.ok 3 _ rfl
    rw [List.take_length] at this
    exact ⟨oa, _, oc, rfl, hb, this⟩
theorem chkC_s {c : List BestR} (h : sizesC (szs c) ≠ 0) : chkC c = sizesC (szs c) := if_pos h
theorem chkC_b {c : List BestR} (h : sizesC (szs c) = 0) : chkC c = bErrs c := if_neg fun h2 => h2 h
theorem bErr_eq (b : BestR) : bErr b = if b.found = false then (if b.sum = 0 ∧ b.at_ = 0 then 0 else 2) else if inB b.sum 0 (b.size * 1000000000) = true ∧ inB b.at_ 0 (1000000 - b.size) = true then 0 else 9 := by
  unfold bErr
  simp only [inB_iff, and_assoc]
theorem chkC_at {c : List BestR} {k : Nat} {b : BestR} {v : Int} (h : sizesC (szs c) = 0) (hP : bErrs c = bErrs (c.drop k)) (hb : c[k]? = some b) (hv : bErr b = v) (h0 : v ≠ 0) : chkC c = v := by
  rw [chkC_b h, hP, bErrs_bad hb (by rw [hv]; exact h0), hv]
theorem eff_CheckCurve (a : Option Addr) (n c : Nat) (xs : List BestR) (w : World) (hl : Rd encBest w.heap.size w a n c xs) (hn : n ≤ 4398046511104) :
    Calls Try.prog 52 #[.slice a n c] w fun e w' => e = .returned (.int .i64 (chkC xs)) ∧ Below w.heap.size w w' := by
  obtain rfl := hl.len
  refine enterQ (N := 54) (C := fun _ => True) (H := []) (B := w.heap.size) (args := [_]) Try.func52 rfl rfl rfl (Nat.le_refl _) (Sat.nil _ _) fun Q hQ => ?_
  refine wp_seq' fun K1 hK1 => ?_
  refine wp_reg ?_
  refine ol_r (r_assign rfl) rfl ?_
  refine ol_nil (to_k0 (fun _ _ h => h) (hK1 _ _ _ _ _ ?_))
  clear hK1
  refine wp_seq' fun K2 hK2 => ?_
  refine wp_seq' fun K3 hK3 => ?_
  refine wp_reg ?_
  refine ol_r (r_move rfl) rfl ?_
  refine ol_call rfl rfl cb95 rfl (fun w1 hb1 hs1 hB1 => Calls.mono (eff_sizesOf _ _ _ xs _ (hl.at hb1 hB1) hn) ?_)
  rintro e w2 ⟨a7, n7, c7, rfl, hf7⟩
  refine After.fresh (id := 7) rfl hb1 hs1 hB1 hf7 ?_
  have hl7 := hf7.len; clear hf7 hB1 hs1 hb1 w2 w1
  refine ol_call rfl rfl cb33 rfl (fun w1 hb1 hs1 hB1 => Calls.mono (effort_CheckSizes _ _ _ (szs xs) _ (Sat.rd hs1 (E := encI) (id := 7) rfl rfl)) ?_)
  rintro e w2 ⟨rfl, hb2⟩
  refine After.below rfl hb1 hs1 hB1 hb2 ?_
  clear hb2 hB1 hs1 hb1 w2 w1
  refine ol_r (r_assign rfl) rfl ?_
  refine ol_nil (to_k0 (fun _ _ h => h) (hK3 _ _ _ _ _ ?_))
  clear hK3
  refine wp_seq' fun K4 hK4 => ?_
  refine wp_reg ?_
  refine ol_r (r_move rfl) rfl ?_
  refine ol_r (r_neq rfl rfl) rfl ?_
  refine ol_nil (to_k0 (fun _ _ h => h) (hK4 _ _ _ _ _ ?_))
  clear hK4
  first | refine wp_condD rfl (fun hc10 => ?_) (fun hc10 => ?_) | refine wp_condN rfl (fun hc10 => ?_) (fun hc10 => ?_) | refine wp_condNB rfl (fun hc10 => ?_) (fun hc10 => ?_) | refine wp_cond' rfl (fun hc10 => ?_) (fun hc10 => ?_)
  ·refine wp_seq' fun K5 hK5 => ?_
   refine wp_reg ?_
   refine ol_r (r_move rfl) rfl ?_
   refine ol_r (r_assign rfl) rfl ?_
   refine ol_nil (to_k0 (fun _ _ h => h) (hK5 _ _ _ _ _ ?_))
   clear hK5
   refine hQ.ret (rvs1 (rv_t rfl)) (fun _ _ h => h) fun w hb hs hB hkd => ?_
   exact ⟨by rw [chkC_s hc10], hb⟩
  ·refine wp_skip' (to_k0 (fun _ _ h => h) (hK2 _ _ _ _ _ ?_))
   clear hK2
   refine wp_seq' fun K6 hK6 => ?_
   refine wp_seq' fun K7 hK7 => ?_
   refine wp_reg ?_
   refine ol_r (r_move rfl) rfl ?_
   refine ol_r (r_len rfl sl38) rfl ?_
   have hz := sizesC_ok (Decidable.not_not.1 hc10)
   refine ol_r (r_move rfl) rfl ?_
   refine ol_nil (to_k0 (fun _ _ h => h) (hK7 _ _ _ _ _ ?_))
   clear hK7
   refine wp_block' ?_
   apply wp_loopM (σ := Nat) (fun s => s ≤ xs.length ∧ bErrs xs = bErrs (xs.drop s)) (fun s => [(14, .int .i64 s)]) [(12, _), (13, _)] (fun s => []) [(7, _)] (fun s => xs.length - s) (0)
   ·try dsimp only
    exact ⟨Nat.zero_le _, rfl⟩
   ·exact (sub_cons rfl sub_nil)
   ·exact (sub_cons rfl (sub_cons rfl sub_nil))
   ·exact subH_nil
   ·exact (subH_same rfl subH_nil)
   ·rintro k ⟨hk, hP⟩
    intro K8 hK8
    refine wp_seq' fun K9 hK9 => ?_
    refine wp_reg ?_
    refine ol_r (r_lss rfl rfl) rfl ?_
    refine ol_nil (to_k0 (fun _ _ h => h) (hK9 _ _ _ _ _ ?_))
    clear hK9
    refine wp_seq' fun K10 hK10 => ?_
    first | refine wp_condD rfl (fun hc15 => ?_) (fun hc15 => ?_) | refine wp_condN rfl (fun hc15 => ?_) (fun hc15 => ?_) | refine wp_condNB rfl (fun hc15 => ?_) (fun hc15 => ?_) | refine wp_cond' rfl (fun hc15 => ?_) (fun hc15 => ?_)
    ·refine wp_skip' (to_k0 (fun _ _ h => h) (hK10 _ _ _ _ _ ?_))
     clear hK10
     refine wp_seq' fun K11 hK11 => ?_
     refine wp_block' ?_
     refine wp_seq' fun K12 hK12 => ?_
     refine wp_reg ?_
     refine ol_ixr hl rfl rfl sl38 (by omega) rfl fun x16 hx16 => ?_
     try simp only [Int.toNat_natCast] at hx16
     refine ol_r (r_ldw rfl (fun w1 hb1 hs1 hB1 => Rd.loads hl ty24 hx16 hb1)) rfl ?_
     refine ol_alloc 5 z24 rfl fun b5 => ?_
     refine ol_store (id := 5) rfl rfl rfl rfl sz24 rfl rfl (by first | decide | exact Nat.zero_lt_succ _ | simp) ?_
     refine ol_nil (to_k0 (fun _ _ h => h) (hK12 _ _ _ _ _ ?_))
     clear hK12
     refine wp_block' ?_
     refine wp_seq' fun K13 hK13 => ?_
     refine wp_reg ?_
     refine ol_r (r_fa (o' := 3) rfl fl24_3 rfl) rfl ?_
     refine ol_r (r_ld (id := 5) rfl rfl rfl sc4) rfl ?_
     refine ol_r (r_not rfl) rfl ?_
     refine ol_r (r_move rfl) rfl ?_
     refine ol_split (d := 22) rfl (fun hs22 => ?_) (fun hs22 => ?_)
     ·have phs22 := hs22; try simp only [decide_eq_true_eq, decide_eq_false_iff_not, Bool.not_eq_true', Bool.not_eq_false', Bool.not_true, Bool.not_false] at phs22
      refine ol_g rfl rfl hs22 ?_
      refine ol_r (r_fa (o' := 1) rfl fl24_1 rfl) rfl ?_
      refine ol_g rfl rfl hs22 ?_
      refine ol_r (r_ld (id := 5) rfl rfl rfl sc3) rfl ?_
      refine ol_g rfl rfl hs22 ?_
      refine ol_r (r_neq rfl rfl) rfl ?_
      refine ol_g rfl rfl hs22 ?_
      refine ol_r (r_move rfl) rfl ?_
      refine ol_split (d := 26) rfl (fun hs26 => ?_) (fun hs26 => ?_)
      ·have phs26 := hs26; try simp only [decide_eq_true_eq, decide_eq_false_iff_not, Bool.not_eq_true', Bool.not_eq_false', Bool.not_true, Bool.not_false] at phs26
       refine ol_s rfl rfl hs26 rfl ?_
       refine ol_s rfl rfl hs26 rfl ?_
       refine ol_s rfl rfl hs26 rfl ?_
       refine ol_g rfl rfl hs22 ?_
       refine ol_r (r_pickT rfl hs26 rfl) rfl ?_
       refine ol_r (r_pickT rfl hs22 rfl) rfl ?_
       refine ol_r (r_assign rfl) rfl ?_
       refine ol_nil (to_k0 (fun _ _ h => h) (hK13 _ _ _ _ _ ?_))
       clear hK13
       refine wp_condT rfl ?_
       refine wp_seq' fun K14 hK14 => ?_
       refine wp_reg ?_
       refine ol_r (r_assign rfl) rfl ?_
       refine ol_nil (to_k0 (fun _ _ h => h) (hK14 _ _ _ _ _ ?_))
       clear hK14
       refine hQ.ret (rvs1 (rv_t rfl)) (fun _ _ h => h) fun w hb hs hB hkd => ?_
       first
         | (have hke : xs.length ≤ k := by omega
            exact ⟨by rw [chkC_b (Decidable.not_not.1 hc10), hP, List.drop_eq_nil_of_le hke]; rfl, hb⟩)
         | (refine ⟨congrArg (fun v => Ending.returned (Value.int .i64 v)) (chkC_at (Decidable.not_not.1 hc10) hP hx16 ?_ (by decide)).symm, hb⟩
            rw [bErr_eq]
            simp_all
            done)
      ·have phs26 := hs26; try simp only [decide_eq_true_eq, decide_eq_false_iff_not, Bool.not_eq_true', Bool.not_eq_false', Bool.not_true, Bool.not_false] at phs26
       refine ol_g rfl rfl hs26 ?_
       refine ol_r (r_fa (o' := 2) rfl fl24_2 rfl) rfl ?_
       refine ol_g rfl rfl hs26 ?_
       refine ol_r (r_ld (id := 5) rfl rfl rfl sc3) rfl ?_
       refine ol_g rfl rfl hs26 ?_
       refine ol_r (r_neq rfl rfl) rfl ?_
       refine ol_g rfl rfl hs22 ?_
       refine ol_r (r_pickF rfl hs26 rfl) rfl ?_
       refine ol_r (r_pickT rfl hs22 rfl) rfl ?_
       refine ol_r (r_assign rfl) rfl ?_
       refine ol_nil (to_k0 (fun _ _ h => h) (hK13 _ _ _ _ _ ?_))
       clear hK13
       first | refine wp_condD rfl (fun hc18 => ?_) (fun hc18 => ?_) | refine wp_condN rfl (fun hc18 => ?_) (fun hc18 => ?_) | refine wp_condNB rfl (fun hc18 => ?_) (fun hc18 => ?_) | refine wp_cond' rfl (fun hc18 => ?_) (fun hc18 => ?_)
       ·refine wp_seq' fun K15 hK15 => ?_
        refine wp_reg ?_
        refine ol_r (r_assign rfl) rfl ?_
        refine ol_nil (to_k0 (fun _ _ h => h) (hK15 _ _ _ _ _ ?_))
        clear hK15
        refine hQ.ret (rvs1 (rv_t rfl)) (fun _ _ h => h) fun w hb hs hB hkd => ?_
        first
          | (have hke : xs.length ≤ k := by omega
             exact ⟨by rw [chkC_b (Decidable.not_not.1 hc10), hP, List.drop_eq_nil_of_le hke]; rfl, hb⟩)
          | (refine ⟨congrArg (fun v => Ending.returned (Value.int .i64 v)) (chkC_at (Decidable.not_not.1 hc10) hP hx16 ?_ (by decide)).symm, hb⟩
             rw [bErr_eq]
             simp_all
             done)
       ·refine wp_seq' fun K16 hK16 => ?_
        refine wp_reg ?_
        refine ol_r (r_fa (o' := 3) rfl fl24_3 rfl) rfl ?_
        refine ol_r (r_ld (id := 5) rfl rfl rfl sc4) rfl ?_
        refine ol_r (r_move rfl) rfl ?_
        refine ol_split (d := 35) rfl (fun hs35 => ?_) (fun hs35 => ?_)
        ·have phs35 := hs35; try simp only [decide_eq_true_eq, decide_eq_false_iff_not, Bool.not_eq_true', Bool.not_eq_false', Bool.not_true, Bool.not_false] at phs35
         refine ol_g rfl rfl hs35 ?_
         refine ol_r (r_fa (o' := 1) rfl fl24_1 rfl) rfl ?_
         refine ol_g rfl rfl hs35 ?_
         refine ol_r (r_ld (id := 5) rfl rfl rfl sc3) rfl ?_
         refine ol_g rfl rfl hs35 ?_
         refine ol_r (r_fa (o' := 0) rfl fl24_0 rfl) rfl ?_
         refine ol_g rfl rfl hs35 ?_
         refine ol_r (r_ld (id := 5) rfl rfl rfl sc3) rfl ?_
         refine ol_g rfl rfl hs35 ?_
         have hzz := hz.2.2.1 x16.size (List.mem_map_of_mem (f := (·.size)) (List.mem_of_getElem? hx16))
         refine ol_r (r_mul rfl rfl (by omega)) rfl ?_
         refine ol_g rfl rfl hs35 ?_
         refine ol_call rfl rfl cb69 rfl (fun w1 hb1 hs1 hB1 => Calls.mono (effort_in _ _ _ _) ?_)
         rintro e w2 ⟨rfl, hb2⟩
         refine After.below rfl hb1 hs1 hB1 hb2 ?_
         clear hb2 hB1 hs1 hb1 w2 w1
         refine ol_g rfl rfl hs35 ?_
         refine ol_r (r_not rfl) rfl ?_
         refine ol_g rfl rfl hs35 ?_
         refine ol_r (r_move rfl) rfl ?_
         refine ol_split (d := 43) rfl (fun hs43 => ?_) (fun hs43 => ?_)
         ·have phs43 := hs43; try simp only [decide_eq_true_eq, decide_eq_false_iff_not, Bool.not_eq_true', Bool.not_eq_false', Bool.not_true, Bool.not_false] at phs43
          refine ol_s rfl rfl hs43 rfl ?_
          refine ol_s rfl rfl hs43 rfl ?_
          refine ol_s rfl rfl hs43 rfl ?_
          refine ol_s rfl rfl hs43 rfl ?_
          refine ol_s rfl rfl hs43 rfl ?_
          refine ol_s rfl rfl hs43 rfl ?_
          refine ol_s rfl rfl hs43 rfl ?_
          refine ol_g rfl rfl hs35 ?_
          refine ol_r (r_pickT rfl hs43 rfl) rfl ?_
          refine ol_r (r_pickT rfl hs35 rfl) rfl ?_
          refine ol_r (r_assign rfl) rfl ?_
          refine ol_nil (to_k0 (fun _ _ h => h) (hK16 _ _ _ _ _ ?_))
          clear hK16
          refine wp_condT rfl ?_
          refine wp_seq' fun K17 hK17 => ?_
          refine wp_reg ?_
          refine ol_r (r_assign rfl) rfl ?_
          refine ol_nil (to_k0 (fun _ _ h => h) (hK17 _ _ _ _ _ ?_))
          clear hK17
          refine hQ.ret (rvs1 (rv_t rfl)) (fun _ _ h => h) fun w hb hs hB hkd => ?_
          first
            | (have hke : xs.length ≤ k := by omega
               exact ⟨by rw [chkC_b (Decidable.not_not.1 hc10), hP, List.drop_eq_nil_of_le hke]; rfl, hb⟩)
            | (refine ⟨congrArg (fun v => Ending.returned (Value.int .i64 v)) (chkC_at (Decidable.not_not.1 hc10) hP hx16 ?_ (by decide)).symm, hb⟩
               rw [bErr_eq]
               simp_all
               done)
         ·have phs43 := hs43; try simp only [decide_eq_true_eq, decide_eq_false_iff_not, Bool.not_eq_true', Bool.not_eq_false', Bool.not_true, Bool.not_false] at phs43
          refine ol_g rfl rfl hs43 ?_
          refine ol_r (r_fa (o' := 2) rfl fl24_2 rfl) rfl ?_
          refine ol_g rfl rfl hs43 ?_
          refine ol_r (r_ld (id := 5) rfl rfl rfl sc3) rfl ?_
          refine ol_g rfl rfl hs43 ?_
          refine ol_r (r_fa (o' := 0) rfl fl24_0 rfl) rfl ?_
          refine ol_g rfl rfl hs43 ?_
          refine ol_r (r_ld (id := 5) rfl rfl rfl sc3) rfl ?_
          refine ol_g rfl rfl hs43 ?_
          refine ol_r (r_sub rfl rfl (by omega)) rfl ?_
          refine ol_g rfl rfl hs43 ?_
          refine ol_call rfl rfl cb69 rfl (fun w1 hb1 hs1 hB1 => Calls.mono (effort_in _ _ _ _) ?_)
          rintro e w2 ⟨rfl, hb2⟩
          refine After.below rfl hb1 hs1 hB1 hb2 ?_
          clear hb2 hB1 hs1 hb1 w2 w1
          refine ol_g rfl rfl hs43 ?_
          refine ol_r (r_not rfl) rfl ?_
          refine ol_g rfl rfl hs35 ?_
          refine ol_r (r_pickF rfl hs43 rfl) rfl ?_
          refine ol_r (r_pickT rfl hs35 rfl) rfl ?_
          refine ol_r (r_assign rfl) rfl ?_
          refine ol_nil (to_k0 (fun _ _ h => h) (hK16 _ _ _ _ _ ?_))
          clear hK16
          first | refine wp_condD rfl (fun hc32 => ?_) (fun hc32 => ?_) | refine wp_condN rfl (fun hc32 => ?_) (fun hc32 => ?_) | refine wp_condNB rfl (fun hc32 => ?_) (fun hc32 => ?_) | refine wp_cond' rfl (fun hc32 => ?_) (fun hc32 => ?_)
          ·refine wp_seq' fun K18 hK18 => ?_
           refine wp_reg ?_
           refine ol_r (r_assign rfl) rfl ?_
           refine ol_nil (to_k0 (fun _ _ h => h) (hK18 _ _ _ _ _ ?_))
           clear hK18
           refine hQ.ret (rvs1 (rv_t rfl)) (fun _ _ h => h) fun w hb hs hB hkd => ?_
           first
             | (have hke : xs.length ≤ k := by omega
                exact ⟨by rw [chkC_b (Decidable.not_not.1 hc10), hP, List.drop_eq_nil_of_le hke]; rfl, hb⟩)
             | (refine ⟨congrArg (fun v => Ending.returned (Value.int .i64 v)) (chkC_at (Decidable.not_not.1 hc10) hP hx16 ?_ (by decide)).symm, hb⟩
                rw [bErr_eq]
                simp_all
                done)
          ·refine wp_skip' (to_k0 (fun _ _ h => h) (hK11 _ _ _ _ _ ?_))
           clear hK11
           refine wp_reg ?_
           refine ol_r (r_add rfl rfl (by omega)) rfl ?_
           have hz := sizesC_ok (Decidable.not_not.1 hc10)
           refine ol_r (r_move rfl) rfl ?_
           refine ol_nil (to_k0 (fun _ _ h => h) (hK8 (k + 1) _ _ ?_ ?_ (sub_cons rfl sub_nil) (sub_cons rfl (sub_cons rfl sub_nil)) (by exact subH_nil) (subH_same rfl subH_nil)))
           ·try dsimp only
            have hbe : bErr x16 = 0 := by (rw [bErr_eq]; simp_all; done)
            exact ⟨by omega, hP.trans (bErrs_next hx16 hbe)⟩
           ·try dsimp only
            omega
        ·have phs35 := hs35; try simp only [decide_eq_true_eq, decide_eq_false_iff_not, Bool.not_eq_true', Bool.not_eq_false', Bool.not_true, Bool.not_false] at phs35
         refine ol_s rfl rfl hs35 rfl ?_
         refine ol_s rfl rfl hs35 rfl ?_
         refine ol_s rfl rfl hs35 rfl ?_
         refine ol_s rfl rfl hs35 rfl ?_
         refine ol_s rfl rfl hs35 rfl ?_
         refine ol_s rfl rfl hs35 rfl ?_
         refine ol_s rfl rfl hs35 rfl ?_
         refine ol_s rfl rfl hs35 rfl ?_
         refine ol_u rfl rfl rfl ?_
         refine ol_u rfl rfl rfl ?_
         refine ol_u rfl rfl rfl ?_
         refine ol_u rfl rfl rfl ?_
         refine ol_u rfl rfl rfl ?_
         refine ol_u rfl rfl rfl ?_
         refine ol_u rfl rfl rfl ?_
         refine ol_s rfl rfl hs35 rfl ?_
         refine ol_r (r_pickF rfl hs35 rfl) rfl ?_
         refine ol_r (r_assign rfl) rfl ?_
         refine ol_nil (to_k0 (fun _ _ h => h) (hK16 _ _ _ _ _ ?_))
         clear hK16
         refine wp_condF rfl ?_
         refine wp_skip' (to_k0 (fun _ _ h => h) (hK11 _ _ _ _ _ ?_))
         clear hK11
         refine wp_reg ?_
         refine ol_r (r_add rfl rfl (by omega)) rfl ?_
         have hz := sizesC_ok (Decidable.not_not.1 hc10)
         refine ol_r (r_move rfl) rfl ?_
         refine ol_nil (to_k0 (fun _ _ h => h) (hK8 (k + 1) _ _ ?_ ?_ (sub_cons rfl sub_nil) (sub_cons rfl (sub_cons rfl sub_nil)) (by exact subH_nil) (subH_same rfl subH_nil)))
         ·try dsimp only
          have hbe : bErr x16 = 0 := by (rw [bErr_eq]; simp_all; done)
          exact ⟨by omega, hP.trans (bErrs_next hx16 hbe)⟩
         ·try dsimp only
          omega
     ·have phs22 := hs22; try simp only [decide_eq_true_eq, decide_eq_false_iff_not, Bool.not_eq_true', Bool.not_eq_false', Bool.not_true, Bool.not_false] at phs22
      refine ol_s rfl rfl hs22 rfl ?_
      refine ol_s rfl rfl hs22 rfl ?_
      refine ol_s rfl rfl hs22 rfl ?_
      refine ol_s rfl rfl hs22 rfl ?_
      refine ol_u rfl rfl rfl ?_
      refine ol_u rfl rfl rfl ?_
      refine ol_u rfl rfl rfl ?_
      refine ol_s rfl rfl hs22 rfl ?_
      refine ol_r (r_pickF rfl hs22 rfl) rfl ?_
      refine ol_r (r_assign rfl) rfl ?_
      refine ol_nil (to_k0 (fun _ _ h => h) (hK13 _ _ _ _ _ ?_))
      clear hK13
      refine wp_condF rfl ?_
      refine wp_seq' fun K19 hK19 => ?_
      refine wp_reg ?_
      refine ol_r (r_fa (o' := 3) rfl fl24_3 rfl) rfl ?_
      refine ol_r (r_ld (id := 5) rfl rfl rfl sc4) rfl ?_
      refine ol_r (r_move rfl) rfl ?_
      refine ol_split (d := 35) rfl (fun hs35 => ?_) (fun hs35 => ?_)
      ·have phs35 := hs35; try simp only [decide_eq_true_eq, decide_eq_false_iff_not, Bool.not_eq_true', Bool.not_eq_false', Bool.not_true, Bool.not_false] at phs35
       refine ol_g rfl rfl hs35 ?_
       refine ol_r (r_fa (o' := 1) rfl fl24_1 rfl) rfl ?_
       refine ol_g rfl rfl hs35 ?_
       refine ol_r (r_ld (id := 5) rfl rfl rfl sc3) rfl ?_
       refine ol_g rfl rfl hs35 ?_
       refine ol_r (r_fa (o' := 0) rfl fl24_0 rfl) rfl ?_
       refine ol_g rfl rfl hs35 ?_
       refine ol_r (r_ld (id := 5) rfl rfl rfl sc3) rfl ?_
       refine ol_g rfl rfl hs35 ?_
       have hzz := hz.2.2.1 x16.size (List.mem_map_of_mem (f := (·.size)) (List.mem_of_getElem? hx16))
       refine ol_r (r_mul rfl rfl (by omega)) rfl ?_
       refine ol_g rfl rfl hs35 ?_
       refine ol_call rfl rfl cb69 rfl (fun w1 hb1 hs1 hB1 => Calls.mono (effort_in _ _ _ _) ?_)
       rintro e w2 ⟨rfl, hb2⟩
       refine After.below rfl hb1 hs1 hB1 hb2 ?_
       clear hb2 hB1 hs1 hb1 w2 w1
       refine ol_g rfl rfl hs35 ?_
       refine ol_r (r_not rfl) rfl ?_
       refine ol_g rfl rfl hs35 ?_
       refine ol_r (r_move rfl) rfl ?_
       refine ol_split (d := 43) rfl (fun hs43 => ?_) (fun hs43 => ?_)
       ·have phs43 := hs43; try simp only [decide_eq_true_eq, decide_eq_false_iff_not, Bool.not_eq_true', Bool.not_eq_false', Bool.not_true, Bool.not_false] at phs43
        refine ol_s rfl rfl hs43 rfl ?_
        refine ol_s rfl rfl hs43 rfl ?_
        refine ol_s rfl rfl hs43 rfl ?_
        refine ol_s rfl rfl hs43 rfl ?_
        refine ol_s rfl rfl hs43 rfl ?_
        refine ol_s rfl rfl hs43 rfl ?_
        refine ol_s rfl rfl hs43 rfl ?_
        refine ol_g rfl rfl hs35 ?_
        refine ol_r (r_pickT rfl hs43 rfl) rfl ?_
        refine ol_r (r_pickT rfl hs35 rfl) rfl ?_
        refine ol_r (r_assign rfl) rfl ?_
        refine ol_nil (to_k0 (fun _ _ h => h) (hK19 _ _ _ _ _ ?_))
        clear hK19
        refine wp_condT rfl ?_
        refine wp_seq' fun K20 hK20 => ?_
        refine wp_reg ?_
        refine ol_r (r_assign rfl) rfl ?_
        refine ol_nil (to_k0 (fun _ _ h => h) (hK20 _ _ _ _ _ ?_))
        clear hK20
        refine hQ.ret (rvs1 (rv_t rfl)) (fun _ _ h => h) fun w hb hs hB hkd => ?_
        first
          | (have hke : xs.length ≤ k := by omega
             exact ⟨by rw [chkC_b (Decidable.not_not.1 hc10), hP, List.drop_eq_nil_of_le hke]; rfl, hb⟩)
          | (refine ⟨congrArg (fun v => Ending.returned (Value.int .i64 v)) (chkC_at (Decidable.not_not.1 hc10) hP hx16 ?_ (by decide)).symm, hb⟩
             rw [bErr_eq]
             simp_all
             done)
       ·have phs43 := hs43; try simp only [decide_eq_true_eq, decide_eq_false_iff_not, Bool.not_eq_true', Bool.not_eq_false', Bool.not_true, Bool.not_false] at phs43
        refine ol_g rfl rfl hs43 ?_
        refine ol_r (r_fa (o' := 2) rfl fl24_2 rfl) rfl ?_
        refine ol_g rfl rfl hs43 ?_
        refine ol_r (r_ld (id := 5) rfl rfl rfl sc3) rfl ?_
        refine ol_g rfl rfl hs43 ?_
        refine ol_r (r_fa (o' := 0) rfl fl24_0 rfl) rfl ?_
        refine ol_g rfl rfl hs43 ?_
        refine ol_r (r_ld (id := 5) rfl rfl rfl sc3) rfl ?_
        refine ol_g rfl rfl hs43 ?_
        refine ol_r (r_sub rfl rfl (by omega)) rfl ?_
        refine ol_g rfl rfl hs43 ?_
        refine ol_call rfl rfl cb69 rfl (fun w1 hb1 hs1 hB1 => Calls.mono (effort_in _ _ _ _) ?_)
        rintro e w2 ⟨rfl, hb2⟩
        refine After.below rfl hb1 hs1 hB1 hb2 ?_
        clear hb2 hB1 hs1 hb1 w2 w1
        refine ol_g rfl rfl hs43 ?_
        refine ol_r (r_not rfl) rfl ?_
        refine ol_g rfl rfl hs35 ?_
        refine ol_r (r_pickF rfl hs43 rfl) rfl ?_
        refine ol_r (r_pickT rfl hs35 rfl) rfl ?_
        refine ol_r (r_assign rfl) rfl ?_
        refine ol_nil (to_k0 (fun _ _ h => h) (hK19 _ _ _ _ _ ?_))
        clear hK19
        first | refine wp_condD rfl (fun hc32 => ?_) (fun hc32 => ?_) | refine wp_condN rfl (fun hc32 => ?_) (fun hc32 => ?_) | refine wp_condNB rfl (fun hc32 => ?_) (fun hc32 => ?_) | refine wp_cond' rfl (fun hc32 => ?_) (fun hc32 => ?_)
        ·refine wp_seq' fun K21 hK21 => ?_
         refine wp_reg ?_
         refine ol_r (r_assign rfl) rfl ?_
         refine ol_nil (to_k0 (fun _ _ h => h) (hK21 _ _ _ _ _ ?_))
         clear hK21
         refine hQ.ret (rvs1 (rv_t rfl)) (fun _ _ h => h) fun w hb hs hB hkd => ?_
         first
           | (have hke : xs.length ≤ k := by omega
              exact ⟨by rw [chkC_b (Decidable.not_not.1 hc10), hP, List.drop_eq_nil_of_le hke]; rfl, hb⟩)
           | (refine ⟨congrArg (fun v => Ending.returned (Value.int .i64 v)) (chkC_at (Decidable.not_not.1 hc10) hP hx16 ?_ (by decide)).symm, hb⟩
              rw [bErr_eq]
              simp_all
              done)
        ·refine wp_skip' (to_k0 (fun _ _ h => h) (hK11 _ _ _ _ _ ?_))
         clear hK11
         refine wp_reg ?_
         refine ol_r (r_add rfl rfl (by omega)) rfl ?_
         have hz := sizesC_ok (Decidable.not_not.1 hc10)
         refine ol_r (r_move rfl) rfl ?_
         refine ol_nil (to_k0 (fun _ _ h => h) (hK8 (k + 1) _ _ ?_ ?_ (sub_cons rfl sub_nil) (sub_cons rfl (sub_cons rfl sub_nil)) (by exact subH_nil) (subH_same rfl subH_nil)))
         ·try dsimp only
          have hbe : bErr x16 = 0 := by (rw [bErr_eq]; simp_all; done)
          exact ⟨by omega, hP.trans (bErrs_next hx16 hbe)⟩
         ·try dsimp only
          omega
      ·have phs35 := hs35; try simp only [decide_eq_true_eq, decide_eq_false_iff_not, Bool.not_eq_true', Bool.not_eq_false', Bool.not_true, Bool.not_false] at phs35
       refine ol_s rfl rfl hs35 rfl ?_
       refine ol_s rfl rfl hs35 rfl ?_
       refine ol_s rfl rfl hs35 rfl ?_
       refine ol_s rfl rfl hs35 rfl ?_
       refine ol_s rfl rfl hs35 rfl ?_
       refine ol_s rfl rfl hs35 rfl ?_
       refine ol_s rfl rfl hs35 rfl ?_
       refine ol_s rfl rfl hs35 rfl ?_
       refine ol_u rfl rfl rfl ?_
       refine ol_u rfl rfl rfl ?_
       refine ol_u rfl rfl rfl ?_
       refine ol_u rfl rfl rfl ?_
       refine ol_u rfl rfl rfl ?_
       refine ol_u rfl rfl rfl ?_
       refine ol_u rfl rfl rfl ?_
       refine ol_s rfl rfl hs35 rfl ?_
       refine ol_r (r_pickF rfl hs35 rfl) rfl ?_
       refine ol_r (r_assign rfl) rfl ?_
       refine ol_nil (to_k0 (fun _ _ h => h) (hK19 _ _ _ _ _ ?_))
       clear hK19
       refine wp_condF rfl ?_
       refine wp_skip' (to_k0 (fun _ _ h => h) (hK11 _ _ _ _ _ ?_))
       clear hK11
       refine wp_reg ?_
       refine ol_r (r_add rfl rfl (by omega)) rfl ?_
       have hz := sizesC_ok (Decidable.not_not.1 hc10)
       refine ol_r (r_move rfl) rfl ?_
       refine ol_nil (to_k0 (fun _ _ h => h) (hK8 (k + 1) _ _ ?_ ?_ (sub_cons rfl sub_nil) (sub_cons rfl (sub_cons rfl sub_nil)) (by exact subH_nil) (subH_same rfl subH_nil)))
       ·try dsimp only
        have hbe : bErr x16 = 0 := by (rw [bErr_eq]; simp_all; done)
        exact ⟨by omega, hP.trans (bErrs_next hx16 hbe)⟩
       ·try dsimp only
        omega
    ·refine wp_exit' (to_k0 (fun _ _ h => h) (hK6 _ _ _ _ _ ?_))
     clear hK6
     refine wp_seq' fun K22 hK22 => ?_
     refine wp_reg ?_
     refine ol_r (r_assign rfl) rfl ?_
     refine ol_nil (to_k0 (fun _ _ h => h) (hK22 _ _ _ _ _ ?_))
     clear hK22
     refine hQ.ret (rvs1 (rv_t rfl)) (fun _ _ h => h) fun w hb hs hB hkd => ?_
     first
       | (have hke : xs.length ≤ k := by omega
          exact ⟨by rw [chkC_b (Decidable.not_not.1 hc10), hP, List.drop_eq_nil_of_le hke]; rfl, hb⟩)
       | (refine ⟨congrArg (fun v => Ending.returned (Value.int .i64 v)) (chkC_at (Decidable.not_not.1 hc10) hP hx16 ?_ (by decide)).symm, hb⟩
          rw [bErr_eq]
          simp_all
          done)
end Go.Proofs.Ytafkojlccknicaa
