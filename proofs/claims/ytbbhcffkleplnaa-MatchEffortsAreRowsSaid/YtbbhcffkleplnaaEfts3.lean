/-
  MatchEffortsAreRows.
-/
import Derived.Test.YtbbhcffkleplnaaEft3M
import Derived.Test.YtbbhcffkleplnaaEfts2
namespace Go.Proofs.Ytbbhcffkleplnaa
open Go Go.RowKit Hx
set_option linter.unusedVariables false
set_option linter.unusedSimpArgs false
set_option maxRecDepth 8000
theorem cmp_LessI (x y : Int) (w : World) : Calls Try.prog 58 #[.int .i64 x, .int .i64 y] w fun e w' => e = .returned (.bool (decide (x < y))) ∧ Below w.heap.size w w' := by
  refine enterQ (N := 17) (C := fun _ => True) (H := []) (B := w.heap.size) (args := [_, _]) Try.func58 rfl rfl rfl (Nat.le_refl _) (Sat.nil _ _) fun Q hQ => ?_
  refine wp_seq' fun K1 hK1 => ?_
  refine wp_reg ?_
  refine ol_r (r_assign rfl) rfl ?_
  refine ol_nil (to_k0 (fun _ _ h => h) (hK1 _ _ _ _ _ ?_))
  clear hK1
  refine wp_seq' fun K2 hK2 => ?_
  refine wp_reg ?_
  refine ol_r (r_move rfl) rfl ?_
  refine ol_call rfl rfl cb85 rfl (fun w1 hb1 hs1 hB1 => Calls.mono (cmp_isNaNI _ _) ?_)
  rintro e w2 ⟨rfl, hb2⟩
  refine After.below rfl hb1 hs1 hB1 hb2 ?_
  clear hb2 hB1 hs1 hb1 w2 w1
  refine ol_r (r_move rfl) rfl ?_
  refine ol_split (d := 7) rfl (fun hs7 => ?_) (fun hs7 => ?_)
  ·have phs7 := hs7; try simp only [decide_eq_true_eq, decide_eq_false_iff_not, Bool.not_eq_true', Bool.not_eq_false', Bool.not_true, Bool.not_false] at phs7
   refine ol_g rfl rfl hs7 ?_
   refine ol_r (r_move rfl) rfl ?_
   refine ol_g rfl rfl hs7 ?_
   refine ol_call rfl rfl cb85 rfl (fun w1 hb1 hs1 hB1 => Calls.mono (cmp_isNaNI _ _) ?_)
   rintro e w2 ⟨rfl, hb2⟩
   refine After.below rfl hb1 hs1 hB1 hb2 ?_
   clear hb2 hB1 hs1 hb1 w2 w1
   refine ol_g rfl rfl hs7 ?_
   refine ol_r (r_not rfl) rfl ?_
   refine ol_r (r_pickT rfl hs7 rfl) rfl ?_
   refine ol_r (r_move rfl) rfl ?_
   refine ol_split (d := 12) rfl (fun hs12 => ?_) (fun hs12 => ?_)
   ·have phs12 := hs12; try simp only [decide_eq_true_eq, decide_eq_false_iff_not, Bool.not_eq_true', Bool.not_eq_false', Bool.not_true, Bool.not_false] at phs12
    refine ol_s rfl rfl hs12 rfl ?_
    refine ol_s rfl rfl hs12 rfl ?_
    refine ol_s rfl rfl hs12 rfl ?_
    refine ol_r (r_pickT rfl hs12 rfl) rfl ?_
    refine ol_r (r_assign rfl) rfl ?_
    refine ol_nil (to_k0 (fun _ _ h => h) (hK2 _ _ _ _ _ ?_))
    clear hK2
    refine hQ.ret (rvs1 (rv_t rfl)) (fun _ _ h => h) fun w hb hs hB hkd => ?_
    first
      | (exfalso; simp_all; done)
   ·have phs12 := hs12; try simp only [decide_eq_true_eq, decide_eq_false_iff_not, Bool.not_eq_true', Bool.not_eq_false', Bool.not_true, Bool.not_false] at phs12
    refine ol_g rfl rfl hs12 ?_
    refine ol_r (r_move rfl) rfl ?_
    refine ol_g rfl rfl hs12 ?_
    refine ol_r (r_move rfl) rfl ?_
    refine ol_g rfl rfl hs12 ?_
    refine ol_r (r_lss rfl rfl) rfl ?_
    refine ol_r (r_pickF rfl hs12 rfl) rfl ?_
    refine ol_r (r_assign rfl) rfl ?_
    refine ol_nil (to_k0 (fun _ _ h => h) (hK2 _ _ _ _ _ ?_))
    clear hK2
    refine hQ.ret (rvs1 (rv_t rfl)) (fun _ _ h => h) fun w hb hs hB hkd => ?_
    first
      | exact ⟨rfl, hb⟩
  ·have phs7 := hs7; try simp only [decide_eq_true_eq, decide_eq_false_iff_not, Bool.not_eq_true', Bool.not_eq_false', Bool.not_true, Bool.not_false] at phs7
   refine ol_s rfl rfl hs7 rfl ?_
   refine ol_s rfl rfl hs7 rfl ?_
   refine ol_s rfl rfl hs7 rfl ?_
   refine ol_r (r_pickF rfl hs7 rfl) rfl ?_
   refine ol_r (r_move rfl) rfl ?_
   refine ol_g rfl rfl rfl ?_
   refine ol_r (r_move rfl) rfl ?_
   refine ol_g rfl rfl rfl ?_
   refine ol_r (r_move rfl) rfl ?_
   refine ol_g rfl rfl rfl ?_
   refine ol_r (r_lss rfl rfl) rfl ?_
   refine ol_r (r_pickF rfl rfl rfl) rfl ?_
   refine ol_r (r_assign rfl) rfl ?_
   refine ol_nil (to_k0 (fun _ _ h => h) (hK2 _ _ _ _ _ ?_))
   clear hK2
   refine hQ.ret (rvs1 (rv_t rfl)) (fun _ _ h => h) fun w hb hs hB hkd => ?_
   first
     | exact ⟨rfl, hb⟩
theorem isSorted_ints (a : Option Addr) (n c : Nat) (xs : List Int) (w : World) (hx : Rd encI w.heap.size w a n c xs) (hs0 : xs.Pairwise (· ≤ ·)) :
    Calls Try.prog 24 #[.slice a n c] w fun e w' => e = .returned (.bool true) ∧ Below w.heap.size w w' := by
  have hn := hx.len
  have hf := hx.fit
  refine enterQ (N := 21) (C := fun _ => True) (H := []) (B := w.heap.size) (args := [_]) Try.func24 rfl rfl rfl (Nat.le_refl _) (Sat.nil _ _) fun Q hQ => ?_
  refine wp_seq' fun K1 hK1 => ?_
  refine wp_reg ?_
  refine ol_r (r_assign rfl) rfl ?_
  refine ol_nil (to_k0 (fun _ _ h => h) (hK1 _ _ _ _ _ ?_))
  clear hK1
  refine wp_seq' fun K2 hK2 => ?_
  refine wp_seq' fun K3 hK3 => ?_
  refine wp_reg ?_
  refine ol_r (r_move rfl) rfl ?_
  refine ol_r (r_len rfl sl47) rfl ?_
  refine ol_r (r_sub rfl rfl (by omega)) rfl ?_
  refine ol_r (r_assign rfl) rfl ?_
  refine ol_nil (to_k0 (fun _ _ h => h) (hK3 _ _ _ _ _ ?_))
  clear hK3
  refine wp_block' ?_
  apply wp_loopM (σ := Int) (fun s => s ≤ (n : Int) - 1 ∧ -1 ≤ s) (fun s => [(3, .int .i64 s)]) [(0, _)] (fun s => []) [] (fun s => s.toNat) ((n : Int) - 1)
  ·try dsimp only
   omega
  ·exact (sub_cons rfl sub_nil)
  ·exact (sub_cons rfl sub_nil)
  ·exact subH_nil
  ·exact subH_nil
  ·rintro k ⟨hk, hk2⟩
   intro K4 hK4
   refine wp_seq' fun K5 hK5 => ?_
   refine wp_seq' fun K6 hK6 => ?_
   refine wp_reg ?_
   refine ol_r (r_move rfl) rfl ?_
   refine ol_r (r_gtr rfl rfl) rfl ?_
   refine ol_nil (to_k0 (fun _ _ h => h) (hK6 _ _ _ _ _ ?_))
   clear hK6
   refine wp_condD rfl (fun hc8 => ?_) (fun hc8 => ?_)
   ·refine wp_skip' (to_k0 (fun _ _ h => h) (hK5 _ _ _ _ _ ?_))
    clear hK5
    refine wp_seq' fun K7 hK7 => ?_
    refine wp_block' ?_
    refine wp_seq' fun K8 hK8 => ?_
    refine wp_regq (by kernel_rfl) (by kernel_rfl) ?_
    refine ql_r (r_move rfl) rfl ?_
    refine ql_r (r_move rfl) rfl ?_
    refine ql_ixr hx rfl rfl sl47 (by omega) rfl fun x13 hx13 => ?_
    try simp only [Int.toNat_natCast] at hx13
    refine ql_r (r_ldw rfl (fun w1 hb1 hs1 hB1 => show Loads _ _ _ _ (.int .i64 x13) from Rd.loads hx ty3 hx13 hb1)) rfl ?_
    refine ql_r (r_move rfl) rfl ?_
    refine ql_r (r_move rfl) rfl ?_
    refine ql_r (r_sub rfl rfl (by omega)) rfl ?_
    refine ql_ixr hx rfl rfl sl47 (by omega) rfl fun x18 hx18 => ?_
    try simp only [Int.toNat_natCast] at hx18
    refine ql_r (r_ldw rfl (fun w1 hb1 hs1 hB1 => show Loads _ _ _ _ (.int .i64 x18) from Rd.loads hx ty3 hx18 hb1)) rfl ?_
    refine ql_call rfl rfl cb58 rfl (fun w1 hb1 hs1 hB1 => cmp_LessI _ _ _) ?_
    refine ql_nil (to_k0 (fun _ _ h => h) (hK8 _ _ _ _ _ ?_))
    clear hK8
    refine wp_condD rfl (fun hc20 => ?_) (fun hc20 => ?_)
    ·exfalso
     rw [List.pairwise_iff_getElem] at hs0
     obtain ⟨l1, e1⟩ := List.getElem?_eq_some_iff.1 hx13
     obtain ⟨l2, e2⟩ := List.getElem?_eq_some_iff.1 hx18
     have h1 := hs0 (k - 1).toNat k.toNat l2 l1 (by omega)
     rw [e1, e2] at h1
     omega
    ·refine wp_skip' (to_k0 (fun _ _ h => h) (hK7 _ _ _ _ _ ?_))
     clear hK7
     refine wp_reg ?_
     refine ol_r (r_move rfl) rfl ?_
     refine ol_r (r_sub rfl rfl (by omega)) rfl ?_
     refine ol_r (r_assign rfl) rfl ?_
     refine ol_nil (to_k0 (fun _ _ h => h) (hK4 (k - 1) _ _ ?_ ?_ (sub_cons rfl sub_nil) (sub_cons rfl sub_nil) (by exact subH_nil) subH_nil))
     ·try dsimp only
      omega
     ·try dsimp only
      omega
   ·refine wp_exit' (to_k0 (fun _ _ h => h) (hK2 _ _ _ _ _ ?_))
    clear hK2
    refine wp_seq' fun K9 hK9 => ?_
    refine wp_reg ?_
    refine ol_r (r_assign rfl) rfl ?_
    refine ol_nil (to_k0 (fun _ _ h => h) (hK9 _ _ _ _ _ ?_))
    clear hK9
    refine hQ.ret (rvs1 (rv_t rfl)) (fun _ _ h => h) fun w hb hs hB hkd => ?_
    exact ⟨rfl, hb⟩
theorem row_is (c : CrossR) (i t : Int) (b1 b2 : Nat) (w : World) (h1 : Blk w.heap.size w b1 [(0, .int .i64 i)]) (h2 : Blk w.heap.size w b2 [(0, .int .i64 t)]) :
    Calls Try.prog 26 #[encCr.val c, .pointer (some ⟨b1, 0, none⟩), .pointer (some ⟨b2, 0, none⟩)] w fun e w' => e = .returned (.bool (decide (c.gate = i ∧ c.at_ = t))) ∧ Below w.heap.size w w' := by
  refine enterQ (N := 15) (C := fun _ => True) (H := []) (B := w.heap.size) (args := [_, _, _]) Try.func26 rfl rfl rfl (Nat.le_refl _) (Sat.nil _ _) fun Q hQ => ?_
  refine wp_seq' fun K1 hK1 => ?_
  refine wp_reg ?_
  refine ol_box 3 rfl rfl rfl fun b3 => ?_
  refine ol_r (r_assign rfl) rfl ?_
  refine ol_nil (to_k0 (fun _ _ h => h) (hK1 _ _ _ _ _ ?_))
  clear hK1
  refine wp_seq' fun K2 hK2 => ?_
  refine wp_reg ?_
  refine ol_r (r_fa (o' := 0) rfl fl36_0 rfl) rfl ?_
  refine ol_r (r_ld (id := 3) rfl rfl rfl sc3) rfl ?_
  refine ol_r (r_ldw rfl (fun w1 hb1 hs1 hB1 => Blk.loads (o := 0) h1 hb1 sc3 rfl)) rfl ?_
  refine ol_r (r_eql rfl rfl) rfl ?_
  refine ol_r (r_move rfl) rfl ?_
  refine ol_split (d := 9) rfl (fun hs9 => ?_) (fun hs9 => ?_)
  ·have phs9 := hs9; try simp only [decide_eq_true_eq, decide_eq_false_iff_not, Bool.not_eq_true', Bool.not_eq_false', Bool.not_true, Bool.not_false] at phs9
   refine ol_g rfl rfl hs9 ?_
   refine ol_r (r_fa (o' := 2) rfl fl36_2 rfl) rfl ?_
   refine ol_g rfl rfl hs9 ?_
   refine ol_r (r_ld (id := 3) rfl rfl rfl sc3) rfl ?_
   refine ol_g rfl rfl hs9 ?_
   refine ol_r (r_ldw rfl (fun w1 hb1 hs1 hB1 => Blk.loads (o := 0) h2 hb1 sc3 rfl)) rfl ?_
   refine ol_g rfl rfl hs9 ?_
   refine ol_r (r_eql rfl rfl) rfl ?_
   refine ol_r (r_pickT rfl hs9 rfl) rfl ?_
   refine ol_r (r_assign rfl) rfl ?_
   refine ol_nil (to_k0 (fun _ _ h => h) (hK2 _ _ _ _ _ ?_))
   clear hK2
   refine hQ.ret (rvs1 (rv_t rfl)) (fun _ _ h => h) fun w hb hs hB hkd => ?_
   first
     | exact ⟨congrArg (fun b => Ending.returned (Value.bool b)) (decide_eq_decide.2 (by omega)), hb⟩
  ·have phs9 := hs9; try simp only [decide_eq_true_eq, decide_eq_false_iff_not, Bool.not_eq_true', Bool.not_eq_false', Bool.not_true, Bool.not_false] at phs9
   refine ol_s rfl rfl hs9 rfl ?_
   refine ol_s rfl rfl hs9 rfl ?_
   refine ol_s rfl rfl hs9 rfl ?_
   refine ol_s rfl rfl hs9 rfl ?_
   refine ol_r (r_pickF rfl hs9 rfl) rfl ?_
   refine ol_r (r_assign rfl) rfl ?_
   refine ol_nil (to_k0 (fun _ _ h => h) (hK2 _ _ _ _ _ ?_))
   clear hK2
   refine hQ.ret (rvs1 (rv_t rfl)) (fun _ _ h => h) fun w hb hs hB hkd => ?_
   first
     | exact ⟨congrArg (fun b => Ending.returned (Value.bool b)) (decide_eq_false (by omega)).symm, hb⟩
theorem index_row (a : Option Addr) (n c1 : Nat) (xs : List CrossR) (i t : Int) (b1 b2 : Nat) (w : World) (hx : Rd encCr w.heap.size w a n c1 xs) (h1 : Blk w.heap.size w b1 [(0, .int .i64 i)]) (h2 : Blk w.heap.size w b2 [(0, .int .i64 t)]) (he : ∃ c ∈ xs, c.gate = i ∧ c.at_ = t) :
    Calls Try.prog 59 #[.slice a n c1, .func (.func 26) #[] #[.pointer (some ⟨b1, 0, none⟩), .pointer (some ⟨b2, 0, none⟩)]] w fun e w' => ∃ k : Nat, e = .returned (.int .i64 (k : Int)) ∧ Below w.heap.size w w' := by
  have hn := hx.len
  have hf := hx.fit
  refine enterQ (N := 19) (C := fun _ => True) (H := []) (B := w.heap.size) (args := [_, _]) Try.func59 rfl rfl rfl (Nat.le_refl _) (Sat.nil _ _) fun Q hQ => ?_
  refine wp_seq' fun K1 hK1 => ?_
  refine wp_reg ?_
  refine ol_r (r_assign rfl) rfl ?_
  refine ol_nil (to_k0 (fun _ _ h => h) (hK1 _ _ _ _ _ ?_))
  clear hK1
  refine wp_seq' fun K2 hK2 => ?_
  refine wp_seq' fun K3 hK3 => ?_
  refine wp_reg ?_
  refine ol_r (r_move rfl) rfl ?_
  refine ol_r (r_len rfl sl30) rfl ?_
  refine ol_r (r_move rfl) rfl ?_
  refine ol_nil (to_k0 (fun _ _ h => h) (hK3 _ _ _ _ _ ?_))
  clear hK3
  refine wp_block' ?_
  apply wp_loopM (σ := Nat) (fun s => s ≤ n ∧ ∀ c ∈ xs.take s, ¬(c.gate = i ∧ c.at_ = t)) (fun s => [(8, .int .i64 s)]) [(0, _), (1, _), (7, _)] (fun s => []) [] (fun s => n - s) (0)
  ·try dsimp only
   exact ⟨Nat.zero_le _, fun c hc => by simp at hc⟩
  ·exact (sub_cons rfl sub_nil)
  ·exact (sub_cons rfl (sub_cons rfl (sub_cons rfl sub_nil)))
  ·exact subH_nil
  ·exact subH_nil
  ·rintro k ⟨hk, hP⟩
   intro K4 hK4
   refine wp_seq' fun K5 hK5 => ?_
   refine wp_reg ?_
   refine ol_r (r_lss rfl rfl) rfl ?_
   refine ol_nil (to_k0 (fun _ _ h => h) (hK5 _ _ _ _ _ ?_))
   clear hK5
   refine wp_seq' fun K6 hK6 => ?_
   refine wp_condD rfl (fun hc9 => ?_) (fun hc9 => ?_)
   ·refine wp_skip' (to_k0 (fun _ _ h => h) (hK6 _ _ _ _ _ ?_))
    clear hK6
    refine wp_seq' fun K7 hK7 => ?_
    refine wp_block' ?_
    refine wp_seq' fun K8 hK8 => ?_
    refine wp_reg ?_
    refine ol_r (r_move rfl) rfl ?_
    refine ol_r (r_assign rfl) rfl ?_
    refine ol_nil (to_k0 (fun _ _ h => h) (hK8 _ _ _ _ _ ?_))
    clear hK8
    refine wp_seq' fun K9 hK9 => ?_
    refine wp_reg ?_
    refine ol_r (r_move rfl) rfl ?_
    refine ol_r (r_move rfl) rfl ?_
    refine ol_r (r_move rfl) rfl ?_
    refine ol_ixr hx rfl rfl sl30 (by omega) rfl fun x14 hx14 => ?_
    try simp only [Int.toNat_natCast] at hx14
    refine ol_r (r_ldw rfl (fun w1 hb1 hs1 hB1 => Rd.loads hx ty36 hx14 hb1)) rfl ?_
    refine ol_call rfl rfl cb26 rfl (fun w1 hb1 hs1 hB1 => Calls.mono (row_is x14 i t b1 b2 _ (h1.at hb1 hB1) (h2.at hb1 hB1)) ?_)
    rintro e w2 ⟨rfl, hb2⟩
    refine After.below rfl hb1 hs1 hB1 hb2 ?_
    clear hb2 hB1 hs1 hb1 w2 w1
    refine ol_nil (to_k0 (fun _ _ h => h) (hK9 _ _ _ _ _ ?_))
    clear hK9
    refine wp_condD rfl (fun hc16 => ?_) (fun hc16 => ?_)
    ·refine wp_seq' fun K10 hK10 => ?_
     refine wp_reg ?_
     refine ol_r (r_move rfl) rfl ?_
     refine ol_r (r_assign rfl) rfl ?_
     refine ol_nil (to_k0 (fun _ _ h => h) (hK10 _ _ _ _ _ ?_))
     clear hK10
     refine hQ.ret (rvs1 (rv_t rfl)) (fun _ _ h => h) fun w hb hs hB hkd => ?_
     exact ⟨k, rfl, hb⟩
    ·refine wp_skip' (to_k0 (fun _ _ h => h) (hK7 _ _ _ _ _ ?_))
     clear hK7
     refine wp_reg ?_
     refine ol_r (r_add rfl rfl (by omega)) rfl ?_
     refine ol_r (r_move rfl) rfl ?_
     refine ol_nil (to_k0 (fun _ _ h => h) (hK4 (k + 1) _ _ ?_ ?_ (sub_cons rfl sub_nil) (sub_cons rfl (sub_cons rfl (sub_cons rfl sub_nil))) (by exact subH_nil) subH_nil))
     ·try dsimp only
      refine ⟨by omega, fun c hc => ?_⟩
      rw [take_succ_get hx14] at hc
      rcases List.mem_append.1 hc with h | h
      · exact hP c h
      · simp at h; subst h; exact hc16
     ·try dsimp only
      omega
   ·refine wp_exit' (to_k0 (fun _ _ h => h) (hK2 _ _ _ _ _ ?_))
    clear hK2
    refine wp_seq' fun K11 hK11 => ?_
    refine wp_reg ?_
    refine ol_r (r_assign rfl) rfl ?_
    refine ol_nil (to_k0 (fun _ _ h => h) (hK11 _ _ _ _ _ ?_))
    clear hK11
    refine hQ.ret (rvs1 (rv_t rfl)) (fun _ _ h => h) fun w hb hs hB hkd => ?_
    exfalso
    obtain ⟨c, hc, h9⟩ := he
    exact hP c (by rw [List.take_of_length_le (by omega)]; exact hc) h9
theorem Hx.Blk.one {C b : Nat} {w : World} {cl : List (Nat × Value)} {v : Value} (h : Blk C w b cl) (hl : Hx.look cl 0 = some v) : Blk C w b [(0, v)] := ⟨h.1, fun o u ho => by
  by_cases h0 : 0 = o
  · subst h0; rw [look_cons_eq] at ho; cases ho; exact h.2 0 v hl
  · rw [look_cons_ne _ _ h0] at ho; cases ho⟩
theorem contains_row (a : Option Addr) (n c1 : Nat) (xs : List CrossR) (i t : Int) (b1 b2 : Nat) (w : World) (hx : Rd encCr w.heap.size w a n c1 xs) (h1 : Blk w.heap.size w b1 [(0, .int .i64 i)]) (h2 : Blk w.heap.size w b2 [(0, .int .i64 t)]) (he : ∃ c ∈ xs, c.gate = i ∧ c.at_ = t) :
    Calls Try.prog 25 #[.slice a n c1, .func (.func 26) #[] #[.pointer (some ⟨b1, 0, none⟩), .pointer (some ⟨b2, 0, none⟩)]] w fun e w' => e = .returned (.bool true) ∧ Below w.heap.size w w' := by
  refine enterQ (N := 9) (C := fun _ => True) (H := []) (B := w.heap.size) (args := [_, _]) Try.func25 rfl rfl rfl (Nat.le_refl _) (Sat.nil _ _) fun Q hQ => ?_
  refine wp_seq' fun K1 hK1 => ?_
  refine wp_reg ?_
  refine ol_r (r_assign rfl) rfl ?_
  refine ol_nil (to_k0 (fun _ _ h => h) (hK1 _ _ _ _ _ ?_))
  clear hK1
  refine wp_seq' fun K2 hK2 => ?_
  refine wp_reg ?_
  refine ol_r (r_move rfl) rfl ?_
  refine ol_r (r_move rfl) rfl ?_
  refine ol_call rfl rfl cb59 rfl (fun w1 hb1 hs1 hB1 => ?_)
  refine Calls.mono (index_row _ _ _ xs i t b1 b2 _ (hx.at hb1 hB1) (h1.at hb1 hB1) (h2.at hb1 hB1) he) ?_
  rintro e w2 ⟨k, rfl, hb2⟩
  refine After.below rfl hb1 hs1 hB1 hb2 ?_
  clear hb2 hB1 hs1 hb1 w2 w1
  refine ol_r (r_geq rfl rfl) rfl ?_
  refine ol_r (r_assign rfl) rfl ?_
  refine ol_nil (to_k0 (fun _ _ h => h) (hK2 _ _ _ _ _ ?_))
  clear hK2
  refine hQ.ret (rvs1 (rv_t rfl)) (fun _ _ h => h) fun w hb hs hB hkd => ?_
  exact ⟨by rw [decide_eq_true (by omega)], hb⟩
theorem law_rows (nm : ByteArray) (ga : Option Addr) (gn gc : Nat) (gs : List GateR) (A : ActV) (w : World) (hn : nm.size ≤ 9223372036854775807) (hS : Rd encGate w.heap.size w ga gn gc gs) (hA : A.Ok w.heap.size w) :
    Calls Try.prog 6 #[.agg #[.string nm, .slice ga gn gc], .agg #[.string A.name, .int .i64 A.sport, .int .i64 A.start, .slice A.sa A.sn A.sc, .slice A.la A.ln A.lc, .slice A.ta A.tn A.tc]] w fun e w' => e = .returned (.bool true) ∧ Below w.heap.size w w' := by
  have hgn := hS.len
  refine enterQ (N := 131) (C := fun _ => True) (H := []) (B := w.heap.size) (args := [_, _]) Try.func6 rfl rfl rfl (Nat.le_refl _) (Sat.nil _ _) fun Q hQ => ?_
  refine wp_seq' fun K1 hK1 => ?_
  refine wp_reg ?_
  refine ol_box 2 rfl rfl rfl fun b2 => ?_
  refine ol_box 3 rfl rfl rfl fun b3 => ?_
  refine ol_r (r_assign rfl) rfl ?_
  refine ol_nil (to_k0 (fun _ _ h => h) (hK1 _ _ _ _ _ ?_))
  clear hK1
  refine wp_seq' fun K2 hK2 => ?_
  refine wp_reg ?_
  refine ol_r (r_lda (id := 2) (n := 2) rfl rfl rfl ag24) rfl ?_
  refine ol_r (r_lda (id := 3) (n := 6) rfl rfl rfl ag29) rfl ?_
  refine ol_call rfl rfl cb18 rfl (fun w1 hb1 hs1 hB1 => ?_)
  refine Calls.mono (match_Efforts nm _ _ _ gs A _ hn (hS.at hb1 hB1) (hA.at hb1 hB1)) ?_
  rintro e w2 ⟨a5, c5, L, rfl, hb2, hs2, hL⟩
  have hLf := (hs2.rd (by decide)).out.fit
  have hinn : ∀ (j : Nat) (x : Sl × List Int), L[j]? = some x → x.2.length = x.1.2.1 ∧ x.1.2.1 ≤ 9223372036854775807 := fun j x hj => ⟨((hs2.rd (by decide)).inn j x hj).len, ((hs2.rd (by decide)).inn j x hj).fit⟩
  refine After.moreE rfl hb1 hs1 hB1 hb2 (hs2.num (by decide) 1005 10000000 (by decide)) (by decide) (fun i hi _ => ?_) ?_
  · repeat' refine (look_cons_ne _ _ (by omega)).trans ?_
    rfl
  clear hs2 hb2 hB1 hs1 hb1 w2 w1
  refine ol_r (r_move rfl) rfl ?_
  refine ol_r (r_extract rfl rfl) rfl ?_
  refine ol_r (r_extract rfl rfl) rfl ?_
  refine ol_r (r_assign rfl) rfl ?_
  refine ol_r (r_assign rfl) rfl ?_
  refine ol_nil (to_k0 (fun _ _ h => h) (hK2 _ _ _ _ _ ?_))
  clear hK2
  refine wp_seq' fun K3 hK3 => ?_
  refine wp_reg ?_
  refine ol_r (r_lda (id := 2) (n := 2) rfl rfl rfl ag24) rfl ?_
  refine ol_r (r_lda (id := 3) (n := 6) rfl rfl rfl ag29) rfl ?_
  refine ol_call rfl rfl cb9 rfl (fun w1 hb1 hs1 hB1 => Calls.mono (match_Crossings nm _ _ _ gs A _ hn (hS.at hb1 hB1) (hA.at hb1 hB1)) ?_)
  rintro e w2 ⟨a27, n27, c27, rfl, hf27⟩
  refine After.fresh (id := 27) rfl hb1 hs1 hB1 hf27 ?_
  have hl27 := hf27.len; clear hf27 hB1 hs1 hb1 w2 w1
  refine ol_r (r_move rfl) rfl ?_
  refine ol_r (r_extract rfl rfl) rfl ?_
  refine ol_r (r_extract rfl rfl) rfl ?_
  refine ol_r (r_assign rfl) rfl ?_
  refine ol_r (r_assign rfl) rfl ?_
  refine ol_nil (to_k0 (fun _ _ h => h) (hK3 _ _ _ _ _ ?_))
  clear hK3
  refine wp_seq' fun K4 hK4 => ?_
  refine wp_reg ?_
  refine ol_r (r_lda (id := 2) (n := 2) rfl rfl rfl ag24) rfl ?_
  refine ol_r (r_lda (id := 3) (n := 6) rfl rfl rfl ag29) rfl ?_
  refine ol_call rfl rfl cb20 rfl (fun w1 hb1 hs1 hB1 => ?_)
  refine Calls.mono (match_Best nm _ _ _ gs A _ hn (hS.at hb1 hB1) (hA.at hb1 hB1)) ?_
  rintro e w2 ⟨a7, n7, c7, rfl, hb2, hs2⟩
  have hb7 := (Sat.rd hs2 (E := encI) (id := 1001) rfl rfl).len
  have hb7f := (Sat.rd hs2 (E := encI) (id := 1001) rfl rfl).fit
  refine After.more rfl hb1 hs1 hB1 hb2 (hs2.one 1001 1007 rfl (Ent.le_refl _)) ?_
  clear hs2 hb2 hB1 hs1 hb1 w2 w1
  refine ol_r (r_move rfl) rfl ?_
  refine ol_r (r_extract rfl rfl) rfl ?_
  refine ol_r (r_extract rfl rfl) rfl ?_
  refine ol_r (r_extract rfl rfl) rfl ?_
  refine ol_alloc 9 z49 rfl fun b9 => ?_
  refine ol_store (id := 9) rfl rfl rfl rfl sz49 rfl rfl (by first | decide | exact Nat.zero_lt_succ _ | simp) ?_
  refine ol_r (r_assign rfl) rfl ?_
  refine ol_r (r_assign rfl) rfl ?_
  refine ol_nil (to_k0 (fun _ _ h => h) (hK4 _ _ _ _ _ ?_))
  clear hK4
  refine wp_seq' fun K5 hK5 => ?_
  refine wp_seq' fun K6 hK6 => ?_
  refine wp_reg ?_
  refine ol_r (r_move rfl) rfl ?_
  refine ol_r (r_neq rfl rfl) rfl ?_
  refine ol_r (r_move rfl) rfl ?_
  refine ol_split (d := 39) rfl (fun hs39 => ?_) (fun hs39 => ?_)
  ·have phs39 := hs39; try simp only [decide_eq_true_eq, decide_eq_false_iff_not, Bool.not_eq_true', Bool.not_eq_false', Bool.not_true, Bool.not_false] at phs39
   refine ol_s rfl rfl hs39 rfl ?_
   refine ol_s rfl rfl hs39 rfl ?_
   refine ol_r (r_pickT rfl hs39 rfl) rfl ?_
   refine ol_r (r_move rfl) rfl ?_
   refine ol_s rfl rfl rfl rfl ?_
   refine ol_s rfl rfl rfl rfl ?_
   refine ol_r (r_pickT rfl rfl rfl) rfl ?_
   refine ol_nil (to_k0 (fun _ _ h => h) (hK6 _ _ _ _ _ ?_))
   clear hK6
   refine wp_condT rfl ?_
   refine wp_seq' fun K7 hK7 => ?_
   refine wp_reg ?_
   refine ol_call rfl rfl cb12 rfl (fun w1 hb1 hs1 hB1 => Calls.mono (law5_told _) ?_)
   rintro e w2 ⟨rfl, hb2⟩
   refine After.below rfl hb1 hs1 hB1 hb2 ?_
   clear hb2 hB1 hs1 hb1 w2 w1
   refine ol_r (r_assign rfl) rfl ?_
   refine ol_nil (to_k0 (fun _ _ h => h) (hK7 _ _ _ _ _ ?_))
   clear hK7
   refine hQ.ret (rvs1 (rv_t rfl)) (fun _ _ h => h) fun w hb hs hB hkd => ?_
   first
     | exact ⟨rfl, hb⟩
  ·have phs39 := hs39; try simp only [decide_eq_true_eq, decide_eq_false_iff_not, Bool.not_eq_true', Bool.not_eq_false', Bool.not_true, Bool.not_false] at phs39
   refine ol_g rfl rfl hs39 ?_
   refine ol_r (r_move rfl) rfl ?_
   refine ol_g rfl rfl hs39 ?_
   refine ol_r (r_neq rfl rfl) rfl ?_
   refine ol_r (r_pickF rfl hs39 rfl) rfl ?_
   refine ol_r (r_move rfl) rfl ?_
   refine ol_split (d := 43) rfl (fun hs43 => ?_) (fun hs43 => ?_)
   ·have phs43 := hs43; try simp only [decide_eq_true_eq, decide_eq_false_iff_not, Bool.not_eq_true', Bool.not_eq_false', Bool.not_true, Bool.not_false] at phs43
    refine ol_s rfl rfl hs43 rfl ?_
    refine ol_s rfl rfl hs43 rfl ?_
    refine ol_r (r_pickT rfl hs43 rfl) rfl ?_
    refine ol_nil (to_k0 (fun _ _ h => h) (hK6 _ _ _ _ _ ?_))
    clear hK6
    refine wp_condT rfl ?_
    refine wp_seq' fun K8 hK8 => ?_
    refine wp_reg ?_
    refine ol_call rfl rfl cb12 rfl (fun w1 hb1 hs1 hB1 => Calls.mono (law5_told _) ?_)
    rintro e w2 ⟨rfl, hb2⟩
    refine After.below rfl hb1 hs1 hB1 hb2 ?_
    clear hb2 hB1 hs1 hb1 w2 w1
    refine ol_r (r_assign rfl) rfl ?_
    refine ol_nil (to_k0 (fun _ _ h => h) (hK8 _ _ _ _ _ ?_))
    clear hK8
    refine hQ.ret (rvs1 (rv_t rfl)) (fun _ _ h => h) fun w hb hs hB hkd => ?_
    first
      | exact ⟨rfl, hb⟩
   ·have phs43 := hs43; try simp only [decide_eq_true_eq, decide_eq_false_iff_not, Bool.not_eq_true', Bool.not_eq_false', Bool.not_true, Bool.not_false] at phs43
    refine ol_g rfl rfl hs43 ?_
    refine ol_r (r_move rfl) rfl ?_
    refine ol_g rfl rfl hs43 ?_
    refine ol_r (r_neq rfl rfl) rfl ?_
    refine ol_r (r_pickF rfl hs43 rfl) rfl ?_
    refine ol_nil (to_k0 (fun _ _ h => h) (hK6 _ _ _ _ _ ?_))
    clear hK6
    refine wp_condD rfl (fun hc46 => ?_) (fun hc46 => ?_)
    ·refine wp_seq' fun K9 hK9 => ?_
     refine wp_reg ?_
     refine ol_call rfl rfl cb12 rfl (fun w1 hb1 hs1 hB1 => Calls.mono (law5_told _) ?_)
     rintro e w2 ⟨rfl, hb2⟩
     refine After.below rfl hb1 hs1 hB1 hb2 ?_
     clear hb2 hB1 hs1 hb1 w2 w1
     refine ol_r (r_assign rfl) rfl ?_
     refine ol_nil (to_k0 (fun _ _ h => h) (hK9 _ _ _ _ _ ?_))
     clear hK9
     refine hQ.ret (rvs1 (rv_t rfl)) (fun _ _ h => h) fun w hb hs hB hkd => ?_
     first
       | exact ⟨rfl, hb⟩
    ·refine wp_skip' (to_k0 (fun _ _ h => h) (hK5 _ _ _ _ _ ?_))
     clear hK5
     refine wp_seq' fun K10 hK10 => ?_
     refine wp_reg ?_
     refine ol_r (r_assign rfl) rfl ?_
     refine ol_nil (to_k0 (fun _ _ h => h) (hK10 _ _ _ _ _ ?_))
     clear hK10
     refine wp_seq' fun K11 hK11 => ?_
     refine wp_seq' fun K12 hK12 => ?_
     refine wp_reg ?_
     have he0 : (effR nm gs A.d).2 = 0 := by first | omega | (simp_all; done)
     have hno := effR_ok (fun h => h he0)
     obtain ⟨hseg, hok⟩ := or_both hno
     have hgl := hseg.len
     have hcr : (crossR nm gs A.d).1 = crossS gs (stepsL A.ss) (stepsL A.ss).length := by unfold crossR; rw [if_neg hno]; rfl
     have hLe : L.map (·.2) = effL gs.length (crossS gs (stepsL A.ss) (stepsL A.ss).length) := by rw [hL, effR_0 hno]; rfl
     have hmem : ∀ (j : Nat) (x : Sl × List Int), L[j]? = some x → x.2 ∈ effL gs.length (crossS gs (stepsL A.ss) (stepsL A.ss).length) := fun j x hx => by
       have h1 : x.2 ∈ L.map (·.2) := List.mem_map_of_mem (List.mem_of_getElem? hx)
       rw [hLe] at h1; exact h1
     have hT : ∀ (j : Nat) (x : Sl × List Int), L[j]? = some x → Tms x.2 ∧ x.2.length = gs.length := fun j x hx => effR_tms hno x.2 (hmem j x hx)
     have hup := effN_up (G := gs.length) (crossS_up hseg.g hok (stepsL A.ss).length) (crossS gs (stepsL A.ss) (stepsL A.ss).length).length
     have hrw := (effN_rows hgl.1 (crossS gs (stepsL A.ss) (stepsL A.ss).length) (crossS gs (stepsL A.ss) (stepsL A.ss).length).length).2
     have hml : (L.map (·.1)).length = L.length := List.length_map _
     have hch : ∀ (j : Nat) (x y : Sl × List Int), L[j]? = some x → L[j + 1]? = some y → ∀ t ∈ x.2, ∀ t' ∈ y.2, t ≤ t' := fun j x y hx hy => by
       refine hup.ch j x.2 y.2 ?_ ?_
       · show (effL gs.length (crossS gs (stepsL A.ss) (stepsL A.ss).length))[j]? = _
         rw [← hLe, List.getElem?_map, hx]; rfl
       · show (effL gs.length (crossS gs (stepsL A.ss) (stepsL A.ss).length))[j + 1]? = _
         rw [← hLe, List.getElem?_map, hy]; rfl
     refine ol_r (r_move rfl) rfl ?_
     refine ol_r (r_len rfl sl44) rfl ?_
     refine ol_r (r_move rfl) rfl ?_
     refine ol_nil (to_k0 (fun _ _ h => h) (hK12 _ _ _ _ _ ?_))
     clear hK12
     refine wp_block' ?_
     apply wp_loopT (σ := Nat × Int) (fun s => s.1 ≤ L.length ∧ (s.1 = 0 ∧ s.2 = 0 ∨ ∃ (j : Nat) (x : Sl × List Int), s.1 = j + 1 ∧ L[j]? = some x ∧ s.2 ∈ x.2)) (fun s => [(50, .int .i64 s.1), (12, .int .i64 s.2)]) [(2, _), (5, _), (7, _), (9, _), (10, _), (48, _), (49, _)] (fun s => []) [(2, _), (3, _), (9, _), (27, _), (1005, _), (1007, _)] (fun s => innH 3 10000000 L) (fun s => L.length - s.1) ((0, 0))
     ·try dsimp only
      exact ⟨Nat.zero_le _, .inl ⟨rfl, rfl⟩⟩
     ·exact (sub_cons rfl (sub_cons rfl sub_nil))
     ·exact (sub_cons rfl (sub_cons rfl (sub_cons rfl (sub_cons rfl (sub_cons rfl (sub_cons rfl (sub_cons rfl sub_nil)))))))
     ·exact subH_nil
     ·exact (subH_same rfl (subH_same rfl (subH_same rfl (subH_same rfl (subH_same rfl (subH_same rfl subH_nil))))))
     ·refine subH_inn fun j x hj => ?_
      repeat' refine (look_cons_ne _ _ (by omega)).trans ?_
      exact look_inn hj
     ·rintro ⟨k, last⟩ ⟨hk, hlast⟩
      dsimp only at hk hlast ⊢
      intro K13 hK13
      refine wp_seq' fun K14 hK14 => ?_
      refine wp_reg ?_
      refine ol_r (r_lss rfl rfl) rfl ?_
      refine ol_nil (to_k0 (fun _ _ h => h) (hK14 _ _ _ _ _ ?_))
      clear hK14
      refine wp_seq' fun K15 hK15 => ?_
      refine wp_condD rfl (fun hc51 => ?_) (fun hc51 => ?_)
      ·refine wp_skip' (to_k0 (fun _ _ h => h) (hK15 _ _ _ _ _ ?_))
       clear hK15
       refine wp_seq' fun K16 hK16 => ?_
       refine wp_block' ?_
       refine wp_seq' fun K17 hK17 => ?_
       refine wp_reg ?_
       refine ol_ixo (id := 1005) encSl _ rfl rfl rfl rfl sl44 (by omega) rfl fun x52 hx52 => ?_
       try simp only [Int.toNat_natCast] at hx52
       try simp only [Int.toNat_natCast] at hx52
       refine ol_r (r_ldw rfl (fun w1 hb1 hs1 hB1 => ld_own (id := 1005) hs1 rfl rfl ty49 hx52)) rfl ?_
       obtain ⟨z, hz, hez⟩ : ∃ z, L[k]? = some z ∧ z.1 = x52 := by
         have h9 : (L.map (·.1))[k]? = some x52 := by simpa using hx52
         rw [List.getElem?_map] at h9
         obtain ⟨y0, e1, e2⟩ := Option.map_eq_some_iff.1 h9
         exact ⟨y0, e1, e2⟩
       subst hez
       have hzi := hinn k z hz
       obtain ⟨hzt, hzl⟩ := hT k z hz
       have hzup := hup.up z.2 (hmem k z hz)
       have hzrow := (hrw z.2 (hmem k z hz)).2
       rw [RowOk, ← hcr] at hzrow
       have hlz : ∀ t ∈ z.2, last ≤ t := fun t ht => by
         rcases hlast with ⟨_, h0⟩ | ⟨j, y, h1, hy, h2⟩
         · rw [h0]; exact (hzt.2 t ht).1
         · subst h1; exact hch j y z hy hz _ h2 t ht
       refine ol_alloc 14 z49 rfl fun b14 => ?_
       refine ol_store (id := 14) rfl rfl rfl rfl sz49 rfl rfl (by first | decide | exact Nat.zero_lt_succ _ | simp) ?_
       refine ol_nil (to_k0 (fun _ _ h => h) (hK17 _ _ _ _ _ ?_))
       clear hK17
       refine wp_seq' fun K18 hK18 => ?_
       refine wp_reg ?_
       refine ol_r (r_fa (o' := 0) rfl fl49_0 rfl) rfl ?_
       refine ol_r (r_ld (id := 14) rfl rfl rfl sc47) rfl ?_
       refine ol_r (r_len rfl sl47) rfl ?_
       refine ol_r (r_assign rfl) rfl ?_
       refine ol_nil (to_k0 (fun _ _ h => h) (hK18 _ _ _ _ _ ?_))
       clear hK18
       refine wp_seq' fun K19 hK19 => ?_
       refine wp_seq' fun K20 hK20 => ?_
       refine wp_reg ?_
       refine ol_r (r_move rfl) rfl ?_
       refine ol_r (r_fa (o' := 1) rfl fl24_1 rfl) rfl ?_
       refine ol_r (r_ld (id := 2) rfl rfl rfl sc22) rfl ?_
       refine ol_r (r_len rfl sl22) rfl ?_
       refine ol_r (r_neq rfl rfl) rfl ?_
       refine ol_r (r_move rfl) rfl ?_
       refine ol_split (d := 62) rfl (fun hs62 => ?_) (fun hs62 => ?_)
       ·have phs62 := hs62; try simp only [decide_eq_true_eq, decide_eq_false_iff_not, Bool.not_eq_true', Bool.not_eq_false', Bool.not_true, Bool.not_false] at phs62
        refine ol_s rfl rfl hs62 rfl ?_
        refine ol_s rfl rfl hs62 rfl ?_
        refine ol_s rfl rfl hs62 rfl ?_
        refine ol_s rfl rfl hs62 rfl ?_
        refine ol_s rfl rfl hs62 rfl ?_
        refine ol_s rfl rfl hs62 rfl ?_
        refine ol_r (r_pickT rfl hs62 rfl) rfl ?_
        refine ol_r (r_move rfl) rfl ?_
        refine ol_s rfl rfl rfl rfl ?_
        refine ol_s rfl rfl rfl rfl ?_
        refine ol_s rfl rfl rfl rfl ?_
        refine ol_s rfl rfl rfl rfl ?_
        refine ol_r (r_pickT rfl rfl rfl) rfl ?_
        refine ol_nil (to_k0 (fun _ _ h => h) (hK20 _ _ _ _ _ ?_))
        clear hK20
        refine wp_condT rfl ?_
        refine wp_seq' fun K21 hK21 => ?_
        refine wp_reg ?_
        refine ol_r (r_assign rfl) rfl ?_
        refine ol_nil (to_k0 (fun _ _ h => h) (hK21 _ _ _ _ _ ?_))
        clear hK21
        refine hQ.ret (rvs1 (rv_t rfl)) (fun _ _ h => h) fun w hb hs hB hkd => ?_
        first
          | (exfalso; omega)
       ·have phs62 := hs62; try simp only [decide_eq_true_eq, decide_eq_false_iff_not, Bool.not_eq_true', Bool.not_eq_false', Bool.not_true, Bool.not_false] at phs62
        refine ol_g rfl rfl hs62 ?_
        refine ol_r (r_fa (o' := 0) rfl fl49_0 rfl) rfl ?_
        refine ol_g rfl rfl hs62 ?_
        refine ol_r (r_ld (id := 14) rfl rfl rfl sc47) rfl ?_
        refine ol_g rfl rfl hs62 ?_
        refine ol_ixo (id := (10000000 + k)) encI z.2 rfl ((by (repeat' refine (look_cons_ne _ _ (by omega)).trans ?_); exact look_inn hz)) rfl rfl sl47 (by omega) rfl fun x65 hx65 => ?_
        try simp only [Int.toNat_natCast] at hx65
        refine ol_g rfl rfl hs62 ?_
        refine ol_r (r_ldw rfl (fun w1 hb1 hs1 hB1 => show Loads _ _ _ _ (.int .i64 x65) from ld_own (id := (10000000 + k)) hs1 ((by (repeat' refine (look_cons_ne _ _ (by omega)).trans ?_); exact look_inn hz)) rfl ty3 hx65)) rfl ?_
        refine ol_g rfl rfl hs62 ?_
        refine ol_r (r_move rfl) rfl ?_
        refine ol_g rfl rfl hs62 ?_
        have hlz0 := hlz _ (List.mem_of_getElem? hx65)
        refine ol_r (r_lss rfl rfl) rfl ?_
        refine ol_r (r_pickF rfl hs62 rfl) rfl ?_
        refine ol_r (r_move rfl) rfl ?_
        refine ol_split (d := 70) rfl (fun hs70 => ?_) (fun hs70 => ?_)
        ·have phs70 := hs70; try simp only [decide_eq_true_eq, decide_eq_false_iff_not, Bool.not_eq_true', Bool.not_eq_false', Bool.not_true, Bool.not_false] at phs70
         refine ol_s rfl rfl hs70 rfl ?_
         refine ol_s rfl rfl hs70 rfl ?_
         refine ol_s rfl rfl hs70 rfl ?_
         refine ol_s rfl rfl hs70 rfl ?_
         refine ol_r (r_pickT rfl hs70 rfl) rfl ?_
         refine ol_nil (to_k0 (fun _ _ h => h) (hK20 _ _ _ _ _ ?_))
         clear hK20
         refine wp_condT rfl ?_
         refine wp_seq' fun K22 hK22 => ?_
         refine wp_reg ?_
         refine ol_r (r_assign rfl) rfl ?_
         refine ol_nil (to_k0 (fun _ _ h => h) (hK22 _ _ _ _ _ ?_))
         clear hK22
         refine hQ.ret (rvs1 (rv_t rfl)) (fun _ _ h => h) fun w hb hs hB hkd => ?_
         first
           | (exfalso; omega)
        ·have phs70 := hs70; try simp only [decide_eq_true_eq, decide_eq_false_iff_not, Bool.not_eq_true', Bool.not_eq_false', Bool.not_true, Bool.not_false] at phs70
         refine ol_g rfl rfl hs70 ?_
         refine ol_r (r_fa (o' := 0) rfl fl49_0 rfl) rfl ?_
         refine ol_g rfl rfl hs70 ?_
         refine ol_r (r_ld (id := 14) rfl rfl rfl sc47) rfl ?_
         refine ol_g rfl rfl hs70 ?_
         refine ol_call rfl rfl cb24 rfl (fun w1 hb1 hs1 hB1 => Calls.mono (isSorted_ints _ _ _ z.2 _ (Sat.rd hs1 (id := 10000000 + k) (E := encI) (by (repeat' refine (look_cons_ne _ _ (by omega)).trans ?_); exact look_inn hz) rfl) hzup) ?_)
         rintro e w2 ⟨rfl, hb2⟩
         refine After.below rfl hb1 hs1 hB1 hb2 ?_
         clear hb2 hB1 hs1 hb1 w2 w1
         refine ol_g rfl rfl hs70 ?_
         refine ol_r (r_not rfl) rfl ?_
         refine ol_r (r_pickF rfl hs70 rfl) rfl ?_
         refine ol_nil (to_k0 (fun _ _ h => h) (hK20 _ _ _ _ _ ?_))
         clear hK20
         refine wp_condNB rfl (fun hc75 => ?_) (fun hc75 => ?_)
         ·exfalso
          first
            | omega
            | (simp at phs70; omega)
            | (simp at hc75; done)
            | (simp at phs75; done)
         ·refine wp_skip' (to_k0 (fun _ _ h => h) (hK19 _ _ _ _ _ ?_))
          clear hK19
          refine wp_seq' fun K23 hK23 => ?_
          refine wp_reg ?_
          refine ol_r (r_fa (o' := 0) rfl fl49_0 rfl) rfl ?_
          refine ol_r (r_ld (id := 14) rfl rfl rfl sc47) rfl ?_
          refine ol_r (r_move rfl) rfl ?_
          refine ol_r (r_sub rfl rfl (by omega)) rfl ?_
          refine ol_ixo (id := (10000000 + k)) encI z.2 rfl ((by (repeat' refine (look_cons_ne _ _ (by omega)).trans ?_); exact look_inn hz)) rfl rfl sl47 (by omega) rfl fun x80 hx80 => ?_
          try simp only [Int.toNat_natCast] at hx80
          refine ol_r (r_ldw rfl (fun w1 hb1 hs1 hB1 => show Loads _ _ _ _ (.int .i64 x80) from ld_own (id := (10000000 + k)) hs1 ((by (repeat' refine (look_cons_ne _ _ (by omega)).trans ?_); exact look_inn hz)) rfl ty3 hx80)) rfl ?_
          refine ol_r (r_assign rfl) rfl ?_
          refine ol_nil (to_k0 (fun _ _ h => h) (hK23 _ _ _ _ _ ?_))
          clear hK23
          refine wp_seq' fun K24 hK24 => ?_
          refine wp_seq' fun K25 hK25 => ?_
          refine wp_reg ?_
          refine ol_r (r_fa (o' := 0) rfl fl49_0 rfl) rfl ?_
          refine ol_r (r_ld (id := 14) rfl rfl rfl sc47) rfl ?_
          refine ol_r (r_len rfl sl47) rfl ?_
          refine ol_r (r_move rfl) rfl ?_
          refine ol_nil (to_k0 (fun _ _ h => h) (hK25 _ _ _ _ _ ?_))
          clear hK25
          refine wp_block' ?_
          apply wp_loopT (σ := Nat) (fun s => s ≤ z.1.2.1) (fun s => [(85, .int .i64 s)]) [(2, _), (5, _), (7, _), (9, _), (10, _), (12, _), (14, _), (15, _), (48, _), (49, _), (50, _), (83, _), (84, _)] (fun s => []) [(2, _), (3, _), (9, _), (14, _), (27, _), (1005, _), (1007, _)] (fun s => innH 3 10000000 L) (fun s => z.1.2.1 - s) (0)
          ·try dsimp only
           exact Nat.zero_le _
          ·exact (sub_cons rfl sub_nil)
          ·exact (sub_cons rfl (sub_cons rfl (sub_cons rfl (sub_cons rfl (sub_cons rfl (sub_cons rfl (sub_cons rfl (sub_cons rfl (sub_cons rfl (sub_cons rfl (sub_cons rfl (sub_cons rfl (sub_cons rfl sub_nil)))))))))))))
          ·exact subH_nil
          ·exact (subH_same rfl (subH_same rfl (subH_same rfl (subH_same rfl (subH_same rfl (subH_same rfl (subH_same rfl subH_nil)))))))
          ·refine subH_inn fun j x hj => ?_
           repeat' refine (look_cons_ne _ _ (by omega)).trans ?_
           exact look_inn hj
          ·rintro i hi
           intro K26 hK26
           refine wp_seq' fun K27 hK27 => ?_
           refine wp_reg ?_
           refine ol_r (r_lss rfl rfl) rfl ?_
           refine ol_nil (to_k0 (fun _ _ h => h) (hK27 _ _ _ _ _ ?_))
           clear hK27
           refine wp_seq' fun K28 hK28 => ?_
           refine wp_condD rfl (fun hc86 => ?_) (fun hc86 => ?_)
           ·refine wp_skip' (to_k0 (fun _ _ h => h) (hK28 _ _ _ _ _ ?_))
            clear hK28
            refine wp_seq' fun K29 hK29 => ?_
            refine wp_block' ?_
            refine wp_seq' fun K30 hK30 => ?_
            refine wp_reg ?_
            refine ol_r (r_move rfl) rfl ?_
            refine ol_ixo (id := (10000000 + k)) encI z.2 rfl ((by (repeat' refine (look_cons_ne _ _ (by omega)).trans ?_); exact look_inn hz)) rfl rfl sl47 (by omega) rfl fun x88 hx88 => ?_
            try simp only [Int.toNat_natCast] at hx88
            refine ol_r (r_ldw rfl (fun w1 hb1 hs1 hB1 => show Loads _ _ _ _ (.int .i64 x88) from ld_own (id := (10000000 + k)) hs1 ((by (repeat' refine (look_cons_ne _ _ (by omega)).trans ?_); exact look_inn hz)) rfl ty3 hx88)) rfl ?_
            refine ol_alloc 16 z3 rfl fun b16 => ?_
            refine ol_alloc 17 z3 rfl fun b17 => ?_
            refine ol_store (id := 16) rfl rfl rfl rfl sz3 rfl rfl (by first | decide | exact Nat.zero_lt_succ _ | simp) ?_
            refine ol_store (id := 17) rfl rfl rfl rfl sz3 rfl rfl (by first | decide | exact Nat.zero_lt_succ _ | simp) ?_
            refine ol_nil (to_k0 (fun _ _ h => h) (hK30 _ _ _ _ _ ?_))
            clear hK30
            refine wp_seq' fun K31 hK31 => ?_
            refine wp_reg ?_
            refine ol_r (r_move rfl) rfl ?_
            refine ol_r (r_func rfl) rfl ?_
            refine ol_call rfl rfl cb25 rfl (fun w1 hb1 hs1 hB1 => ?_)
            refine Calls.mono (contains_row _ _ _ (crossR nm gs A.d).1 (i : Int) x88 _ _ _ (Sat.rd hs1 (id := 27) (E := encCr) rfl rfl) ((Sat.blk hs1 (id := 16) rfl).one rfl) ((Sat.blk hs1 (id := 17) rfl).one rfl) (hzrow i x88 hx88)) ?_
            rintro e w2 ⟨rfl, hb2⟩
            refine After.below rfl hb1 hs1 hB1 hb2 ?_
            clear hb2 hB1 hs1 hb1 w2 w1
            refine ol_r (r_not rfl) rfl ?_
            refine ol_nil (to_k0 (fun _ _ h => h) (hK31 _ _ _ _ _ ?_))
            clear hK31
            refine wp_condNB rfl (fun hc93 => ?_) (fun hc93 => ?_)
            ·exfalso
             first
               | (simp at hc93; done)
               | (cases hc93)
            ·refine wp_skip' (to_k0 (fun _ _ h => h) (hK29 _ _ _ _ _ ?_))
             clear hK29
             refine wp_reg ?_
             refine ol_r (r_add rfl rfl (by omega)) rfl ?_
             refine ol_r (r_move rfl) rfl ?_
             refine ol_nil (to_k0 (fun _ _ h => h) (hK26 (i + 1) _ _ ?_ ?_ (sub_cons rfl sub_nil) (sub_cons rfl (sub_cons rfl (sub_cons rfl (sub_cons rfl (sub_cons rfl (sub_cons rfl (sub_cons rfl (sub_cons rfl (sub_cons rfl (sub_cons rfl (sub_cons rfl (sub_cons rfl (sub_cons rfl sub_nil))))))))))))) (by exact subH_nil) (subH_same rfl (subH_same rfl (subH_same rfl (subH_same rfl (subH_same rfl (subH_same rfl (subH_same rfl subH_nil))))))) ?_))
             ·try dsimp only
              omega
             ·try dsimp only
              omega
             ·try dsimp only
              refine subH_inn fun j x hj => ?_
              repeat' refine (look_cons_ne _ _ (by omega)).trans ?_
              exact look_inn hj
           ·refine wp_exit' (to_k0 (fun _ _ h => h) (hK24 _ _ _ _ _ ?_))
            clear hK24
            refine wp_seq' fun K32 hK32 => ?_
            refine wp_regq (by kernel_rfl) (by kernel_rfl) ?_
            have h0L : 0 < L.length := by have := (List.getElem?_eq_some_iff.1 hz).1; omega
            have hbl := bestK_lt (L.map (·.2)) L.length (by rw [List.length_map]; exact Nat.le_refl _) h0L
            have hbx := List.getElem?_eq_getElem (l := L) hbl
            have hby := bestR_y (d := A.d) (nm := nm) (fun h => h he0) (by rw [hL]) hbx h0L
            have hb2 : (bestR nm gs A.d).2.1 = true := by rw [hby]
            have hbb : (bestR nm gs A.d).1 = (L[bestK (L.map (·.2)) L.length]).2 := by rw [hby]
            obtain ⟨hbt, hbl2⟩ := hT _ _ hbx
            rw [← hbb] at hbt hbl2
            have hmin : longV (bestR nm gs A.d).1 ≤ longV z.2 := by
              have h1 := bestK_min (L.map (·.2)) L.length (by rw [List.length_map]; exact Nat.le_refl _) k z.2 (by omega) (by rw [List.getElem?_map, hz]; rfl)
              rw [getD_map hbx] at h1
              rw [hbb]; exact h1
            refine ql_r (r_move rfl) rfl ?_
            refine ql_r (r_not rfl) rfl ?_
            refine ql_r (r_move rfl) rfl ?_
            refine ql_split (d := 97) rfl (fun hs97 => ?_) (fun hs97 => ?_)
            ·have phs97 := hs97; try simp only [decide_eq_true_eq, decide_eq_false_iff_not, Bool.not_eq_true', Bool.not_eq_false', Bool.not_true, Bool.not_false] at phs97
             refine ql_s rfl rfl hs97 rfl ?_
             refine ql_s rfl rfl hs97 rfl ?_
             refine ql_s rfl rfl hs97 rfl ?_
             refine ql_s rfl rfl hs97 rfl ?_
             refine ql_s rfl rfl hs97 rfl ?_
             refine ql_s rfl rfl hs97 rfl ?_
             refine ql_s rfl rfl hs97 rfl ?_
             refine ql_s rfl rfl hs97 rfl ?_
             refine ql_s rfl rfl hs97 rfl ?_
             refine ql_s rfl rfl hs97 rfl ?_
             refine ql_s rfl rfl hs97 rfl ?_
             refine ql_s rfl rfl hs97 rfl ?_
             refine ql_s rfl rfl hs97 rfl ?_
             refine ql_s rfl rfl hs97 rfl ?_
             refine ql_s rfl rfl hs97 rfl ?_
             refine ql_s rfl rfl hs97 rfl ?_
             refine ql_s rfl rfl hs97 rfl ?_
             refine ql_s rfl rfl hs97 rfl ?_
             refine ql_s rfl rfl hs97 rfl ?_
             refine ql_s rfl rfl hs97 rfl ?_
             refine ql_s rfl rfl hs97 rfl ?_
             refine ql_s rfl rfl hs97 rfl ?_
             refine ql_s rfl rfl hs97 rfl ?_
             refine ql_r (r_pickT rfl hs97 rfl) rfl ?_
             refine ql_nil (to_k0 (fun _ _ h => h) (hK32 _ _ _ _ _ ?_))
             clear hK32
             refine wp_condT rfl ?_
             refine wp_seq' fun K33 hK33 => ?_
             refine wp_reg ?_
             refine ol_r (r_assign rfl) rfl ?_
             refine ol_nil (to_k0 (fun _ _ h => h) (hK33 _ _ _ _ _ ?_))
             clear hK33
             refine hQ.ret (rvs1 (rv_t rfl)) (fun _ _ h => h) fun w hb hs hB hkd => ?_
             first
               | (exfalso; rw [hb2] at phs97; cases phs97)
            ·have phs97 := hs97; try simp only [decide_eq_true_eq, decide_eq_false_iff_not, Bool.not_eq_true', Bool.not_eq_false', Bool.not_true, Bool.not_false] at phs97
             refine ql_g rfl rfl hs97 ?_
             refine ql_r (r_fa (o' := 0) rfl fl49_0 rfl) rfl ?_
             refine ql_g rfl rfl hs97 ?_
             refine ql_r (r_ld (id := 9) rfl rfl rfl sc47) rfl ?_
             refine ql_g rfl rfl hs97 ?_
             refine ql_r (r_move rfl) rfl ?_
             refine ql_g rfl rfl hs97 ?_
             refine ql_r (r_sub rfl rfl (by omega)) rfl ?_
             refine ql_g rfl rfl hs97 ?_
             refine ql_ixo (id := 1007) encI _ rfl rfl rfl rfl sl47 (by omega) (by omega) rfl fun x102 hx102 => ?_
             try simp only [Int.toNat_natCast] at hx102
             try simp only [Int.toNat_natCast] at hx102
             refine ql_g rfl rfl hs97 ?_
             refine ql_r (r_ldw rfl (fun w1 hb1 hs1 hB1 => show Loads _ _ _ _ (.int .i64 x102) from ld_own (id := 1007) hs1 rfl rfl ty3 hx102)) rfl ?_
             refine ql_g rfl rfl hs97 ?_
             refine ql_r (r_fa (o' := 0) rfl fl49_0 rfl) rfl ?_
             refine ql_g rfl rfl hs97 ?_
             refine ql_r (r_ld (id := 9) rfl rfl rfl sc47) rfl ?_
             refine ql_g rfl rfl hs97 ?_
             refine ql_ixo (id := 1007) encI _ rfl rfl rfl rfl sl47 (by omega) (by omega) rfl fun x106 hx106 => ?_
             try simp only [Int.toNat_natCast] at hx106
             try simp only [Int.toNat_natCast] at hx106
             refine ql_g rfl rfl hs97 ?_
             refine ql_r (r_ldw rfl (fun w1 hb1 hs1 hB1 => show Loads _ _ _ _ (.int .i64 x106) from ld_own (id := 1007) hs1 rfl rfl ty3 hx106)) rfl ?_
             refine ql_g rfl rfl hs97 ?_
             have v1 := hbt.2 _ (List.mem_of_getElem? hx102)
             have v2 := hbt.2 _ (List.mem_of_getElem? hx106)
             refine ql_r (r_sub rfl rfl (by omega)) rfl ?_
             refine ql_g rfl rfl hs97 ?_
             refine ql_r (r_fa (o' := 0) rfl fl49_0 rfl) rfl ?_
             refine ql_g rfl rfl hs97 ?_
             refine ql_r (r_ld (id := 14) rfl rfl rfl sc47) rfl ?_
             refine ql_g rfl rfl hs97 ?_
             refine ql_r (r_move rfl) rfl ?_
             refine ql_g rfl rfl hs97 ?_
             refine ql_r (r_sub rfl rfl (by omega)) rfl ?_
             refine ql_g rfl rfl hs97 ?_
             refine ql_ixo (id := (10000000 + k)) encI z.2 rfl ((by (repeat' refine (look_cons_ne _ _ (by omega)).trans ?_); exact look_inn hz)) rfl rfl sl47 (by omega) (by omega) rfl fun x113 hx113 => ?_
             try simp only [Int.toNat_natCast] at hx113
             refine ql_g rfl rfl hs97 ?_
             refine ql_r (r_ldw rfl (fun w1 hb1 hs1 hB1 => show Loads _ _ _ _ (.int .i64 x113) from ld_own (id := (10000000 + k)) hs1 ((by (repeat' refine (look_cons_ne _ _ (by omega)).trans ?_); exact look_inn hz)) rfl ty3 hx113)) rfl ?_
             refine ql_g rfl rfl hs97 ?_
             refine ql_r (r_fa (o' := 0) rfl fl49_0 rfl) rfl ?_
             refine ql_g rfl rfl hs97 ?_
             refine ql_r (r_ld (id := 14) rfl rfl rfl sc47) rfl ?_
             refine ql_g rfl rfl hs97 ?_
             refine ql_ixo (id := (10000000 + k)) encI z.2 rfl ((by (repeat' refine (look_cons_ne _ _ (by omega)).trans ?_); exact look_inn hz)) rfl rfl sl47 (by omega) (by omega) rfl fun x117 hx117 => ?_
             try simp only [Int.toNat_natCast] at hx117
             refine ql_g rfl rfl hs97 ?_
             refine ql_r (r_ldw rfl (fun w1 hb1 hs1 hB1 => show Loads _ _ _ _ (.int .i64 x117) from ld_own (id := (10000000 + k)) hs1 ((by (repeat' refine (look_cons_ne _ _ (by omega)).trans ?_); exact look_inn hz)) rfl ty3 hx117)) rfl ?_
             refine ql_g rfl rfl hs97 ?_
             have v3 := hzt.2 _ (List.mem_of_getElem? hx113)
             have v4 := hzt.2 _ (List.mem_of_getElem? hx117)
             refine ql_r (r_sub rfl rfl (by omega)) rfl ?_
             refine ql_g rfl rfl hs97 ?_
             have ez : longV z.2 = x113 - x117 := longV_eq (by rw [← hx113]; congr 1; omega) (by simpa using hx117)
             have ey : longV (bestR nm gs A.d).1 = x102 - x106 := longV_eq (by rw [← hx102]; congr 1; omega) (by simpa using hx106)
             refine ql_r (r_gtr rfl rfl) rfl ?_
             refine ql_r (r_pickF rfl hs97 rfl) rfl ?_
             refine ql_nil (to_k0 (fun _ _ h => h) (hK32 _ _ _ _ _ ?_))
             clear hK32
             refine wp_condD rfl (fun hc121 => ?_) (fun hc121 => ?_)
             ·exfalso
              first
                | omega
                | (simp at phs97; rw [hb2] at phs97; cases phs97)
                | (simp at hc121; omega)
             ·refine wp_skip' (to_k0 (fun _ _ h => h) (hK16 _ _ _ _ _ ?_))
              clear hK16
              refine wp_reg ?_
              refine ol_r (r_add rfl rfl (by omega)) rfl ?_
              refine ol_r (r_move rfl) rfl ?_
              refine ol_nil (to_k0 (fun _ _ h => h) (hK13 ((k + 1, _)) _ _ ?_ ?_ (sub_cons rfl (sub_cons rfl sub_nil)) (sub_cons rfl (sub_cons rfl (sub_cons rfl (sub_cons rfl (sub_cons rfl (sub_cons rfl (sub_cons rfl sub_nil))))))) (by exact subH_nil) (subH_same rfl (subH_same rfl (subH_same rfl (subH_same rfl (subH_same rfl (subH_same rfl subH_nil)))))) ?_))
              ·try dsimp only
               exact ⟨by omega, .inr ⟨k, z, rfl, hz, List.mem_of_getElem? hx80⟩⟩
              ·try dsimp only
               omega
              ·try dsimp only
               refine subH_inn fun j x hj => ?_
               repeat' refine (look_cons_ne _ _ (by omega)).trans ?_
               exact look_inn hj
      ·refine wp_exit' (to_k0 (fun _ _ h => h) (hK11 _ _ _ _ _ ?_))
       clear hK11
       refine wp_seq' fun K34 hK34 => ?_
       refine wp_reg ?_
       have hbe : (bestR nm gs A.d).2.1 = decide (0 < L.length) := by
         by_cases h0 : L.length = 0
         · rw [bestR_n (d := A.d) (nm := nm) (gs := gs) (fun h => h he0) (by rw [← hL, List.length_map]; exact h0), h0]; rfl
         · have hbl := bestK_lt (L.map (·.2)) L.length (by rw [List.length_map]; exact Nat.le_refl _) (by omega)
           have hby := bestR_y (d := A.d) (nm := nm) (fun h => h he0) hL (List.getElem?_eq_getElem (l := L) hbl) (by omega)
           rw [hby, decide_eq_true (by omega)]
       refine ol_r (r_move rfl) rfl ?_
       refine ol_r (r_move rfl) rfl ?_
       refine ol_r (r_len rfl sl44) rfl ?_
       refine ol_r (r_gtr rfl rfl) rfl ?_
       refine ol_r (r_beql rfl rfl (by kernel_rfl)) rfl ?_
       refine ol_r (r_move rfl) rfl ?_
       refine ol_split (d := 128) rfl (fun hs128 => ?_) (fun hs128 => ?_)
       ·have phs128 := hs128; try simp only [decide_eq_true_eq, decide_eq_false_iff_not, Bool.not_eq_true', Bool.not_eq_false', Bool.not_true, Bool.not_false] at phs128
        refine ol_g rfl rfl hs128 ?_
        refine ol_call rfl rfl cb12 rfl (fun w1 hb1 hs1 hB1 => Calls.mono (law5_told _) ?_)
        rintro e w2 ⟨rfl, hb2⟩
        refine After.below rfl hb1 hs1 hB1 hb2 ?_
        clear hb2 hB1 hs1 hb1 w2 w1
        refine ol_r (r_pickT rfl hs128 rfl) rfl ?_
        refine ol_r (r_assign rfl) rfl ?_
        refine ol_nil (to_k0 (fun _ _ h => h) (hK34 _ _ _ _ _ ?_))
        clear hK34
        refine hQ.ret (rvs1 (rv_t rfl)) (fun _ _ h => h) fun w hb hs hB hkd => ?_
        first
          | exact ⟨rfl, hb⟩
       ·have phs128 := hs128; try simp only [decide_eq_true_eq, decide_eq_false_iff_not, Bool.not_eq_true', Bool.not_eq_false', Bool.not_true, Bool.not_false] at phs128
        refine ol_s rfl rfl hs128 rfl ?_
        refine ol_r (r_pickF rfl hs128 rfl) rfl ?_
        refine ol_r (r_assign rfl) rfl ?_
        refine ol_nil (to_k0 (fun _ _ h => h) (hK34 _ _ _ _ _ ?_))
        clear hK34
        refine hQ.ret (rvs1 (rv_t rfl)) (fun _ _ h => h) fun w hb hs hB hkd => ?_
        first
          | (exfalso; rw [hbe] at hs128; simp at hs128; done)
end Go.Proofs.Ytbbhcffkleplnaa
