/-
  slices.BinarySearch at []int.
-/
import Derived.Test.YtbbhcffkleplnaaEnc
import Derived.Test.YtbbhcffkleplnaaLists
import Derived.Test.YtbbhcffkleplnaaHz
namespace Go.Proofs.Ytbbhcffkleplnaa
open Go Go.RowKit Hx
set_option linter.unusedVariables false
set_option linter.unusedSimpArgs false
set_option maxRecDepth 8000
theorem cmp_isNaN (x : Int) (w : World) : Calls Try.prog 85 #[.int .i64 x] w fun e w' => e = .returned (.bool false) ∧ Below w.heap.size w w' := by
  refine enterQ (N := 6) (C := fun _ => True) (H := []) (B := w.heap.size) (args := [_]) Try.func85 rfl rfl rfl (Nat.le_refl _) (Sat.nil _ _) fun Q hQ => ?_
  refine wp_seq' fun K1 hK1 => ?_
  refine wp_reg ?_
  refine ol_r (r_assign rfl) rfl ?_
  refine ol_nil (to_k0 (fun _ _ h => h) (hK1 _ _ _ _ _ ?_))
  clear hK1
  refine wp_seq' fun K2 hK2 => ?_
  refine wp_reg ?_
  refine ol_r (r_move rfl) rfl ?_
  refine ol_r (r_move rfl) rfl ?_
  refine ol_r (r_neq rfl rfl) rfl ?_
  refine ol_r (r_assign rfl) rfl ?_
  refine ol_nil (to_k0 (fun _ _ h => h) (hK2 _ _ _ _ _ ?_))
  clear hK2
  refine hQ.ret (rvs1 (rv_t rfl)) (fun _ _ h => h) fun w hb hs hB hkd => ?_
  exact ⟨by simp, hb⟩
theorem slices_isNaN (x : Int) (w : World) : Calls Try.prog 89 #[.int .i64 x] w fun e w' => e = .returned (.bool false) ∧ Below w.heap.size w w' := by
  refine enterQ (N := 6) (C := fun _ => True) (H := []) (B := w.heap.size) (args := [_]) Try.func89 rfl rfl rfl (Nat.le_refl _) (Sat.nil _ _) fun Q hQ => ?_
  refine wp_seq' fun K1 hK1 => ?_
  refine wp_reg ?_
  refine ol_r (r_assign rfl) rfl ?_
  refine ol_nil (to_k0 (fun _ _ h => h) (hK1 _ _ _ _ _ ?_))
  clear hK1
  refine wp_seq' fun K2 hK2 => ?_
  refine wp_reg ?_
  refine ol_r (r_move rfl) rfl ?_
  refine ol_r (r_move rfl) rfl ?_
  refine ol_r (r_neq rfl rfl) rfl ?_
  refine ol_r (r_assign rfl) rfl ?_
  refine ol_nil (to_k0 (fun _ _ h => h) (hK2 _ _ _ _ _ ?_))
  clear hK2
  refine hQ.ret (rvs1 (rv_t rfl)) (fun _ _ h => h) fun w hb hs hB hkd => ?_
  exact ⟨by simp, hb⟩
theorem cmp_Less (x y : Int) (w : World) : Calls Try.prog 58 #[.int .i64 x, .int .i64 y] w fun e w' => e = .returned (.bool (decide (x < y))) ∧ Below w.heap.size w w' := by
  refine enterQ (N := 17) (C := fun _ => True) (H := []) (B := w.heap.size) (args := [_, _]) Try.func58 rfl rfl rfl (Nat.le_refl _) (Sat.nil _ _) fun Q hQ => ?_
  refine wp_seq' fun K1 hK1 => ?_
  refine wp_reg ?_
  refine ol_r (r_assign rfl) rfl ?_
  refine ol_nil (to_k0 (fun _ _ h => h) (hK1 _ _ _ _ _ ?_))
  clear hK1
  refine wp_seq' fun K2 hK2 => ?_
  refine wp_reg ?_
  refine ol_r (r_move rfl) rfl ?_
  refine ol_call rfl rfl cb85 rfl (fun w1 hb1 hs1 hB1 => Calls.mono (cmp_isNaN _ _) ?_)
  rintro e w2 ⟨rfl, hb2⟩
  refine After.below rfl hb1 hs1 hB1 hb2 ?_
  clear hb2 hB1 hs1 hb1 w2 w1
  refine ol_r (r_move rfl) rfl ?_
  refine ol_split (d := 7) rfl (fun hs7 => ?_) (fun hs7 => ?_)
  ·have phs7 := hs7; try simp only [decide_eq_true_eq, decide_eq_false_iff_not, Bool.not_eq_true', Bool.not_eq_false', Bool.not_true, Bool.not_false] at phs7
   refine ol_g rfl rfl hs7 ?_
   refine ol_r (r_move rfl) rfl ?_
   refine ol_g rfl rfl hs7 ?_
   refine ol_call rfl rfl cb85 rfl (fun w1 hb1 hs1 hB1 => Calls.mono (cmp_isNaN _ _) ?_)
   rintro e w2 ⟨rfl, hb2⟩
   refine After.below rfl hb1 hs1 hB1 hb2 ?_
   clear hb2 hB1 hs1 hb1 w2 w1
   refine ol_g rfl rfl hs7 ?_
   refine ol_r (r_not rfl) rfl ?_
   refine ol_r (r_pickT rfl hs7 rfl) rfl ?_
   refine ol_r (r_move rfl) rfl ?_
   refine ol_split (d := 12) rfl (fun hs12 => ?_) (fun hs12 => ?_)
   ·have phs12 := hs12; try simp only [decide_eq_true_eq, decide_eq_false_iff_not, Bool.not_eq_true', Bool.not_eq_false', Bool.not_true, Bool.not_false] at phs12
    refine ol_s rfl rfl hs12 rfl ?_
    refine ol_s rfl rfl hs12 rfl ?_
    refine ol_s rfl rfl hs12 rfl ?_
    refine ol_r (r_pickT rfl hs12 rfl) rfl ?_
    refine ol_r (r_assign rfl) rfl ?_
    refine ol_nil (to_k0 (fun _ _ h => h) (hK2 _ _ _ _ _ ?_))
    clear hK2
    refine hQ.ret (rvs1 (rv_t rfl)) (fun _ _ h => h) fun w hb hs hB hkd => ?_
    first
      | exact ⟨rfl, hb⟩
      | (exfalso; simp_all; done)
   ·have phs12 := hs12; try simp only [decide_eq_true_eq, decide_eq_false_iff_not, Bool.not_eq_true', Bool.not_eq_false', Bool.not_true, Bool.not_false] at phs12
    refine ol_g rfl rfl hs12 ?_
    refine ol_r (r_move rfl) rfl ?_
    refine ol_g rfl rfl hs12 ?_
    refine ol_r (r_move rfl) rfl ?_
    refine ol_g rfl rfl hs12 ?_
    refine ol_r (r_lss rfl rfl) rfl ?_
    refine ol_r (r_pickF rfl hs12 rfl) rfl ?_
    refine ol_r (r_assign rfl) rfl ?_
    refine ol_nil (to_k0 (fun _ _ h => h) (hK2 _ _ _ _ _ ?_))
    clear hK2
    refine hQ.ret (rvs1 (rv_t rfl)) (fun _ _ h => h) fun w hb hs hB hkd => ?_
    first
      | exact ⟨rfl, hb⟩
      | (exfalso; simp_all; done)
  ·have phs7 := hs7; try simp only [decide_eq_true_eq, decide_eq_false_iff_not, Bool.not_eq_true', Bool.not_eq_false', Bool.not_true, Bool.not_false] at phs7
   refine ol_s rfl rfl hs7 rfl ?_
   refine ol_s rfl rfl hs7 rfl ?_
   refine ol_s rfl rfl hs7 rfl ?_
   refine ol_r (r_pickF rfl hs7 rfl) rfl ?_
   refine ol_r (r_move rfl) rfl ?_
   refine ol_g rfl rfl rfl ?_
   refine ol_r (r_move rfl) rfl ?_
   refine ol_g rfl rfl rfl ?_
   refine ol_r (r_move rfl) rfl ?_
   refine ol_g rfl rfl rfl ?_
   refine ol_r (r_lss rfl rfl) rfl ?_
   refine ol_r (r_pickF rfl rfl rfl) rfl ?_
   refine ol_r (r_assign rfl) rfl ?_
   refine ol_nil (to_k0 (fun _ _ h => h) (hK2 _ _ _ _ _ ?_))
   clear hK2
   refine hQ.ret (rvs1 (rv_t rfl)) (fun _ _ h => h) fun w hb hs hB hkd => ?_
   first
     | exact ⟨rfl, hb⟩
     | (exfalso; simp_all; done)
theorem binarySearch (a : Option Addr) (n cap : Nat) (xs : List Int) (t : Int) (w : World) (hl : Rd encI w.heap.size w a n cap xs) (hn1 : n ≤ 1000000000000) :
    Calls Try.prog 64 #[.slice a n cap, .int .i64 t] w fun e w' => ∃ (k : Nat) (ok : Bool), Place xs t k ∧ (ok = true ↔ xs[k]? = some t) ∧ e = .returned (.tuple #[.int .i64 k, .bool ok]) ∧ Below w.heap.size w w' := by
  have hn := hl.len
  have hfit := hl.fit
  subst hn
  refine enterQ (N := 54) (C := fun _ => True) (H := []) (B := w.heap.size) (args := [_, _]) Try.func64 rfl rfl rfl (Nat.le_refl _) (Sat.nil _ _) fun Q hQ => ?_
  refine wp_seq' fun K1 hK1 => ?_
  refine wp_reg ?_
  refine ol_r (r_assign rfl) rfl ?_
  refine ol_r (r_assign rfl) rfl ?_
  refine ol_nil (to_k0 (fun _ _ h => h) (hK1 _ _ _ _ _ ?_))
  clear hK1
  refine wp_seq' fun K2 hK2 => ?_
  refine wp_reg ?_
  refine ol_r (r_move rfl) rfl ?_
  refine ol_r (r_len rfl sl47) rfl ?_
  refine ol_r (r_assign rfl) rfl ?_
  refine ol_nil (to_k0 (fun _ _ h => h) (hK2 _ _ _ _ _ ?_))
  clear hK2
  refine wp_seq' fun K3 hK3 => ?_
  refine wp_reg ?_
  refine ol_r (r_move rfl) rfl ?_
  refine ol_r (r_assign rfl) rfl ?_
  refine ol_r (r_assign rfl) rfl ?_
  refine ol_nil (to_k0 (fun _ _ h => h) (hK3 _ _ _ _ _ ?_))
  clear hK3
  refine wp_seq' fun K4 hK4 => ?_
  refine wp_block' ?_
  apply wp_loopM (σ := Int × Int) (fun s => 0 ≤ s.1 ∧ s.1 ≤ s.2 ∧ s.2 ≤ xs.length ∧ (s.1 = 0 ∨ ∃ y, xs[(s.1 - 1).toNat]? = some y ∧ y < t) ∧ (s.2 = xs.length ∨ ∃ y, xs[s.2.toNat]? = some y ∧ t ≤ y)) (fun s => [(7, .int .i64 s.1), (8, .int .i64 s.2)]) [(0, _), (1, _), (4, _), (5, _), (6, _)] (fun s => []) [] (fun s => (s.2 - s.1).toNat) ((0, xs.length))
  ·try dsimp only
   exact ⟨by omega, by omega, by omega, .inl rfl, .inl rfl⟩
  ·exact (sub_cons rfl (sub_cons rfl sub_nil))
  ·exact (sub_cons rfl (sub_cons rfl (sub_cons rfl (sub_cons rfl (sub_cons rfl sub_nil)))))
  ·exact subH_nil
  ·exact subH_nil
  ·rintro ⟨i, j⟩ ⟨h1, h2, h3, h4, h5⟩
   dsimp only at h1 h2 h3 h4 h5 ⊢
   intro K5 hK5
   refine wp_seq' fun K6 hK6 => ?_
   refine wp_seq' fun K7 hK7 => ?_
   refine wp_reg ?_
   refine ol_r (r_move rfl) rfl ?_
   refine ol_r (r_move rfl) rfl ?_
   refine ol_r (r_lss rfl rfl) rfl ?_
   refine ol_nil (to_k0 (fun _ _ h => h) (hK7 _ _ _ _ _ ?_))
   clear hK7
   first | refine wp_condD rfl (fun hc15 => ?_) (fun hc15 => ?_) | refine wp_condN rfl (fun hc15 => ?_) (fun hc15 => ?_) | refine wp_condNB rfl (fun hc15 => ?_) (fun hc15 => ?_) | refine wp_cond' rfl (fun hc15 => ?_) (fun hc15 => ?_)
   ·refine wp_skip' (to_k0 (fun _ _ h => h) (hK6 _ _ _ _ _ ?_))
    clear hK6
    refine wp_block' ?_
    refine wp_seq' fun K8 hK8 => ?_
    refine wp_reg ?_
    refine ol_r (r_move rfl) rfl ?_
    refine ol_r (r_move rfl) rfl ?_
    refine ol_r (r_add rfl rfl (by omega)) rfl ?_
    refine ol_r (r_conv (k2 := .u64) rfl (by kernel_rfl) (by kernel_rfl) (wrap_u64 (by omega))) rfl ?_
    refine ol_r (r_shr1 rfl rfl) rfl ?_
    refine ol_r (r_conv (k2 := .i64) rfl (by kernel_rfl) (by kernel_rfl) (IntWalk.i64_in _ (by omega))) rfl ?_
    refine ol_r (r_assign rfl) rfl ?_
    refine ol_nil (to_k0 (fun _ _ h => h) (hK8 _ _ _ _ _ ?_))
    clear hK8
    refine wp_seq' fun K9 hK9 => ?_
    refine wp_reg ?_
    refine ol_r (r_move rfl) rfl ?_
    refine ol_r (r_move rfl) rfl ?_
    refine ol_ixr hl rfl rfl sl47 (by omega) rfl fun x24 hx24 => ?_
    try simp only [Int.toNat_natCast] at hx24
    refine ol_r (r_ldw rfl (fun w1 hb1 hs1 hB1 => show Loads _ _ _ _ (.int .i64 x24) from Rd.loads hl ty3 hx24 hb1)) rfl ?_
    refine ol_r (r_move rfl) rfl ?_
    refine ol_call rfl rfl cb58 rfl (fun w1 hb1 hs1 hB1 => Calls.mono (cmp_Less _ _ _) ?_)
    rintro e w2 ⟨rfl, hb2⟩
    refine After.below rfl hb1 hs1 hB1 hb2 ?_
    clear hb2 hB1 hs1 hb1 w2 w1
    refine ol_nil (to_k0 (fun _ _ h => h) (hK9 _ _ _ _ _ ?_))
    clear hK9
    first | refine wp_condD rfl (fun hc27 => ?_) (fun hc27 => ?_) | refine wp_condN rfl (fun hc27 => ?_) (fun hc27 => ?_) | refine wp_condNB rfl (fun hc27 => ?_) (fun hc27 => ?_) | refine wp_cond' rfl (fun hc27 => ?_) (fun hc27 => ?_)
    ·refine wp_reg ?_
     refine ol_r (r_move rfl) rfl ?_
     refine ol_r (r_add rfl rfl (by omega)) rfl ?_
     refine ol_r (r_assign rfl) rfl ?_
     refine ol_nil (to_k0 (fun _ _ h => h) (hK5 ((_, _)) _ _ ?_ ?_ (sub_cons rfl (sub_cons rfl sub_nil)) (sub_cons rfl (sub_cons rfl (sub_cons rfl (sub_cons rfl (sub_cons rfl sub_nil))))) (by exact subH_nil) subH_nil))
     ·try dsimp only
      first
        | exact ⟨by omega, by omega, by omega, .inr ⟨_, by rw [Int.add_sub_cancel]; exact hx24, by simpa using hc27⟩, h5⟩
        | exact ⟨by omega, by omega, by omega, h4, .inr ⟨_, hx24, by simpa using hc27⟩⟩
     ·try dsimp only
      omega
    ·refine wp_reg ?_
     refine ol_r (r_move rfl) rfl ?_
     refine ol_r (r_assign rfl) rfl ?_
     refine ol_nil (to_k0 (fun _ _ h => h) (hK5 ((_, _)) _ _ ?_ ?_ (sub_cons rfl (sub_cons rfl sub_nil)) (sub_cons rfl (sub_cons rfl (sub_cons rfl (sub_cons rfl (sub_cons rfl sub_nil))))) (by exact subH_nil) subH_nil))
     ·try dsimp only
      first
        | exact ⟨by omega, by omega, by omega, .inr ⟨_, by rw [Int.add_sub_cancel]; exact hx24, by simpa using hc27⟩, h5⟩
        | exact ⟨by omega, by omega, by omega, h4, .inr ⟨_, hx24, by simpa using hc27⟩⟩
     ·try dsimp only
      omega
   ·refine wp_exit' (to_k0 (fun _ _ h => h) (hK4 _ _ _ _ _ ?_))
    clear hK4
    refine wp_seq' fun K10 hK10 => ?_
    refine wp_reg ?_
    have hij : i = j := by omega
    subst hij
    obtain ⟨k, rfl⟩ := Int.eq_ofNat_of_zero_le h1
    have hPl : Place xs t k := ⟨by omega, by
        rcases h4 with h | ⟨y, hy, hyt⟩
        · exact .inl (by omega)
        · by_cases hk0 : k = 0
          · exact .inl hk0
          · exact .inr ⟨y, by rw [← hy]; congr 1; omega, hyt⟩, by
        rcases h5 with h | ⟨y, hy, hyt⟩
        · exact .inl (by omega)
        · exact .inr ⟨y, by simpa using hy, hyt⟩⟩
    refine ol_r (r_move rfl) rfl ?_
    refine ol_r (r_move rfl) rfl ?_
    refine ol_r (r_move rfl) rfl ?_
    refine ol_r (r_lss rfl rfl) rfl ?_
    refine ol_r (r_move rfl) rfl ?_
    refine ol_split (d := 35) rfl (fun hs35 => ?_) (fun hs35 => ?_)
    ·have phs35 := hs35; try simp only [decide_eq_true_eq, decide_eq_false_iff_not, Bool.not_eq_true', Bool.not_eq_false', Bool.not_true, Bool.not_false] at phs35
     refine ol_g rfl rfl hs35 ?_
     refine ol_r (r_move rfl) rfl ?_
     refine ol_g rfl rfl hs35 ?_
     refine ol_r (r_move rfl) rfl ?_
     refine ol_g rfl rfl hs35 ?_
     refine ol_ixr hl rfl rfl sl47 (by omega) rfl fun x38 hx38 => ?_
     try simp only [Int.toNat_natCast] at hx38
     refine ol_g rfl rfl hs35 ?_
     refine ol_r (r_ldw rfl (fun w1 hb1 hs1 hB1 => show Loads _ _ _ _ (.int .i64 x38) from Rd.loads hl ty3 hx38 hb1)) rfl ?_
     refine ol_g rfl rfl hs35 ?_
     refine ol_r (r_move rfl) rfl ?_
     refine ol_g rfl rfl hs35 ?_
     refine ol_r (r_eql rfl rfl) rfl ?_
     refine ol_g rfl rfl hs35 ?_
     refine ol_r (r_move rfl) rfl ?_
     refine ol_split (d := 42) rfl (fun hs42 => ?_) (fun hs42 => ?_)
     ·have phs42 := hs42; try simp only [decide_eq_true_eq, decide_eq_false_iff_not, Bool.not_eq_true', Bool.not_eq_false', Bool.not_true, Bool.not_false] at phs42
      refine ol_s rfl rfl hs42 rfl ?_
      refine ol_s rfl rfl hs42 rfl ?_
      refine ol_s rfl rfl hs42 rfl ?_
      refine ol_s rfl rfl hs42 rfl ?_
      refine ol_s rfl rfl hs42 rfl ?_
      refine ol_s rfl rfl hs42 rfl ?_
      refine ol_u rfl rfl rfl ?_
      refine ol_u rfl rfl rfl ?_
      refine ol_s rfl rfl hs42 rfl ?_
      refine ol_g rfl rfl hs35 ?_
      refine ol_r (r_pickT rfl hs42 rfl) rfl ?_
      refine ol_r (r_pickT rfl hs35 rfl) rfl ?_
      refine ol_r (r_assign rfl) rfl ?_
      refine ol_r (r_assign rfl) rfl ?_
      refine ol_nil (to_k0 (fun _ _ h => h) (hK10 _ _ _ _ _ ?_))
      clear hK10
      refine hQ.ret (rvs2 (rv_t rfl) (rv_t rfl)) (fun _ _ h => h) fun w hb hs hB hkd => ?_
      refine ⟨k, _, hPl, ?_, rfl, hb⟩
      first
        | (exact ⟨fun _ => by rw [hx38, phs42], fun _ => rfl⟩; done)
        | (exact ⟨fun h => (by cases h), fun h => (by rw [hx38] at h; cases h; exact absurd rfl phs42)⟩; done)
        | (exact ⟨fun h => (by cases h), fun h => (by have := (List.getElem?_eq_some_iff.1 h).1; omega)⟩; done)
        | (exfalso; simp_all; done)
     ·have phs42 := hs42; try simp only [decide_eq_true_eq, decide_eq_false_iff_not, Bool.not_eq_true', Bool.not_eq_false', Bool.not_true, Bool.not_false] at phs42
      refine ol_g rfl rfl hs42 ?_
      refine ol_r (r_move rfl) rfl ?_
      refine ol_g rfl rfl hs42 ?_
      refine ol_r (r_move rfl) rfl ?_
      refine ol_g rfl rfl hs42 ?_
      refine ol_ixr hl rfl rfl sl47 (by omega) rfl fun x45 hx45 => ?_
      try simp only [Int.toNat_natCast] at hx45
      refine ol_g rfl rfl hs42 ?_
      refine ol_r (r_ldw rfl (fun w1 hb1 hs1 hB1 => show Loads _ _ _ _ (.int .i64 x45) from Rd.loads hl ty3 hx45 hb1)) rfl ?_
      refine ol_g rfl rfl hs42 ?_
      refine ol_call rfl rfl cb89 rfl (fun w1 hb1 hs1 hB1 => Calls.mono (slices_isNaN _ _) ?_)
      rintro e w2 ⟨rfl, hb2⟩
      refine After.below rfl hb1 hs1 hB1 hb2 ?_
      clear hb2 hB1 hs1 hb1 w2 w1
      refine ol_g rfl rfl hs42 ?_
      refine ol_r (r_move rfl) rfl ?_
      refine ol_split (d := 48) rfl (fun hs48 => ?_) (fun hs48 => ?_)
      ·have phs48 := hs48; try simp only [decide_eq_true_eq, decide_eq_false_iff_not, Bool.not_eq_true', Bool.not_eq_false', Bool.not_true, Bool.not_false] at phs48
       refine ol_g rfl rfl hs48 ?_
       refine ol_r (r_move rfl) rfl ?_
       refine ol_g rfl rfl hs48 ?_
       refine ol_call rfl rfl cb89 rfl (fun w1 hb1 hs1 hB1 => Calls.mono (slices_isNaN _ _) ?_)
       rintro e w2 ⟨rfl, hb2⟩
       refine After.below rfl hb1 hs1 hB1 hb2 ?_
       clear hb2 hB1 hs1 hb1 w2 w1
       refine ol_g rfl rfl hs42 ?_
       refine ol_r (r_pickT rfl hs48 rfl) rfl ?_
       refine ol_g rfl rfl hs35 ?_
       refine ol_r (r_pickF rfl hs42 rfl) rfl ?_
       refine ol_r (r_pickT rfl hs35 rfl) rfl ?_
       refine ol_r (r_assign rfl) rfl ?_
       refine ol_r (r_assign rfl) rfl ?_
       refine ol_nil (to_k0 (fun _ _ h => h) (hK10 _ _ _ _ _ ?_))
       clear hK10
       refine hQ.ret (rvs2 (rv_t rfl) (rv_t rfl)) (fun _ _ h => h) fun w hb hs hB hkd => ?_
       refine ⟨k, _, hPl, ?_, rfl, hb⟩
       first
         | (exact ⟨fun _ => by rw [hx38, phs42], fun _ => rfl⟩; done)
         | (exact ⟨fun h => (by cases h), fun h => (by rw [hx38] at h; cases h; exact absurd rfl phs42)⟩; done)
         | (exact ⟨fun h => (by cases h), fun h => (by have := (List.getElem?_eq_some_iff.1 h).1; omega)⟩; done)
         | (exfalso; simp_all; done)
      ·have phs48 := hs48; try simp only [decide_eq_true_eq, decide_eq_false_iff_not, Bool.not_eq_true', Bool.not_eq_false', Bool.not_true, Bool.not_false] at phs48
       refine ol_s rfl rfl hs48 rfl ?_
       refine ol_s rfl rfl hs48 rfl ?_
       refine ol_g rfl rfl hs42 ?_
       refine ol_r (r_pickF rfl hs48 rfl) rfl ?_
       refine ol_g rfl rfl hs35 ?_
       refine ol_r (r_pickF rfl hs42 rfl) rfl ?_
       refine ol_r (r_pickT rfl hs35 rfl) rfl ?_
       refine ol_r (r_assign rfl) rfl ?_
       refine ol_r (r_assign rfl) rfl ?_
       refine ol_nil (to_k0 (fun _ _ h => h) (hK10 _ _ _ _ _ ?_))
       clear hK10
       refine hQ.ret (rvs2 (rv_t rfl) (rv_t rfl)) (fun _ _ h => h) fun w hb hs hB hkd => ?_
       refine ⟨k, _, hPl, ?_, rfl, hb⟩
       first
         | (exact ⟨fun _ => by rw [hx38, phs42], fun _ => rfl⟩; done)
         | (exact ⟨fun h => (by cases h), fun h => (by rw [hx38] at h; cases h; exact absurd rfl phs42)⟩; done)
         | (exact ⟨fun h => (by cases h), fun h => (by have := (List.getElem?_eq_some_iff.1 h).1; omega)⟩; done)
         | (exfalso; simp_all; done)
    ·have phs35 := hs35; try simp only [decide_eq_true_eq, decide_eq_false_iff_not, Bool.not_eq_true', Bool.not_eq_false', Bool.not_true, Bool.not_false] at phs35
     refine ol_s rfl rfl hs35 rfl ?_
     refine ol_s rfl rfl hs35 rfl ?_
     refine ol_s rfl rfl hs35 rfl ?_
     refine ol_s rfl rfl hs35 rfl ?_
     refine ol_s rfl rfl hs35 rfl ?_
     refine ol_s rfl rfl hs35 rfl ?_
     refine ol_s rfl rfl hs35 rfl ?_
     refine ol_u rfl rfl rfl ?_
     refine ol_u rfl rfl rfl ?_
     refine ol_u rfl rfl rfl ?_
     refine ol_u rfl rfl rfl ?_
     refine ol_u rfl rfl rfl ?_
     refine ol_u rfl rfl rfl ?_
     refine ol_u rfl rfl rfl ?_
     refine ol_u rfl rfl rfl ?_
     refine ol_u rfl rfl rfl ?_
     refine ol_s rfl rfl hs35 rfl ?_
     refine ol_r (r_pickF rfl hs35 rfl) rfl ?_
     refine ol_r (r_assign rfl) rfl ?_
     refine ol_r (r_assign rfl) rfl ?_
     refine ol_nil (to_k0 (fun _ _ h => h) (hK10 _ _ _ _ _ ?_))
     clear hK10
     refine hQ.ret (rvs2 (rv_t rfl) (rv_t rfl)) (fun _ _ h => h) fun w hb hs hB hkd => ?_
     refine ⟨k, _, hPl, ?_, rfl, hb⟩
     first
       | (exact ⟨fun _ => by rw [hx38, phs42], fun _ => rfl⟩; done)
       | (exact ⟨fun h => (by cases h), fun h => (by rw [hx38] at h; cases h; exact absurd rfl phs42)⟩; done)
       | (exact ⟨fun h => (by cases h), fun h => (by have := (List.getElem?_eq_some_iff.1 h).1; omega)⟩; done)
       | (exfalso; simp_all; done)
end Go.Proofs.Ytbbhcffkleplnaa
