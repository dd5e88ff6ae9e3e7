/-
  sort.Search, at any function that only reads.
-/
import Derived.Test.YtamlldedmhkobaaEnc
namespace Go.Proofs.Ytamlldedmhkobaa
open Go Go.RowKit Hx
set_option linter.unusedVariables false
set_option linter.unusedSimpArgs false

theorem search_any (n : Int) (g : FuncId) (cv : List Value) (p : Int → Bool) (w : World) (hn : 0 ≤ n ∧ n ≤ 1000000000) (hg : Callable Try.prog g)
    (hf : ∀ x w', 0 ≤ x → x < n → Below w.heap.size w w' → w.heap.size ≤ w'.heap.size → Calls Try.prog g ([Value.int .i64 x] ++ cv).toArray w' fun e w2 => e = .returned (.bool (p x)) ∧ Below w'.heap.size w' w2) :
    Calls Try.prog 69 #[.int .i64 n, .func (.func g) #[] cv.toArray] w fun e w' => ∃ i : Nat, e = .returned (.int .i64 i) ∧ (i : Int) ≤ n ∧ (i = 0 ∨ p ((i : Int) - 1) = false) ∧ ((i : Int) = n ∨ p i = true) ∧ Below w.heap.size w w' := by
  refine enterQ (N := 26) (C := fun _ => True) (H := []) (B := w.heap.size) (args := [_, _]) Try.func69 rfl rfl rfl (Nat.le_refl _) (Sat.nil _ _) fun Q hQ => ?_
  refine wp_seq' fun K1 hK1 => ?_
  refine wp_reg ?_
  refine ol_r (r_assign rfl) rfl ?_
  refine ol_nil (to_k0 (fun _ _ h => h) (hK1 _ _ _ _ _ ?_))
  clear hK1
  refine wp_seq' fun K2 hK2 => ?_
  refine wp_reg ?_
  refine ol_r (r_move rfl) rfl ?_
  refine ol_r (r_assign rfl) rfl ?_
  refine ol_r (r_assign rfl) rfl ?_
  refine ol_nil (to_k0 (fun _ _ h => h) (hK2 _ _ _ _ _ ?_))
  clear hK2
  refine wp_seq' fun K3 hK3 => ?_
  refine wp_block' ?_
  apply wp_loopM (σ := Int × Int) (fun s => 0 ≤ s.1 ∧ s.1 ≤ s.2 ∧ s.2 ≤ n ∧ (s.1 = 0 ∨ p (s.1 - 1) = false) ∧ (s.2 = n ∨ p s.2 = true)) (fun s => [(5, .int .i64 s.1), (6, .int .i64 s.2)]) [(1, _), (4, _)] (fun s => []) [] (fun s => (s.2 - s.1).toNat) ((0, n))
  ·try dsimp only
   exact ⟨by omega, by omega, by omega, .inl rfl, .inl rfl⟩
  ·exact (sub_cons rfl (sub_cons rfl sub_nil))
  ·exact (sub_cons rfl (sub_cons rfl sub_nil))
  ·exact subH_nil
  ·exact subH_nil
  ·rintro ⟨i, j⟩ ⟨h1, h2, h3, h4, h5⟩
   dsimp only at h1 h2 h3 h4 h5 ⊢
   intro K4 hK4
   refine wp_seq' fun K5 hK5 => ?_
   refine wp_seq' fun K6 hK6 => ?_
   refine wp_reg ?_
   refine ol_r (r_move rfl) rfl ?_
   refine ol_r (r_move rfl) rfl ?_
   refine ol_r (r_lss rfl rfl) rfl ?_
   refine ol_nil (to_k0 (fun _ _ h => h) (hK6 _ _ _ _ _ ?_))
   clear hK6
   first | refine wp_condD rfl (fun hc11 => ?_) (fun hc11 => ?_) | refine wp_condN rfl (fun hc11 => ?_) (fun hc11 => ?_) | refine wp_condNB rfl (fun hc11 => ?_) (fun hc11 => ?_) | refine wp_cond' rfl (fun hc11 => ?_) (fun hc11 => ?_)
   ·refine wp_skip' (to_k0 (fun _ _ h => h) (hK5 _ _ _ _ _ ?_))
    clear hK5
    refine wp_block' ?_
    refine wp_seq' fun K7 hK7 => ?_
    refine wp_reg ?_
    refine ol_r (r_move rfl) rfl ?_
    refine ol_r (r_move rfl) rfl ?_
    refine ol_r (r_add rfl rfl (by omega)) rfl ?_
    refine ol_r (r_conv (k2 := .u64) rfl (by kernel_rfl) (by kernel_rfl) (wrap_u64 (by omega))) rfl ?_
    refine ol_r (r_shr1 rfl rfl) rfl ?_
    refine ol_r (r_conv (k2 := .i64) rfl (by kernel_rfl) (by kernel_rfl) (IntWalk.i64_in _ (by omega))) rfl ?_
    refine ol_r (r_assign rfl) rfl ?_
    refine ol_nil (to_k0 (fun _ _ h => h) (hK7 _ _ _ _ _ ?_))
    clear hK7
    refine wp_seq' fun K8 hK8 => ?_
    refine wp_reg ?_
    refine ol_r (r_move rfl) rfl ?_
    refine ol_r (r_move rfl) rfl ?_
    refine ol_call rfl rfl hg rfl (fun w1 hb1 hs1 hB1 => Calls.mono (hf _ _ (by omega) (by omega) hb1 hB1) ?_)
    rintro e w2 ⟨rfl, hb2⟩
    refine After.below rfl hb1 hs1 hB1 hb2 ?_
    clear hb2 hB1 hs1 hb1 w2 w1
    refine ol_r (r_not rfl) rfl ?_
    refine ol_nil (to_k0 (fun _ _ h => h) (hK8 _ _ _ _ _ ?_))
    clear hK8
    first | refine wp_condD rfl (fun hc21 => ?_) (fun hc21 => ?_) | refine wp_condN rfl (fun hc21 => ?_) (fun hc21 => ?_) | refine wp_condNB rfl (fun hc21 => ?_) (fun hc21 => ?_) | refine wp_cond' rfl (fun hc21 => ?_) (fun hc21 => ?_)
    ·refine wp_reg ?_
     refine ol_r (r_move rfl) rfl ?_
     refine ol_r (r_add rfl rfl (by omega)) rfl ?_
     refine ol_r (r_assign rfl) rfl ?_
     refine ol_nil (to_k0 (fun _ _ h => h) (hK4 ((_, _)) _ _ ?_ ?_ (sub_cons rfl (sub_cons rfl sub_nil)) (sub_cons rfl (sub_cons rfl sub_nil)) (by exact subH_nil) subH_nil))
     ·try dsimp only
      first
        | exact ⟨by omega, by omega, by omega, .inr (by rw [Int.add_sub_cancel]; exact hc21), h5⟩
        | exact ⟨by omega, by omega, by omega, h4, .inr hc21⟩
     ·try dsimp only
      omega
    ·refine wp_reg ?_
     refine ol_r (r_move rfl) rfl ?_
     refine ol_r (r_assign rfl) rfl ?_
     refine ol_nil (to_k0 (fun _ _ h => h) (hK4 ((_, _)) _ _ ?_ ?_ (sub_cons rfl (sub_cons rfl sub_nil)) (sub_cons rfl (sub_cons rfl sub_nil)) (by exact subH_nil) subH_nil))
     ·try dsimp only
      first
        | exact ⟨by omega, by omega, by omega, .inr (by rw [Int.add_sub_cancel]; exact hc21), h5⟩
        | exact ⟨by omega, by omega, by omega, h4, .inr hc21⟩
     ·try dsimp only
      omega
   ·refine wp_exit' (to_k0 (fun _ _ h => h) (hK3 _ _ _ _ _ ?_))
    clear hK3
    refine wp_seq' fun K9 hK9 => ?_
    refine wp_reg ?_
    refine ol_r (r_move rfl) rfl ?_
    refine ol_r (r_assign rfl) rfl ?_
    refine ol_nil (to_k0 (fun _ _ h => h) (hK9 _ _ _ _ _ ?_))
    clear hK9
    refine hQ.ret (rvs1 (rv_t rfl)) (fun _ _ h => h) fun w hb hs hB hkd => ?_
    have h6 : ((i.toNat : Nat) : Int) = i := by omega
    refine ⟨i.toNat, by rw [h6], by omega, ?_, ?_, hb⟩
    · rcases h4 with h | h
      · exact .inl (by omega)
      · exact .inr (by rw [h6]; exact h)
    · have : i = j := by omega
      rw [h6, this]; exact h5
end Go.Proofs.Ytamlldedmhkobaa
