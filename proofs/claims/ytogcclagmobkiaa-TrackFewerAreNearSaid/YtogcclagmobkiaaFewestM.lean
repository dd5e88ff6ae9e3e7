/-
  Fewest: the rows as they grow. No program stands here.
-/
import Derived.Test.YtogcclagmobkiaaFew2M
import Derived.Test.YtogcclagmobkiaaTabM
namespace Go.Proofs.Ytogcclagmobkiaa
set_option linter.unusedVariables false
set_option linter.unusedSimpArgs false
theorem tab_cg {n : Nat} {f g : Nat → Int} (h : ∀ j, j < n → f j = g j) : tab n f = tab n g := List.map_congr_left fun j hj => h j (List.mem_range.1 hj)
section
variable (en : Nat → Nat → Bool) (n : Nat)
def mmL (m c j : Nat) : Int := if j = n - 2 - m then (fewT en n (manyL en n m) (n - 2 - m) c).1 else manyL en n m j
def nnL (m c j : Nat) : Int := if j = n - 2 - m then (fewT en n (manyL en n m) (n - 2 - m) c).2 else nextF en n m j
def rrL (m c j : Nat) : Int := if j = n - 2 - m then fewR en (manyL en n m) (n - 2 - m) c else nextF en n m j
variable {en n} {m i k : Nat}
theorem nextF_low : ∀ (m j : Nat), j < n - 1 - m → nextF en n m j = 0
  | 0, _, _ => rfl
  | m + 1, j, h => by rw [nextF, if_neg (by omega)]; exact nextF_low m j (by omega)
theorem mm_eq {c : Nat} (hi : n - 2 - m = i) : mmL en n m c i = (fewT en n (manyL en n m) i c).1 := by subst hi; exact if_pos rfl
theorem mm_ne {c : Nat} (h : k ≠ n - 2 - m) : mmL en n m c k = manyL en n m k := if_neg h
theorem rr_eq {c : Nat} (hi : n - 2 - m = i) : rrL en n m c i = fewR en (manyL en n m) i c := by subst hi; exact if_pos rfl
theorem mm_zero (hi : n - 2 - m = i) (hm : m + 1 < n) : (tab n (manyL en n m)).set i n = tab n (mmL en n m (i + 1 - (i + 1))) := by
  subst hi
  refine tab_set (by omega) ?_ fun j hj _ => ?_
  · rw [mm_eq rfl, Nat.sub_self]; rfl
  · rw [mm_ne hj]
theorem nn_zero (hi : n - 2 - m = i) (hm : m + 1 < n) : tab n (nextF en n m) = tab n (nnL en n m (i + 1 - (i + 1))) := by
  refine tab_cg fun j hj => ?_
  unfold nnL
  split
  · rename_i h; subst h; rw [Nat.sub_self, nextF_low m _ (by omega)]; rfl
  · rfl
theorem rr_zero (hi : n - 2 - m = i) (hm : m + 1 < n) : (tab n (nextF en n m)).set i (-1) = tab n (rrL en n m (i + 1 - (i + 1))) := by
  subst hi
  refine tab_set (by omega) ?_ fun j hj _ => ?_
  · rw [rr_eq rfl, Nat.sub_self]; rfl
  · exact if_neg hj
theorem fewT_yes {mf : Nat → Int} (hk : i + 1 ≤ k) (h : mf k + 1 < (fewT en n mf i (k - (i + 1))).1) (he : en i k = true) : fewT en n mf i (k + 1 - (i + 1)) = (mf k + 1, (k : Int)) := by
  rw [show k + 1 - (i + 1) = (k - (i + 1)) + 1 by omega, fewT, show i + 1 + (k - (i + 1)) = k by omega, if_pos ⟨h, he⟩]
theorem fewT_no {mf : Nat → Int} (hk : i + 1 ≤ k) (h : ¬(mf k + 1 < (fewT en n mf i (k - (i + 1))).1 ∧ en i k = true)) : fewT en n mf i (k + 1 - (i + 1)) = fewT en n mf i (k - (i + 1)) := by
  rw [show k + 1 - (i + 1) = (k - (i + 1)) + 1 by omega, fewT, show i + 1 + (k - (i + 1)) = k by omega, if_neg h]
theorem fewR_yes {mf : Nat → Int} (hk : i + 1 ≤ k) (h : fewR en mf i (k - (i + 1)) < 0 ∨ mf k < mf (fewR en mf i (k - (i + 1))).toNat) (he : en i k = true) : fewR en mf i (k + 1 - (i + 1)) = k := by
  rw [show k + 1 - (i + 1) = (k - (i + 1)) + 1 by omega, fewR, show i + 1 + (k - (i + 1)) = k by omega, if_pos ⟨h, he⟩]
theorem fewR_no {mf : Nat → Int} (hk : i + 1 ≤ k) (h : ¬((fewR en mf i (k - (i + 1)) < 0 ∨ mf k < mf (fewR en mf i (k - (i + 1))).toNat) ∧ en i k = true)) : fewR en mf i (k + 1 - (i + 1)) = fewR en mf i (k - (i + 1)) := by
  rw [show k + 1 - (i + 1) = (k - (i + 1)) + 1 by omega, fewR, show i + 1 + (k - (i + 1)) = k by omega, if_neg h]
theorem mm_yes (hi : n - 2 - m = i) (hm : m + 1 < n) (hk : i + 1 ≤ k) (h : manyL en n m k + 1 < (fewT en n (manyL en n m) i (k - (i + 1))).1) (he : en i k = true) : (tab n (mmL en n m (k - (i + 1)))).set i (manyL en n m k + 1) = tab n (mmL en n m (k + 1 - (i + 1))) := by
  subst hi
  refine tab_set (by omega) ?_ fun j hj _ => ?_
  · rw [mm_eq rfl, fewT_yes hk h he]
  · rw [mm_ne hj, mm_ne hj]
theorem nn_yes (hi : n - 2 - m = i) (hm : m + 1 < n) (hk : i + 1 ≤ k) (h : manyL en n m k + 1 < (fewT en n (manyL en n m) i (k - (i + 1))).1) (he : en i k = true) : (tab n (nnL en n m (k - (i + 1)))).set i (k : Int) = tab n (nnL en n m (k + 1 - (i + 1))) := by
  subst hi
  refine tab_set (by omega) ?_ fun j hj _ => ?_
  · rw [nnL, if_pos rfl, fewT_yes hk h he]
  · rw [nnL, nnL, if_neg hj, if_neg hj]
theorem mm_no (hi : n - 2 - m = i) (hk : i + 1 ≤ k) (h : ¬(manyL en n m k + 1 < (fewT en n (manyL en n m) i (k - (i + 1))).1 ∧ en i k = true)) : tab n (mmL en n m (k - (i + 1))) = tab n (mmL en n m (k + 1 - (i + 1))) := by
  subst hi
  refine tab_cg fun j _ => ?_
  unfold mmL
  rw [fewT_no hk h]
theorem nn_no (hi : n - 2 - m = i) (hk : i + 1 ≤ k) (h : ¬(manyL en n m k + 1 < (fewT en n (manyL en n m) i (k - (i + 1))).1 ∧ en i k = true)) : tab n (nnL en n m (k - (i + 1))) = tab n (nnL en n m (k + 1 - (i + 1))) := by
  subst hi
  refine tab_cg fun j _ => ?_
  unfold nnL
  rw [fewT_no hk h]
theorem rr_yes (hi : n - 2 - m = i) (hm : m + 1 < n) (hk : i + 1 ≤ k) (h : fewR en (manyL en n m) i (k - (i + 1)) < 0 ∨ manyL en n m k < manyL en n m (fewR en (manyL en n m) i (k - (i + 1))).toNat) (he : en i k = true) : (tab n (rrL en n m (k - (i + 1)))).set i (k : Int) = tab n (rrL en n m (k + 1 - (i + 1))) := by
  subst hi
  refine tab_set (by omega) ?_ fun j hj _ => ?_
  · rw [rr_eq rfl, fewR_yes hk h he]
  · rw [rrL, rrL, if_neg hj, if_neg hj]
theorem rr_no (hi : n - 2 - m = i) (hk : i + 1 ≤ k) (h : ¬((fewR en (manyL en n m) i (k - (i + 1)) < 0 ∨ manyL en n m k < manyL en n m (fewR en (manyL en n m) i (k - (i + 1))).toNat) ∧ en i k = true)) : tab n (rrL en n m (k - (i + 1))) = tab n (rrL en n m (k + 1 - (i + 1))) := by
  subst hi
  refine tab_cg fun j _ => ?_
  unfold rrL
  rw [fewR_no hk h]
theorem few_all (he : ∀ i, en i (i + 1) = true) (hi : n - 2 - m = i) (hm : m + 1 < n) : ∃ k : Nat, fewR en (manyL en n m) i (m + 1) = k ∧ i < k ∧ k < n ∧ fewT en n (manyL en n m) i (m + 1) = (manyL en n m k + 1, (k : Int)) := by
  have h2 := (manyL_bd (en := en) (n := n) m (i + 1)).2
  obtain ⟨k, a, b, c, d⟩ := few_eq (en := en) (n := n) (mf := manyL en n m) (i := i) (by omega) (he i) m
  exact ⟨k, a, b, by omega, d⟩
theorem mm_done (he : ∀ i, en i (i + 1) = true) (hi : n - 2 - m = i) (hm : m + 1 < n) (hk : k = n) : tab n (mmL en n m (k - (i + 1))) = tab n (manyL en n (m + 1)) := by
  subst hk
  obtain ⟨x, a, b, c, d⟩ := few_all he hi hm
  subst hi
  refine tab_cg fun j _ => ?_
  rw [mmL, manyL, show k - (k - 2 - m + 1) = m + 1 by omega, d, a]
  rfl
theorem nn_done (he : ∀ i, en i (i + 1) = true) (hi : n - 2 - m = i) (hm : m + 1 < n) (hk : k = n) : tab n (nnL en n m (k - (i + 1))) = tab n (nextF en n (m + 1)) := by
  subst hk
  obtain ⟨x, a, b, c, d⟩ := few_all he hi hm
  subst hi
  refine tab_cg fun j _ => ?_
  rw [nnL, nextF, show k - (k - 2 - m + 1) = m + 1 by omega, d, a]
theorem rr_done (hi : n - 2 - m = i) (hm : m + 1 < n) (hk : k = n) : tab n (rrL en n m (k - (i + 1))) = tab n (nextF en n (m + 1)) := by
  subst hk
  subst hi
  refine tab_cg fun j _ => ?_
  rw [rrL, nextF, show k - (k - 2 - m + 1) = m + 1 by omega]
theorem ss_done (hi : n - 2 - m = i) (hm : m + 1 < n) {x : Int} (hx : x = manyL en n m (fewR en (manyL en n m) i (m + 1)).toNat + 1) : (tab n (manyL en n m)).set i x = tab n (manyL en n (m + 1)) := by
  subst hi
  refine tab_set (by omega) ?_ fun j hj _ => ?_
  · rw [manyL, if_pos rfl, hx]
  · rw [manyL, if_neg hj]
end
theorem fewR_rg {en : Nat → Nat → Bool} {mf : Nat → Int} {i k : Nat} (hk : i + 1 ≤ k) : -1 ≤ fewR en mf i (k - (i + 1)) ∧ fewR en mf i (k - (i + 1)) < k := by
  rcases fewR_bd (en := en) mf i (k - (i + 1)) with h | ⟨x, a, b, c⟩
  · omega
  · omega
/-- Which one follows. -/
def nxN (ss : List SmpR) (M : Int) (i : Nat) : Nat := (nextF (enoughB ss M) ss.length (ss.length - 1) i).toNat
theorem nx_is {ss : List SmpR} {M : Int} {i : Nat} (h : i < ss.length) : nextF (enoughB ss M) ss.length (ss.length - 1) i = (nxN ss M i : Int) := by
  unfold nxN
  by_cases h1 : i + 1 < ss.length
  · obtain ⟨k, a, _⟩ := nextF_spec (fun i => enoughB_next ss M i) h1
    rw [a, Int.toNat_natCast]
  · obtain rfl : i = ss.length - 1 := by omega
    rw [nextF_last _ (by omega)]; rfl
theorem nx_bd {ss : List SmpR} {M : Int} {i : Nat} (h : i + 1 < ss.length) : i < nxN ss M i ∧ nxN ss M i < ss.length := by
  obtain ⟨k, a, b, c⟩ := nextF_spec (fun i => enoughB_next ss M i) h
  unfold nxN
  rw [a, Int.toNat_natCast]
  exact ⟨b, c⟩
theorem chain_next {ss : List SmpR} {M : Int} {f i : Nat} (h : i < ss.length) : chainF (enoughB ss M) ss.length (f + 1) i = (i : Int) :: (if i + 1 < ss.length then chainF (enoughB ss M) ss.length f (nxN ss M i) else []) := by
  by_cases h1 : i + 1 < ss.length
  · rw [if_pos h1, chainF_go h (by omega) (nx_is h)]
  · rw [if_neg h1, chainF_end h (by omega)]
end Go.Proofs.Ytogcclagmobkiaa
