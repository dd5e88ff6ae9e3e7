/-
  Balance as plain functions. No program stands here.
-/
import Derived.Test.YtamlldedmhkobaaBestM
import Derived.Test.YtamlldedmhkobaaSlices
namespace Go.Proofs.Ytamlldedmhkobaa
set_option linter.unusedVariables false
/-- What a fold passes through. -/
def scanG {α β : Type} (f : β → α → β) : β → List α → List β
  | _, [] => []
  | s, x :: r => f s x :: scanG f (f s x) r
theorem scanG_snoc {α β : Type} (f : β → α → β) : ∀ (xs : List α) (s : β) (x : α), scanG f s (xs ++ [x]) = scanG f s xs ++ [f (xs.foldl f s) x]
  | [], s, x => rfl
  | y :: r, s, x => by simp only [List.cons_append, scanG, scanG_snoc f r, List.foldl_cons]
theorem scanG_len {α β : Type} (f : β → α → β) : ∀ (xs : List α) (s : β), (scanG f s xs).length = xs.length
  | [], _ => rfl
  | x :: r, s => by simp [scanG, scanG_len f r]
theorem foldl_take_succ {α β : Type} (f : β → α → β) (s : β) {xs : List α} {k : Nat} {x : α} (h : xs[k]? = some x) : (xs.take (k + 1)).foldl f s = f ((xs.take k).foldl f s) x := by
  rw [take_succ_get h, List.foldl_append]; rfl
theorem scanG_all {α β : Type} (f : β → α → β) (I : β → Prop) (J : α → Prop) (hf : ∀ s x, I s → J x → I (f s x)) : ∀ (xs : List α) (s : β), I s → (∀ x ∈ xs, J x) → ∀ y ∈ scanG f s xs, I y
  | [], s, _, _, y, hy => by simp [scanG] at hy
  | x :: r, s, hs, h, y, hy => by
    have h1 := hf s x hs (h x (by simp))
    simp only [scanG, List.mem_cons] at hy
    rcases hy with rfl | hy
    · exact h1
    · exact scanG_all f I J hf r _ h1 (fun z hz => h z (by simp [hz])) y hy
def balS (p w left n : Int) : Int := if p < max n 0 then left - (max n 0 - p) else min (left + (p - max n 0) * (w - left) / w) w
theorem balS_a {p w left n : Int} (h : p < max n 0) : balS p w left n = left - (max n 0 - p) := if_pos h
theorem balS_b {p w left n : Int} (h : ¬p < max n 0) : balS p w left n = min (left + (p - max n 0) * (w - left) / w) w := if_neg h
theorem balS_bd {p w left n M : Int} (hp : 1 ≤ p) (hw : 1 ≤ w) (hn : n ≤ 10000) (h : w - M ≤ left ∧ left ≤ w) : w - (M + 10000) ≤ balS p w left n ∧ balS p w left n ≤ w := by
  unfold balS
  split
  · omega
  · have h1 : 0 ≤ (p - max n 0) * (w - left) := Int.mul_nonneg (by omega) (by omega)
    have h2 : 0 ≤ (p - max n 0) * (w - left) / w := Int.ediv_nonneg h1 (by omega)
    omega
def balF (p w : Int) (xs : List Int) (k : Nat) : Int := (xs.take k).foldl (balS p w) w
theorem balF_zero (p w : Int) (xs : List Int) : balF p w xs 0 = w := by simp [balF]
theorem balF_succ {p w : Int} {xs : List Int} {k : Nat} {x : Int} (h : xs[k]? = some x) : balF p w xs (k + 1) = balS p w (balF p w xs k) x := foldl_take_succ _ _ h
theorem balF_bd {p w : Int} {xs : List Int} (hp : 1 ≤ p) (hw : 1 ≤ w) (hx : ∀ x ∈ xs, x ≤ 10000) : ∀ k : Nat, k ≤ xs.length → w - 10000 * k ≤ balF p w xs k ∧ balF p w xs k ≤ w
  | 0, _ => by rw [balF_zero]; omega
  | k + 1, hk => by
    have hlt : k < xs.length := by omega
    have hg : xs[k]? = some xs[k] := List.getElem?_eq_getElem hlt
    have := balS_bd (M := 10000 * k) hp hw (hx _ (List.mem_of_getElem? hg)) (balF_bd hp hw hx k (by omega))
    rw [balF_succ hg]; omega
def balOk (xs : List Int) (p w : Int) : Bool := xs.all (fun x => decide (x ≤ 10000)) && (inB p 1 10000 && inB w 1 1000000)
/-- Balance: what is left, and an error. -/
def balR (xs : List Int) (p w : Int) : List Int × Int := if streamR xs ≠ 0 then ([], streamR xs) else if balOk xs p w = true then (scanG (balS p w) w xs, 0) else ([], 9)
theorem balR_e {xs : List Int} {p w : Int} (h : streamR xs ≠ 0) : balR xs p w = ([], streamR xs) := if_pos h
theorem balR_9 {xs : List Int} {p w : Int} (h : streamR xs = 0) (h2 : balOk xs p w = false) : balR xs p w = ([], 9) := by unfold balR; rw [if_neg (by omega), if_neg (by rw [h2]; simp)]
theorem balR_0 {xs : List Int} {p w : Int} (h : streamR xs = 0) (h2 : balOk xs p w = true) : balR xs p w = (scanG (balS p w) w xs, 0) := by unfold balR; rw [if_neg (by omega), if_pos h2]
theorem balOk_x {xs : List Int} {p w x : Int} {k : Nat} (h : xs[k]? = some x) (hx : 10000 < x) : balOk xs p w = false := by
  unfold balOk; rw [all_false h (by simp; omega)]; rfl
theorem balOk_max {xs : List Int} {p w : Int} (hn : 0 < xs.length) (hx : 10000 < maxV xs) : balOk xs p w = false := by
  obtain ⟨k, hk⟩ := List.getElem?_of_mem (maxV_mem (ys := xs) (by intro e; rw [e] at hn; simp at hn))
  exact balOk_x hk hx
theorem balOk_p {xs : List Int} {p w : Int} (h : inB p 1 10000 = false) : balOk xs p w = false := by unfold balOk; rw [h]; simp
theorem balOk_w {xs : List Int} {p w : Int} (h : inB w 1 1000000 = false) : balOk xs p w = false := by unfold balOk; rw [h]; simp
theorem balOk_all {xs : List Int} {p w : Int} (h : ∀ x ∈ xs, x ≤ 10000) (hp : inB p 1 10000 = true) (hw : inB w 1 1000000 = true) : balOk xs p w = true := by
  unfold balOk; rw [hp, hw, List.all_eq_true.2 (fun x hx => by simpa using h x hx)]; rfl
theorem balOk_ok {xs : List Int} {p w : Int} (h : balOk xs p w = true) : (∀ x ∈ xs, x ≤ 10000) ∧ (1 ≤ p ∧ p ≤ 10000) ∧ 1 ≤ w ∧ w ≤ 1000000 := by
  unfold balOk at h
  simp only [Bool.and_eq_true, List.all_eq_true, decide_eq_true_eq] at h
  exact ⟨h.1, inB_iff.1 h.2.1, inB_iff.1 h.2.2⟩
theorem max_all {xs : List Int} (h : 0 < xs.length → ¬10000 < maxV xs) : ∀ x ∈ xs, x ≤ 10000 := fun x hx => by
  have h1 := maxV_ge hx
  have h2 := h (List.length_pos_of_mem hx)
  omega
theorem balR_bd {xs : List Int} {p w : Int} : ∀ y ∈ (balR xs p w).1, y ≤ w := by
  intro y hy
  by_cases h : streamR xs ≠ 0
  · rw [balR_e h] at hy; simp at hy
  · cases h2 : balOk xs p w with
    | false => rw [balR_9 (by omega) h2] at hy; simp at hy
    | true =>
      rw [balR_0 (by omega) h2] at hy
      obtain ⟨h3, h4, h5⟩ := balOk_ok h2
      refine scanG_all (balS p w) (fun s => s ≤ w) (fun x => x ≤ 10000) (fun s x hs hx => ?_) xs w (by simp) h3 y hy
      exact (balS_bd (M := w - s) h4.1 h5.1 hx ⟨by omega, hs⟩).2
theorem balR_len {xs : List Int} {p w : Int} : (balR xs p w).1.length ≤ 1000000 := by
  by_cases h : streamR xs ≠ 0
  · rw [balR_e h]; simp
  · cases h2 : balOk xs p w with
    | false => rw [balR_9 (by omega) h2]; simp
    | true => rw [balR_0 (by omega) h2]; rw [scanG_len]; exact (streamR_ok (by omega)).1
end Go.Proofs.Ytamlldedmhkobaa
