/-
  Lists in order, each element once: plain part.
-/
import Derived.Lib.SlicesCompact
namespace Go.Proofs.Ytogcclagmobkiaa
set_option linter.unusedVariables false
set_option linter.unusedSimpArgs false
theorem strict_unique {α : Type} {lt : α → α → Prop} (asym : ∀ a b, lt a b → ¬lt b a) : ∀ {xs ys : List α}, xs.Pairwise lt → ys.Pairwise lt → (∀ x, x ∈ xs ↔ x ∈ ys) → xs = ys
  | [], [], _, _, _ => rfl
  | [], y :: ys, _, _, h => by have := (h y).2 (by simp); simp at this
  | x :: xs, [], _, _, h => by have := (h x).1 (by simp); simp at this
  | x :: xs, y :: ys, hx, hy, h => by
    rw [List.pairwise_cons] at hx hy
    have irr : ∀ a, ¬lt a a := fun a ha => asym a a ha ha
    have hxy : x = y := by
      apply Classical.byContradiction
      intro hne
      have h1 : x ∈ ys := by
        rcases List.mem_cons.1 ((h x).1 (by simp)) with h2 | h2
        · exact absurd h2 hne
        · exact h2
      have h2 : y ∈ xs := by
        rcases List.mem_cons.1 ((h y).2 (by simp)) with h2 | h2
        · exact absurd h2.symm hne
        · exact h2
      exact asym _ _ (hx.1 y h2) (hy.1 x h1)
    subst hxy
    refine congrArg (x :: ·) (strict_unique asym hx.2 hy.2 fun a => ⟨fun ha => ?_, fun ha => ?_⟩)
    · rcases List.mem_cons.1 ((h a).1 (List.mem_cons_of_mem _ ha)) with h3 | h3
      · subst h3; exact absurd (hx.1 _ ha) (irr _)
      · exact h3
    · rcases List.mem_cons.1 ((h a).2 (List.mem_cons_of_mem _ ha)) with h3 | h3
      · subst h3; exact absurd (hy.1 _ ha) (irr _)
      · exact h3
section
variable {α : Type} [Inhabited α] [DecidableEq α]
omit [DecidableEq α] in
theorem toArray_get {zs : List α} {j : Nat} (h : j < zs.length) : zs.toArray[j]! = zs[j] := by simp [h]
theorem mem_compact {zs : List α} {x : α} : x ∈ Go.Lib.compact zs ↔ x ∈ zs := by
  unfold Go.Lib.compact Go.Lib.compactUpTo
  rw [List.mem_map]
  constructor
  · rintro ⟨j, hj, rfl⟩
    rw [List.mem_filter, List.mem_range] at hj
    rw [toArray_get hj.1]
    exact List.getElem_mem _
  · intro hx
    obtain ⟨j, hj, rfl⟩ := List.getElem_of_mem hx
    have key : ∀ j (hj : j < zs.length), ∃ i, i ∈ (List.range zs.length).filter (Go.Lib.keeps zs.toArray) ∧ zs.toArray[i]! = zs[j] := by
      intro j
      induction j with
      | zero => exact fun hj => ⟨0, List.mem_filter.2 ⟨List.mem_range.2 hj, by simp [Go.Lib.keeps]⟩, toArray_get hj⟩
      | succ j ih =>
        intro hj
        by_cases h : zs.toArray[j + 1]! = zs.toArray[j]!
        · obtain ⟨i, hi, he⟩ := ih (by omega)
          refine ⟨i, hi, ?_⟩
          rw [he, ← toArray_get hj, h, toArray_get (by omega)]
        · exact ⟨j + 1, List.mem_filter.2 ⟨List.mem_range.2 hj, by simp only [Go.Lib.keeps, Nat.add_sub_cancel]; exact decide_eq_true (.inr h)⟩, toArray_get hj⟩
    exact key j hj
theorem compact_strict {le : α → α → Prop} (refl : ∀ a, le a a) (anti : ∀ a b, le a b → le b a → a = b) {zs : List α} (h : zs.Pairwise le) : (Go.Lib.compact zs).Pairwise fun a b => le a b ∧ a ≠ b := by
  have hle : ∀ i j, (hij : i ≤ j) → (hj : j < zs.length) → le (zs[i]'(Nat.lt_of_le_of_lt hij hj)) zs[j] := fun i j hij hj => by
    by_cases h1 : i = j
    · subst h1; exact refl _
    · exact (List.pairwise_iff_getElem.1 h) i j (by omega) hj (by omega)
  unfold Go.Lib.compact Go.Lib.compactUpTo
  rw [List.pairwise_map]
  refine List.Pairwise.imp_of_mem ?_ ((List.pairwise_lt_range (n := zs.length)).filter _)
  intro i j hi hj hij
  rw [List.mem_filter, List.mem_range] at hi hj
  rw [toArray_get hi.1, toArray_get hj.1]
  refine ⟨hle i j (by omega) hj.1, fun he => ?_⟩
  have hk := hj.2
  simp only [Go.Lib.keeps, decide_eq_true_eq] at hk
  rcases hk with h0 | hk
  · omega
  · rw [toArray_get hj.1, toArray_get (show j - 1 < zs.length by omega)] at hk
    refine hk (anti _ _ ?_ (hle (j - 1) j (by omega) hj.1))
    rw [← he]
    exact hle i (j - 1) (by omega) (by omega)
end
theorem compact_len {α : Type} [Inhabited α] [DecidableEq α] (zs : List α) : (Go.Lib.compact zs).length ≤ zs.length := by
  unfold Go.Lib.compact Go.Lib.compactUpTo
  rw [List.length_map]
  exact Nat.le_trans (List.length_filter_le _ _) (by simp)
/-- Numbers in order, each once. -/
def ordI (xs : List Int) : List Int := Go.Lib.compact (xs.mergeSort fun x y => decide (x ≤ y))
theorem sortI_pair (xs : List Int) : (xs.mergeSort fun x y => decide (x ≤ y)).Pairwise (· ≤ ·) := by
  have h := List.pairwise_mergeSort (le := fun x y : Int => decide (x ≤ y)) (fun a b c h1 h2 => by simp at *; omega) (fun a b => by simp; omega) xs
  exact h.imp fun h => by simpa using h
theorem ordI_pair (xs : List Int) : (ordI xs).Pairwise (· < ·) :=
  (compact_strict (le := (· ≤ ·)) (fun a => Int.le_refl a) (fun a b h1 h2 => Int.le_antisymm h1 h2) (sortI_pair xs)).imp fun {a b} h => by have h1 := h.1; have h2 := h.2; omega
theorem mem_ordI {xs : List Int} {x : Int} : x ∈ ordI xs ↔ x ∈ xs := by rw [ordI, mem_compact, List.mem_mergeSort]
theorem ordI_of {xs ys : List Int} (h : ys.Pairwise (· < ·)) (hm : ∀ x, x ∈ ys ↔ x ∈ xs) : ordI xs = ys :=
  strict_unique (lt := (· < ·)) (fun a b h1 h2 => by omega) (ordI_pair xs) h fun x => by rw [mem_ordI, hm]
end Go.Proofs.Ytogcclagmobkiaa
