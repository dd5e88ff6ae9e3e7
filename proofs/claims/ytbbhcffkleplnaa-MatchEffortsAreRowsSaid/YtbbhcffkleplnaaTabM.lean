/-
  A list by a function. No program stands here.
-/
import Derived.Test.YtbbhcffkleplnaaWaysM
namespace Go.Proofs.Ytbbhcffkleplnaa
set_option linter.unusedVariables false
set_option linter.unusedSimpArgs false
/-- A list by a function. -/
def tab (n : Nat) (f : Nat → Int) : List Int := (List.range n).map f
@[simp] theorem tab_len (n : Nat) (f : Nat → Int) : (tab n f).length = n := by simp [tab]
theorem tab_get {n : Nat} {f : Nat → Int} {k : Nat} {x : Int} (h : (tab n f)[k]? = some x) : k < n ∧ x = f k := by
  have hk := (List.getElem?_eq_some_iff.1 h).1
  rw [tab_len] at hk
  refine ⟨hk, ?_⟩
  simp [tab, hk] at h
  exact h.symm
theorem tab_at {n : Nat} {f : Nat → Int} {k : Nat} (hk : k < n) : (tab n f)[k]? = some (f k) := by simp [tab, hk]
theorem tab_set {n : Nat} {f g : Nat → Int} {k : Nat} {x : Int} (hk : k < n) (hx : g k = x) (hg : ∀ j, j ≠ k → j < n → g j = f j) : (tab n f).set k x = tab n g := by
  apply List.ext_getElem (by simp)
  intro i h1 h2
  rw [List.getElem_set]
  rw [tab_len] at h2
  split
  · rename_i h; subst h; simp [tab, hx]
  · rename_i h; simp [tab]; exact (hg i (fun e => h e.symm) h2).symm
theorem tab_zero (n : Nat) : List.replicate n (0 : Int) = tab n fun _ => 0 := by
  apply List.ext_getElem (by simp)
  intro i h1 h2
  simp [tab]
end Go.Proofs.Ytbbhcffkleplnaa
