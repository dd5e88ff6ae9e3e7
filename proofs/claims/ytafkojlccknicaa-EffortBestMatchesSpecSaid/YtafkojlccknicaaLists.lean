/-
  Plain facts on lists, of no program.
-/
import Derived.Test.YtafkojlccknicaaInts
namespace Go.Proofs.Ytafkojlccknicaa
def inB (n a b : Int) : Bool := decide (a ≤ n) && decide (n ≤ b)
theorem inB_iff {n a b : Int} : inB n a b = true ↔ a ≤ n ∧ n ≤ b := by simp [inB]
theorem inB_not {n a b : Int} : inB n a b = false ↔ n < a ∨ b < n := by rw [← Bool.not_eq_true, inB_iff]; omega

theorem take_succ_get {α : Type} {xs : List α} {k : Nat} {x : α} (h : xs[k]? = some x) : xs.take (k + 1) = xs.take k ++ [x] := by
  rw [List.take_add_one, h]; rfl
theorem all_take_succ {xs : List Int} {p : Int → Bool} {k : Nat} {x : Int} (h : xs[k]? = some x) (ha : (xs.take k).all p = true) (hx : p x = true) : (xs.take (k + 1)).all p = true := by
  rw [take_succ_get h, List.all_append, ha]; simp [hx]
theorem all_false {xs : List Int} {p : Int → Bool} {k : Nat} {x : Int} (h : xs[k]? = some x) (hx : p x = false) : xs.all p = false := by
  rw [List.all_eq_false]
  exact ⟨x, List.mem_of_getElem? h, by simp [hx]⟩
theorem drop_cons_get {α : Type} {xs : List α} {k : Nat} {x : α} (h : xs[k]? = some x) : xs.drop k = x :: xs.drop (k + 1) := by
  obtain ⟨hk, rfl⟩ := List.getElem?_eq_some_iff.1 h
  exact List.drop_eq_getElem_cons hk
/-- The element ahead of place k. -/
def ahead {α : Type} (xs : List α) (k : Nat) : Option α := if k = 0 then none else xs[k - 1]?
theorem ahead_succ {α : Type} {xs : List α} {k : Nat} {x : α} (h : xs[k]? = some x) : ahead xs (k + 1) = some x := by simp [ahead, h]
theorem ahead_zero {α : Type} (xs : List α) : ahead xs 0 = none := rfl
theorem ahead_pos {α : Type} {xs : List α} {k : Nat} {x : α} (hk : 0 < k) (h : xs[k - 1]? = some x) : ahead xs k = some x := by unfold ahead; rw [if_neg (by omega), h]
theorem ahead_pred {α : Type} {xs : List α} {k : Nat} {x : α} (hk : (0 : Int) < (k : Int)) (h : xs[((k : Int) - 1).toNat]? = some x) : ahead xs k = some x := by
  have h1 : ((k : Int) - 1).toNat = k - 1 := by omega
  rw [h1] at h
  exact ahead_pos (by omega) h
theorem mul_bd {a b A B : Int} (h1 : 0 ≤ a) (h2 : a ≤ A) (h3 : 0 ≤ b) (h4 : b ≤ B) : 0 ≤ a * b ∧ a * b ≤ A * B :=
  ⟨Int.mul_nonneg h1 h3, Int.le_trans (Int.mul_le_mul_of_nonneg_right h2 h3) (Int.mul_le_mul_of_nonneg_left h4 (by omega))⟩
/-- The sum of what f says. -/
def sI {α : Type} (f : α → Int) : List α → Int
  | [] => 0
  | x :: r => f x + sI f r
theorem sI_append {α : Type} (f : α → Int) : ∀ xs ys : List α, sI f (xs ++ ys) = sI f xs + sI f ys
  | [], ys => by simp [sI]
  | x :: r, ys => by simp only [List.cons_append, sI, sI_append f r ys]; omega
theorem sI_take {α : Type} (f : α → Int) {xs : List α} {k : Nat} {x : α} (h : xs[k]? = some x) : sI f (xs.take (k + 1)) = sI f (xs.take k) + f x := by
  rw [List.take_add_one, sI_append, h]; simp [sI]
theorem sI_bd {α : Type} (f : α → Int) (M : Int) (hM : 0 ≤ M) : ∀ xs : List α, (∀ x ∈ xs, 0 ≤ f x ∧ f x ≤ M) → 0 ≤ sI f xs ∧ sI f xs ≤ M * xs.length
  | [], _ => by simp [sI]
  | x :: r, h => by
    have h1 := h x (by simp)
    have h2 := sI_bd f M hM r (fun y hy => h y (by simp [hy]))
    have : M * ((x :: r).length : Int) = M * r.length + M := by simp only [List.length_cons]; rw [Int.natCast_add, Int.mul_add]; simp
    rw [this]; simp only [sI]; omega
end Go.Proofs.Ytafkojlccknicaa
