/-
  How api.Test lies in memory, and Ratio.
-/
import Derived.Test.YtamlldedmhkobaaEnc
namespace Go.Proofs.Ytamlldedmhkobaa
open Go Hx
set_option linter.unusedVariables false
structure TestR where
  sec : Int
  work : Int
def encTest : Enc TestR := { size := 2, cells := fun x => [.int .i64 x.sec, .int .i64 x.work], val := fun x => .agg #[.int .i64 x.sec, .int .i64 x.work], len := fun _ => rfl, ones := fun _ u h => (by simp at h; rcases h with h | h <;> subst h <;> rfl), pos := by decide, vc := fun _ => rfl }
def mk_encTest (a b : Int) : TestR := ⟨a, b⟩
theorem ty87 : Ty Try.prog 87 encTest := .inr ⟨ag87, fun _ => rfl⟩
theorem drop_cons_get {α : Type} {xs : List α} {k : Nat} {x : α} (h : xs[k]? = some x) : xs.drop k = x :: xs.drop (k + 1) := by
  obtain ⟨hk, rfl⟩ := List.getElem?_eq_some_iff.1 h
  exact List.drop_eq_getElem_cons hk
/-- The element ahead of place k. -/
def ahead {α : Type} (xs : List α) (k : Nat) : Option α := if k = 0 then none else xs[k - 1]?
theorem ahead_succ {α : Type} {xs : List α} {k : Nat} {x : α} (h : xs[k]? = some x) : ahead xs (k + 1) = some x := by simp [ahead, h]
theorem ahead_zero {α : Type} (xs : List α) : ahead xs 0 = none := rfl
theorem ahead_pos {α : Type} {xs : List α} {k : Nat} {x : α} (hk : 0 < k) (h : xs[k - 1]? = some x) : ahead xs k = some x := by unfold ahead; rw [if_neg (by omega), h]
end Go.Proofs.Ytamlldedmhkobaa
