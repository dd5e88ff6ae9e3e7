/-
  How api.Best lies in memory.
-/
import Derived.Test.YtafkojlccknicaaEnc
import Derived.Test.YtafkojlccknicaaBestM
namespace Go.Proofs.Ytafkojlccknicaa
open Go Hx
set_option linter.unusedVariables false
/-- A window as it lies in memory. -/
structure BestR where
  size : Int
  sum : Int
  at_ : Int
  found : Bool
def encBest : Enc BestR := { size := 4, cells := fun x => [.int .i64 x.size, .int .i64 x.sum, .int .i64 x.at_, .bool x.found], val := fun x => .agg #[.int .i64 x.size, .int .i64 x.sum, .int .i64 x.at_, .bool x.found], len := fun _ => rfl, ones := fun _ u h => (by simp at h; rcases h with h | h | h | h <;> subst h <;> rfl), pos := by decide, vc := fun _ => rfl }
def mk_encBest (a b c : Int) (d : Bool) : BestR := ⟨a, b, c, d⟩
theorem ty24 : Ty Try.prog 24 encBest := .inr ⟨ag24, fun _ => rfl⟩
def bR (z : Int) (st : BestS) : BestR := ⟨z, st.sum, st.at_, st.found⟩
theorem encBest_snoc (xs : List BestR) (x : BestR) : encBest.enc (xs ++ [x]) = encBest.enc xs ++ encBest.cells x := by rw [Enc.enc_append]; simp [Enc.enc]
end Go.Proofs.Ytafkojlccknicaa
