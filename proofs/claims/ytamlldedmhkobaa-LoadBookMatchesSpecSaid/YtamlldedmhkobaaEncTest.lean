/-
  How api.Test lies in memory, and Ratio.
-/
import Derived.Test.YtamlldedmhkobaaEnc
namespace Go.Proofs.Ytamlldedmhkobaa
open Go Hx
set_option linter.unusedVariables false
structure TestR where
  sec : Int
  work : Int
def encTest : Enc TestR := { size := 2, cells := fun x => [.int .i64 x.sec, .int .i64 x.work], val := fun x => .agg #[.int .i64 x.sec, .int .i64 x.work], len := fun _ => rfl, ones := fun _ u h => (by simp at h; rcases h with h | h <;> subst h <;> rfl), pos := by decide, vc := fun _ => rfl }
def mk_encTest (a b : Int) : TestR := ⟨a, b⟩
theorem ty87 : Ty Try.prog 87 encTest := .inr ⟨ag87, fun _ => rfl⟩
end Go.Proofs.Ytamlldedmhkobaa
