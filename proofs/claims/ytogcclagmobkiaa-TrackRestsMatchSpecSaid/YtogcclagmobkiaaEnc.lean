/-
  How the elements of the slices lie in memory.
-/
import Derived.Test.YtogcclagmobkiaaFacts
import Derived.Test.YtogcclagmobkiaaHx2
namespace Go.Proofs.Ytogcclagmobkiaa
open Go Hx
set_option linter.unusedVariables false

def encI : Enc Int := { size := 1, cells := fun x => [.int .i64 x], val := fun x => .int .i64 x, len := fun _ => rfl, ones := fun _ u h => by simp at h; subst h; rfl, pos := by decide, vc := fun _ => rfl }
theorem ty3 : Ty Try.prog 3 encI := .inl ⟨sc3, fun _ => rfl⟩
theorem ty29 : Ty Try.prog 29 encI := .inl ⟨sc29, fun _ => rfl⟩
theorem encI_snoc (xs : List Int) (x : Int) : encI.enc (xs ++ [x]) = encI.enc xs ++ [.int .i64 x] := by rw [Enc.enc_append]; rfl
end Go.Proofs.Ytogcclagmobkiaa
