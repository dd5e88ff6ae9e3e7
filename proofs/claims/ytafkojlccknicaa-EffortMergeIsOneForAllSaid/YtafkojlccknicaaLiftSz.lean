/-
  How large a slice that is handed in can be.
-/
import Derived.SizedLaws
import Derived.Test.YtafkojlccknicaaLift
namespace Go.Proofs.Ytafkojlccknicaa
open Go Hx Go.ChangeShapes Go.WideShapes Go.ChangeAt Go.RowKit
set_option linter.unusedVariables false
section
variable {H : Type} {enc : TypeId × Value → H} {W : World} {base : Nat} {sp : Nat → Bool} {held : Bool}
theorem rows_size {n : Nat} {cs : List Value} {x : DataW H × List MemPlace} {t e : TypeId} {a : Option Addr} {k c : Nat} (hu : Try.prog.underlying t = some (.slice e)) (h : DataW.trod enc Try.prog W base sp held n t cs = some x) (hcs : cs = [.slice a k c]) (hw : ∀ m ∈ x.1.weights Try.prog t, m ≤ reachBytes) : k * Try.prog.bytesOf e ≤ reachBytes := by
  subst hcs
  rcases Go.Deep.open_slice hu h with ⟨hcs, _⟩ | ⟨a', len, cap, m, k', D, Pl, hcs, _, hl, hm, hmm, hx, _⟩
  · simp at hcs
    obtain ⟨_, rfl, _⟩ := hcs
    simp
  · obtain ⟨E, S, hE, hEl⟩ : ∃ E S, x.1 = DataW.slice E S ∧ E.length = len := ⟨_, _, by rw [hx], by simp⟩
    have h5 : (E.length + S.length) * Try.prog.bytesOf e ≤ reachBytes := hw _ (by
      rw [hE]
      simp only [DataW.weights, hu]
      exact List.mem_cons_self ..)
    simp at hcs
    obtain ⟨_, rfl, _⟩ := hcs
    exact Nat.le_trans (Nat.mul_le_mul_right _ (by omega)) h5
end
end Go.Proofs.Ytafkojlccknicaa
