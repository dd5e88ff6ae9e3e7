/-
  slices.Sort of ints and of strings: the library's contracts, laid at this program, for rows of the caller's.
-/
import Derived.Shelf.Sort.Plain
import Derived.Test.YtafkojlccknicaaHs
import Derived.Test.YtafkojlccknicaaFacts
import Derived.Test.YtafkojlccknicaaEncAct
namespace Go.Proofs.Ytafkojlccknicaa
open Go Go.RowKit Hx
set_option linter.unusedVariables false
set_option linter.unusedSimpArgs false
set_option maxRecDepth 8000
theorem row_some {B n c size : Nat} {w : World} {a : Option Addr} {vs : List Value} {e : TypeId} (h : w.ownsRow B e size (.slice a n c) n vs) (hn : 0 < n) : ∃ g, a = some ⟨g, 0, none⟩ := by
  obtain ⟨_, h | ⟨g, cap', cur, hv, _⟩⟩ := h
  · omega
  · cases hv; exact ⟨g, rfl⟩
def sortI (xs : List Int) : List Int := xs.mergeSort fun x y => decide (x ≤ y)
theorem encI_map (xs : List Int) : encI.enc xs = xs.map (Value.int .i64) := by
  induction xs with
  | nil => rfl
  | cons x r ih => rw [List.map_cons, ← ih]; rfl
end Go.Proofs.Ytafkojlccknicaa
