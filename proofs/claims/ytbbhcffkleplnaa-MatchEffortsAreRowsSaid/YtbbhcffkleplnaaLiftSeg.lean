/-
  Segments among the arguments, opened.
-/
import Derived.Test.YtbbhcffkleplnaaLift
import Derived.Test.YtbbhcffkleplnaaSeg
namespace Go.Proofs.Ytbbhcffkleplnaa
open Go Hx Go.ChangeShapes Go.WideShapes Go.ChangeAt Go.RowKit
set_option linter.unusedVariables false
set_option maxRecDepth 8000
section
variable {H : Type} {enc : TypeId × Value → H} {W : World} {base : Nat} {sp : Nat → Bool} {held : Bool}
theorem cells_encGateP : ∀ n cs (x : DataW H × List MemPlace), DataW.trod enc Try.prog W base sp held n 75 cs = some x → ∃ y, cs = encGate.cells y ∧ True := by
  intro n cs x h
  obtain ⟨hl, hv⟩ := leaves (ts := [3, 3, 3, 3]) 4 (by kernel_rfl) h
  match cs, hl with
  | [v0, v1, v2, v3], _ =>
    obtain ⟨a0, rfl, w0⟩ := (hv 0 3 v0 rfl rfl).int (k := .i64) Try.underlying3
    obtain ⟨a1, rfl, w1⟩ := (hv 1 3 v1 rfl rfl).int (k := .i64) Try.underlying3
    obtain ⟨a2, rfl, w2⟩ := (hv 2 3 v2 rfl rfl).int (k := .i64) Try.underlying3
    obtain ⟨a3, rfl, w3⟩ := (hv 3 3 v3 rfl rfl).int (k := .i64) Try.underlying3
    exact ⟨⟨a0, a1, a2, a3⟩, rfl, trivial⟩
theorem open_seg {n : Nat} {cs : List Value} {x : DataW H × List MemPlace} (h : DataW.trod enc Try.prog W base sp held n 24 cs = some x) :
    ∃ nm a m c gs, cs = [.string nm, .slice a m c] ∧ nm.size ≤ 9223372036854775807 ∧ Rd encGate W.heap.size W a m c gs := by
  obtain ⟨hl, hv⟩ := leaves (ts := [9, 22]) 4 (by kernel_rfl) h
  match cs, hl with
  | [v0, v1], _ =>
    obtain ⟨a0, rfl, w0⟩ := (hv 0 9 v0 rfl rfl).string Try.underlying9
    obtain ⟨n3, d3, p3, h3, _⟩ := hv 1 22 v1 rfl rfl
    obtain ⟨sa, sn, sc, ss, e3, r3, q3⟩ := open_rowsP encGate _ Try.underlying22 (by kernel_rfl) cells_encGateP h3
    cases e3
    exact ⟨a0, sa, sn, sc, ss, rfl, by unfold maxLen at w0; omega, r3⟩
end
end Go.Proofs.Ytbbhcffkleplnaa
