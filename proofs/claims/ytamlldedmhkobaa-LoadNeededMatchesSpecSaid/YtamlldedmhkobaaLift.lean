/-
  From the readings of the arguments to the lists of the walks: slices of integers.
-/
import Derived.Test.YtamlldedmhkobaaRows
import Derived.Test.YtamlldedmhkobaaEnc
import Derived.WalkKit
import Derived.ProofKit
import Derived.OpenShut
import Derived.ShutString
import Derived.ChangeOld
import Derived.Below
namespace Go.Proofs.Ytamlldedmhkobaa
open Go Hx Go.ChangeShapes Go.WideShapes Go.ChangeAt Go.RowKit
set_option linter.unusedVariables false

theorem lift_own : ownKnob Try.prog.godebug = none := by kernel_rfl
theorem lift_laid : laidOutB Try.prog = true := by kernel_rfl

theorem rd_ints {W : World} {x : Addr} {len cap : Nat} {zs : List Int} (hl : len ≤ cap) (hm : cap ≤ maxLen) (hz : zs.length = cap) (hcell : ∀ i, i < zs.length → W.cell? (x.add i) = some (.int .i64 (zs.getD i 0))) :
    Rd encI W.heap.size W (some x) len cap (zs.take len) := by
  refine ⟨by simp; omega, by unfold maxLen at hm; omega, fun i y hy => ?_⟩
  have hi : i < len := by
    have := (List.getElem?_eq_some_iff.1 hy).1
    simp at this; omega
  have h0 := hcell 0 (by omega)
  have hx0 : x.add 0 = x := by simp [Addr.add]
  rw [hx0] at h0
  obtain ⟨b, off, spot⟩ := x
  have hspot : spot = none := by simpa using World.cell?_spot h0
  subst hspot
  refine ⟨b, off, rfl, World.block_lt_of_cell? W _ h0, fun j u hu => ?_⟩
  have hj : j = 0 ∧ u = .int .i64 y := by
    cases j with
    | zero => simp [encI] at hu; exact ⟨rfl, hu.symm⟩
    | succ j => simp [encI] at hu
  obtain ⟨rfl, rfl⟩ := hj
  have hc := hcell i (by omega)
  rw [add_none] at hc
  show W.cell? ⟨b, off + i * 1 + 0, none⟩ = _
  rw [Nat.mul_one, Nat.add_zero, hc]
  have : zs.getD i 0 = y := by
    rw [List.getElem?_take, if_pos hi] at hy
    simp [List.getD_eq_getElem?_getD, hy]
  rw [this]

/-- A slice of integers among the arguments, opened. -/
theorem open_intsR {H : Type} {enc : TypeId × Value → H} {W : World} {base : Nat} {t e : TypeId} {v : Value} {d : DataW H} {p : List MemPlace} (ht : Try.prog.underlying t = some (.slice e)) (he : Try.prog.underlying e = some (.int .i64)) (hc : Try.prog.cellsOf e = 1)
    (hv : ∃ a len cap, v = .slice a len cap) (h : ∃ fuel, DataW.trod enc Try.prog W base (fun _ => true) true fuel t v.cells.toList = some (d, p)) :
    ∃ a n cap xs, v = .slice a n cap ∧ Rd encI W.heap.size W a n cap xs := by
  obtain ⟨a0, len0, cap0, rfl⟩ := hv
  obtain ⟨fuel, hf⟩ := h
  rcases open_ints ht he hc hf with ⟨hcs, _⟩ | ⟨x, l, c, zs, hcs, _, hl, hm, hz, _, hcell, hwz⟩
  · simp [Value.cells] at hcs
    obtain ⟨rfl, rfl, rfl⟩ := hcs
    exact ⟨none, 0, 0, [], rfl, Rd.nil⟩
  · simp [Value.cells] at hcs
    obtain ⟨rfl, rfl, rfl⟩ := hcs
    exact ⟨_, _, _, _, rfl, rd_ints hl hm (by simpa using hz) hcell⟩
end Go.Proofs.Ytamlldedmhkobaa
