/-
  MatchBoardsMatchSpec: the statement, out of the walk of the law: for every input the call returns true, and each argument reads as it did.
-/
import Derived.Test.YtjflbnbofedlkaaXmA
import Derived.Test.YtjflbnbofedlkaaXmB
import Derived.Test.YtjflbnbofedlkaaXmC
import Derived.Test.YtjflbnbofedlkaaXmD
import Derived.Test.YtjflbnbofedlkaaXmE
import Derived.Test.YtjflbnbofedlkaaXmF
namespace Go.Proofs.Ytjflbnbofedlkaa.matchBoardsMatchSpecLift
open Go Hx Go.ChangeShapes Go.WideShapes Go.ChangeAt Go.RowKit
open Go.ChangeMaps (open_string shut_string)
set_option linter.unusedVariables false

theorem cells_encBoardStep {H : Type} {enc : TypeId × Value → H} {W : World} {base : Nat} {sp : Nat → Bool} {held : Bool} : ∀ n cs (x : DataW H × List MemPlace), DataW.trod enc Try.prog W base sp held n 62 cs = some x → ∃ y, cs = encBoardStep.cells y ∧ y.sc.name.size ≤ 9223372036854775807 := by
  intro n cs x h
  obtain ⟨hl, hv⟩ := leaves (ts := [3, 9, 3, 3]) 4 (by kernel_rfl) h
  match cs, hl with
  | [v0, v1, v2, v3], _ =>
    have l0 := hv 0 3 v0 rfl rfl
    obtain ⟨a0, rfl, w0⟩ := l0.int (k := .i64) Try.underlying3
    have l1 := hv 1 9 v1 rfl rfl
    obtain ⟨a1, rfl, w1⟩ := l1.string Try.underlying9
    have l2 := hv 2 3 v2 rfl rfl
    obtain ⟨a2, rfl, w2⟩ := l2.int (k := .i64) Try.underlying3
    have l3 := hv 3 3 v3 rfl rfl
    obtain ⟨a3, rfl, w3⟩ := l3.int (k := .i64) Try.underlying3
    exact ⟨⟨a0, ⟨a1, a2, a3⟩⟩, rfl, by unfold maxLen at w1; show a1.size ≤ _; omega⟩

set_option maxRecDepth 100000 in
theorem lifted (os : Os) (started : os.Started) (H : Type) (enc : TypeId × Value → H) :
    ReturnsInHanded {} Try.checked os 6 .any (Rows.matchBoardsMatchSpecSpec.pre6 enc Try.prog Try.f6 Rows.matchBoardsMatchSpecRow.domain false) (Rows.matchBoardsMatchSpecSpec.post enc Try.prog Try.f6 false true false false) := by
  refine returnsInHanded_of_change (C := Try.checked) lift_own started (by kernel_rfl) Try.func6
    (ChangeSpec.witness6 (enc := enc) (C := Try.checked) false ⟨#[], #[.slice none 0 0], []⟩ 8 (by kernel_rfl) (by kernel_rfl) (by kernel_rfl) (by kernel_rfl)) ?_
  intro W base args ds gs before hval0 hW hcnd _
  have hval : ∀ (j : Nat) t v, Try.f6.params[j]? = some t → args[j]? = some v → Value.okWide Try.prog W .any base t v := hval0
  have hW' := hW
  obtain ⟨p, q, hA0, hV, rfl, hfz, hnd⟩ := hW
  have hA : DataW.TrodAll enc Try.prog W 0 (fun _ => true) true Try.f6.params.toList args.toList ds p := hA0
  rw [Try.params6] at hA hval
  obtain ⟨v0, vs0, d0, ds0, p0, q0, hargs, rfl, rfl, h0, r0⟩ := trodAll_cons hA
  obtain ⟨rfl, rfl, rfl⟩ := trodAll_nil r0
  obtain rfl : args = #[v0] := by cases args; simp_all
  obtain ⟨rfl, rfl⟩ := trodVars_none hV
  have k0 := h0
  have lt0 : ∀ x ∈ p0, x.block < W.heap.size := by obtain ⟨m, hm⟩ := k0; exact DataW.trod_lt m _ _ _ hm
  obtain ⟨f0, hf0⟩ := h0
  obtain ⟨a0, n0, c0, xs0, hcs0, rd0, nmk0⟩ := open_rowsP encBoardStep _ Try.underlying56 (by kernel_rfl) cells_encBoardStep hf0
  obtain ⟨b0, m0, e0, rfl⟩ := okWide_slice Try.underlying56 (hval 0 56 v0 rfl rfl)
  obtain ⟨rfl, rfl, rfl⟩ : a0 = b0 ∧ n0 = m0 ∧ c0 = e0 := by simp [Value.cells] at hcs0; exact ⟨hcs0.1.symm, hcs0.2.1.symm, hcs0.2.2.symm⟩
  clear hA0 hval0
  refine (law_boards a0 n0 c0 xs0 W rd0 nmk0).mono fun e W' ⟨he, bel⟩ => ?_
  subst he
  have bel := bel.go
  exact ⟨_, rfl, _, _, _, [], _, [], hW', trodAll_mk1 (shut_bool Try.underlying4 _), (trodAll_cons_mk (Below.trod lift_laid (by kernel_rfl) (of_decide_eq_true (by kernel_rfl)) k0 bel lt0) trodAll_mk0), rfl, bel.frame _, fun h => by cases h⟩

theorem over : Rows.matchBoardsMatchSpecRow.holds Try.pinned (OpenSpec.ofChange Rows.matchBoardsMatchSpecSpec) :=
  OpenClaim.holds_of_wide 6 Try.f6 rfl rfl rfl rfl rfl rfl rfl ⟨rfl, rfl, rfl, rfl, rfl⟩ rfl rfl rfl rfl rfl (by kernel_rfl) Try.func6 (by kernel_rfl)
    (of_decide_eq_true (by kernel_rfl)) (by unfold Func.isWrapper; first | (rw [if_pos (by decide +kernel)]; kernel_rfl) | (rw [if_neg (by decide +kernel)]; exact ⟨rfl, rfl⟩))
    (fun os started H enc _ => lifted os started H enc)

/-- The statement. -/
theorem proved : Rows.MatchBoardsMatchSpecSaid := over
#print axioms proved
end Go.Proofs.Ytjflbnbofedlkaa.matchBoardsMatchSpecLift
