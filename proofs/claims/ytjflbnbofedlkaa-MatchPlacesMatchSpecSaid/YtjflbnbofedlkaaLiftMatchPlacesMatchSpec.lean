/-
  MatchPlacesMatchSpec: the statement, out of the walk of the law: for every input the call returns true, and each argument reads as it did.
-/
import Derived.Test.YtjflbnbofedlkaaXmA
import Derived.Test.YtjflbnbofedlkaaXmB
import Derived.Test.YtjflbnbofedlkaaXmC
import Derived.Test.YtjflbnbofedlkaaXmD
import Derived.Test.YtjflbnbofedlkaaXmE
import Derived.Test.YtjflbnbofedlkaaXmF
import Derived.Test.YtjflbnbofedlkaaXmG
import Derived.Test.YtjflbnbofedlkaaXmH
namespace Go.Proofs.Ytjflbnbofedlkaa.matchPlacesMatchSpecLift
open Go Hx Go.ChangeShapes Go.WideShapes Go.ChangeAt Go.RowKit
open Go.ChangeMaps (open_string shut_string)
set_option linter.unusedVariables false

theorem cells_encScore {H : Type} {enc : TypeId × Value → H} {W : World} {base : Nat} {sp : Nat → Bool} {held : Bool} : ∀ n cs (x : DataW H × List MemPlace), DataW.trod enc Try.prog W base sp held n 24 cs = some x → ∃ y, cs = encScore.cells y ∧ y.name.size ≤ 9223372036854775807 := by
  intro n cs x h
  obtain ⟨hl, hv⟩ := leaves (ts := [9, 3, 3]) 4 (by kernel_rfl) h
  match cs, hl with
  | [v0, v1, v2], _ =>
    have l0 := hv 0 9 v0 rfl rfl
    obtain ⟨a0, rfl, w0⟩ := l0.string Try.underlying9
    have l1 := hv 1 3 v1 rfl rfl
    obtain ⟨a1, rfl, w1⟩ := l1.int (k := .i64) Try.underlying3
    have l2 := hv 2 3 v2 rfl rfl
    obtain ⟨a2, rfl, w2⟩ := l2.int (k := .i64) Try.underlying3
    exact ⟨⟨a0, a1, a2⟩, rfl, by unfold maxLen at w0; show a0.size ≤ _; omega⟩

set_option maxRecDepth 100000 in
theorem lifted (os : Os) (started : os.Started) (H : Type) (enc : TypeId × Value → H) :
    ReturnsInHanded {} Try.checked os 3 .any (Rows.matchPlacesMatchSpecSpec.pre6 enc Try.prog Try.f3 Rows.matchPlacesMatchSpecRow.domain false) (Rows.matchPlacesMatchSpecSpec.post enc Try.prog Try.f3 false true false false) := by
  refine returnsInHanded_of_change (C := Try.checked) lift_own started (by kernel_rfl) Try.func3
    (ChangeSpec.witness6 (enc := enc) (C := Try.checked) false ⟨#[], #[.slice none 0 0, .agg #[.string ⟨#[]⟩, .int .i64 0, .int .i64 0]], []⟩ 8 (by kernel_rfl) (by kernel_rfl) (by kernel_rfl) (by kernel_rfl)) ?_
  intro W base args ds gs before hval0 hW hcnd _
  have hval : ∀ (j : Nat) t v, Try.f3.params[j]? = some t → args[j]? = some v → Value.okWide Try.prog W .any base t v := hval0
  have hW' := hW
  obtain ⟨p, q, hA0, hV, rfl, hfz, hnd⟩ := hW
  have hA : DataW.TrodAll enc Try.prog W 0 (fun _ => true) true Try.f3.params.toList args.toList ds p := hA0
  rw [Try.params3] at hA hval
  obtain ⟨v0, vs0, d0, ds0, p0, q0, hargs, rfl, rfl, h0, r0⟩ := trodAll_cons hA
  obtain ⟨v1, vs1, d1, ds1, p1, q1, rfl, rfl, rfl, h1, r1⟩ := trodAll_cons r0
  obtain ⟨rfl, rfl, rfl⟩ := trodAll_nil r1
  obtain rfl : args = #[v0, v1] := by cases args; simp_all
  obtain ⟨rfl, rfl⟩ := trodVars_none hV
  have k0 := h0
  have lt0 : ∀ x ∈ p0, x.block < W.heap.size := by obtain ⟨m, hm⟩ := k0; exact DataW.trod_lt m _ _ _ hm
  obtain ⟨f0, hf0⟩ := h0
  obtain ⟨a0, n0, c0, xs0, hcs0, rd0, nmk0⟩ := open_rowsP encScore _ Try.underlying22 (by kernel_rfl) cells_encScore hf0
  obtain ⟨b0, m0, e0, rfl⟩ := okWide_slice Try.underlying22 (hval 0 22 v0 rfl rfl)
  obtain ⟨rfl, rfl, rfl⟩ : a0 = b0 ∧ n0 = m0 ∧ c0 = e0 := by simp [Value.cells] at hcs0; exact ⟨hcs0.1.symm, hcs0.2.1.symm, hcs0.2.2.symm⟩
  have k1 := h1
  have lt1 : ∀ x ∈ p1, x.block < W.heap.size := by obtain ⟨m, hm⟩ := k1; exact DataW.trod_lt m _ _ _ hm
  obtain ⟨f1, hf1⟩ := h1
  obtain ⟨cs1, rfl, z1⟩ := okWide_struct Try.underlying24 (hval 1 24 v1 rfl rfl)
  obtain ⟨a1, hcs1, nmk1⟩ := cells_encScore _ _ _ hf1
  obtain rfl : cs1 = #[.string a1.name, .int .i64 a1.start, .int .i64 a1.time] := Array.ext' (by simpa [Value.cells, encScore] using hcs1)
  clear hA0 hval0
  refine (law_places a0 n0 c0 xs0 a1 W rd0 nmk0 nmk1).mono fun e W' ⟨he, bel⟩ => ?_
  subst he
  have bel := bel.go
  exact ⟨_, rfl, _, _, _, [], _, [], hW', trodAll_mk1 (shut_bool Try.underlying4 _), (trodAll_cons_mk (Below.trod lift_laid (by kernel_rfl) (of_decide_eq_true (by kernel_rfl)) k0 bel lt0) (trodAll_cons_mk (Below.trod lift_laid (by kernel_rfl) (of_decide_eq_true (by kernel_rfl)) k1 bel lt1) trodAll_mk0)), rfl, bel.frame _, fun h => by cases h⟩

theorem over : Rows.matchPlacesMatchSpecRow.holds Try.pinned (OpenSpec.ofChange Rows.matchPlacesMatchSpecSpec) :=
  OpenClaim.holds_of_wide 3 Try.f3 rfl rfl rfl rfl rfl rfl rfl ⟨rfl, rfl, rfl, rfl, rfl⟩ rfl rfl rfl rfl rfl (by kernel_rfl) Try.func3 (by kernel_rfl)
    (of_decide_eq_true (by kernel_rfl)) (by unfold Func.isWrapper; first | (rw [if_pos (by decide +kernel)]; kernel_rfl) | (rw [if_neg (by decide +kernel)]; exact ⟨rfl, rfl⟩))
    (fun os started H enc _ => lifted os started H enc)

/-- The statement. -/
theorem proved : Rows.MatchPlacesMatchSpecSaid := over
#print axioms proved
end Go.Proofs.Ytjflbnbofedlkaa.matchPlacesMatchSpecLift
