/-
  MatchSquaresMatchSpec: the statement, out of the walk of the law: for every input the call returns true, and each argument reads as it did.
-/
import Derived.Test.YtjflbnbofedlkaaXmA
import Derived.Test.YtjflbnbofedlkaaXmB
import Derived.Test.YtjflbnbofedlkaaXmC
import Derived.Test.YtjflbnbofedlkaaXmD
import Derived.Test.YtjflbnbofedlkaaXmE
import Derived.Test.YtjflbnbofedlkaaXmF
namespace Go.Proofs.Ytjflbnbofedlkaa.matchSquaresMatchSpecLift
open Go Hx Go.ChangeShapes Go.WideShapes Go.ChangeAt Go.RowKit
open Go.ChangeMaps (open_string shut_string)
set_option linter.unusedVariables false

theorem cells_encTile {H : Type} {enc : TypeId × Value → H} {W : World} {base : Nat} {sp : Nat → Bool} {held : Bool} : ∀ n cs (x : DataW H × List MemPlace), DataW.trod enc Try.prog W base sp held n 42 cs = some x → ∃ y, cs = encTile.cells y := by
  intro n cs x h
  obtain ⟨hl, hv⟩ := leaves (ts := [3, 3]) 4 (by kernel_rfl) h
  match cs, hl with
  | [v0, v1], _ =>
    have l0 := hv 0 3 v0 rfl rfl
    obtain ⟨a0, rfl, w0⟩ := l0.int (k := .i64) Try.underlying3
    have l1 := hv 1 3 v1 rfl rfl
    obtain ⟨a1, rfl, w1⟩ := l1.int (k := .i64) Try.underlying3
    exact ⟨mk_encTile a0 a1, rfl⟩

set_option maxRecDepth 100000 in
theorem lifted (os : Os) (started : os.Started) (H : Type) (enc : TypeId × Value → H) :
    ReturnsInHanded {} Try.checked os 7 .any (Rows.matchSquaresMatchSpecSpec.pre6 enc Try.prog Try.f7 Rows.matchSquaresMatchSpecRow.domain false) (Rows.matchSquaresMatchSpecSpec.post enc Try.prog Try.f7 false true false false) := by
  refine returnsInHanded_of_change (C := Try.checked) lift_own started (by kernel_rfl) Try.func7
    (ChangeSpec.witness6 (enc := enc) (C := Try.checked) false ⟨#[], #[.slice none 0 0, .slice none 0 0], []⟩ 8 (by kernel_rfl) (by kernel_rfl) (by kernel_rfl) (by kernel_rfl)) ?_
  intro W base args ds gs before hval0 hW hcnd _
  have hval : ∀ (j : Nat) t v, Try.f7.params[j]? = some t → args[j]? = some v → Value.okWide Try.prog W .any base t v := hval0
  have hW' := hW
  obtain ⟨p, q, hA0, hV, rfl, hfz, hnd⟩ := hW
  have hA : DataW.TrodAll enc Try.prog W 0 (fun _ => true) true Try.f7.params.toList args.toList ds p := hA0
  rw [Try.params7] at hA hval
  obtain ⟨v0, vs0, d0, ds0, p0, q0, hargs, rfl, rfl, h0, r0⟩ := trodAll_cons hA
  obtain ⟨v1, vs1, d1, ds1, p1, q1, rfl, rfl, rfl, h1, r1⟩ := trodAll_cons r0
  obtain ⟨rfl, rfl, rfl⟩ := trodAll_nil r1
  obtain rfl : args = #[v0, v1] := by cases args; simp_all
  obtain ⟨rfl, rfl⟩ := trodVars_none hV
  have k0 := h0
  have lt0 : ∀ x ∈ p0, x.block < W.heap.size := by obtain ⟨m, hm⟩ := k0; exact DataW.trod_lt m _ _ _ hm
  obtain ⟨f0, hf0⟩ := h0
  obtain ⟨a0, n0, c0, xs0, hcs0, rd0⟩ := open_rows encTile Try.underlying45 (by kernel_rfl) cells_encTile hf0
  obtain ⟨b0, m0, e0, rfl⟩ := okWide_slice Try.underlying45 (hval 0 45 v0 rfl rfl)
  obtain ⟨rfl, rfl, rfl⟩ : a0 = b0 ∧ n0 = m0 ∧ c0 = e0 := by simp [Value.cells] at hcs0; exact ⟨hcs0.1.symm, hcs0.2.1.symm, hcs0.2.2.symm⟩
  have k1 := h1
  have lt1 : ∀ x ∈ p1, x.block < W.heap.size := by obtain ⟨m, hm⟩ := k1; exact DataW.trod_lt m _ _ _ hm
  obtain ⟨f1, hf1⟩ := h1
  obtain ⟨a1, n1, c1, xs1, hcs1, rd1⟩ := open_rows encTile Try.underlying45 (by kernel_rfl) cells_encTile hf1
  obtain ⟨b1, m1, e1, rfl⟩ := okWide_slice Try.underlying45 (hval 1 45 v1 rfl rfl)
  obtain ⟨rfl, rfl, rfl⟩ : a1 = b1 ∧ n1 = m1 ∧ c1 = e1 := by simp [Value.cells] at hcs1; exact ⟨hcs1.1.symm, hcs1.2.1.symm, hcs1.2.2.symm⟩
  clear hA0 hval0
  refine (law_squares a0 n0 c0 xs0 a1 n1 c1 xs1 W rd0 rd1).mono fun e W' ⟨he, bel⟩ => ?_
  subst he
  have bel := bel.go
  exact ⟨_, rfl, _, _, _, [], _, [], hW', trodAll_mk1 (shut_bool Try.underlying4 _), (trodAll_cons_mk (Below.trod lift_laid (by kernel_rfl) (of_decide_eq_true (by kernel_rfl)) k0 bel lt0) (trodAll_cons_mk (Below.trod lift_laid (by kernel_rfl) (of_decide_eq_true (by kernel_rfl)) k1 bel lt1) trodAll_mk0)), rfl, bel.frame _, fun h => by cases h⟩

theorem over : Rows.matchSquaresMatchSpecRow.holds Try.pinned (OpenSpec.ofChange Rows.matchSquaresMatchSpecSpec) :=
  OpenClaim.holds_of_wide 7 Try.f7 rfl rfl rfl rfl rfl rfl rfl ⟨rfl, rfl, rfl, rfl, rfl⟩ rfl rfl rfl rfl rfl (by kernel_rfl) Try.func7 (by kernel_rfl)
    (of_decide_eq_true (by kernel_rfl)) (by unfold Func.isWrapper; first | (rw [if_pos (by decide +kernel)]; kernel_rfl) | (rw [if_neg (by decide +kernel)]; exact ⟨rfl, rfl⟩))
    (fun os started H enc _ => lifted os started H enc)

/-- The statement. -/
theorem proved : Rows.MatchSquaresMatchSpecSaid := over
#print axioms proved
end Go.Proofs.Ytjflbnbofedlkaa.matchSquaresMatchSpecLift
