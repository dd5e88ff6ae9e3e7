/-
  LoadBookMatchesSpec: the statement, out of the walk of the law: for every input the call returns true, and each argument reads as it did.
-/
import Derived.Test.YtamlldedmhkobaaLift
import Derived.Test.YtamlldedmhkobaaBook2
namespace Go.Proofs.Ytamlldedmhkobaa.loadBookMatchesSpecLift
open Go Hx Go.ChangeShapes Go.WideShapes Go.ChangeAt Go.RowKit
open Go.ChangeMaps (open_string shut_string)
set_option linter.unusedVariables false

theorem cells_encCall {H : Type} {enc : TypeId × Value → H} {W : World} {base : Nat} {sp : Nat → Bool} {held : Bool} : ∀ n cs (x : DataW H × List MemPlace), DataW.trod enc Try.prog W base sp held n 58 cs = some x → ∃ y, cs = encCall.cells y := by
  intro n cs x h
  obtain ⟨hl, hv⟩ := leaves (ts := [3, 3, 3]) 4 (by kernel_rfl) h
  match cs, hl with
  | [v0, v1, v2], _ =>
    have l0 := hv 0 3 v0 rfl rfl
    obtain ⟨a0, rfl, w0⟩ := l0.int (k := .i64) Try.underlying3
    have l1 := hv 1 3 v1 rfl rfl
    obtain ⟨a1, rfl, w1⟩ := l1.int (k := .i64) Try.underlying3
    have l2 := hv 2 3 v2 rfl rfl
    obtain ⟨a2, rfl, w2⟩ := l2.int (k := .i64) Try.underlying3
    exact ⟨mk_encCall a0 a1 a2, rfl⟩

set_option maxRecDepth 100000 in
theorem lifted (os : Os) (started : os.Started) (H : Type) (enc : TypeId × Value → H) :
    ReturnsInHanded {} Try.checked os 8 .any (Rows.loadBookMatchesSpecSpec.pre6 enc Try.prog Try.f8 Rows.loadBookMatchesSpecRow.domain false) (Rows.loadBookMatchesSpecSpec.post enc Try.prog Try.f8 false true false false) := by
  refine returnsInHanded_of_change (C := Try.checked) lift_own started (by kernel_rfl) Try.func8
    (ChangeSpec.witness6 (enc := enc) (C := Try.checked) false ⟨#[], #[.int .i64 0, .int .i64 0, .int .i64 0, .slice none 0 0], []⟩ 8 (by kernel_rfl) (by kernel_rfl) (by kernel_rfl) (by kernel_rfl)) ?_
  intro W base args ds gs before hval0 hW hcnd _
  have hval : ∀ (j : Nat) t v, Try.f8.params[j]? = some t → args[j]? = some v → Value.okWide Try.prog W .any base t v := hval0
  have hW' := hW
  obtain ⟨p, q, hA0, hV, rfl, hfz, hnd⟩ := hW
  have hA : DataW.TrodAll enc Try.prog W 0 (fun _ => true) true Try.f8.params.toList args.toList ds p := hA0
  rw [Try.params8] at hA hval
  obtain ⟨v0, vs0, d0, ds0, p0, q0, hargs, rfl, rfl, h0, r0⟩ := trodAll_cons hA
  obtain ⟨v1, vs1, d1, ds1, p1, q1, rfl, rfl, rfl, h1, r1⟩ := trodAll_cons r0
  obtain ⟨v2, vs2, d2, ds2, p2, q2, rfl, rfl, rfl, h2, r2⟩ := trodAll_cons r1
  obtain ⟨v3, vs3, d3, ds3, p3, q3, rfl, rfl, rfl, h3, r3⟩ := trodAll_cons r2
  obtain ⟨rfl, rfl, rfl⟩ := trodAll_nil r3
  obtain rfl : args = #[v0, v1, v2, v3] := by cases args; simp_all
  obtain ⟨rfl, rfl⟩ := trodVars_none hV
  obtain ⟨a0, rfl, rfl, rfl, w0⟩ := open_int Try.underlying3 (hval 0 3 v0 rfl rfl) h0
  obtain ⟨a1, rfl, rfl, rfl, w1⟩ := open_int Try.underlying3 (hval 1 3 v1 rfl rfl) h1
  obtain ⟨a2, rfl, rfl, rfl, w2⟩ := open_int Try.underlying3 (hval 2 3 v2 rfl rfl) h2
  have k3 := h3
  have lt3 : ∀ x ∈ p3, x.block < W.heap.size := by obtain ⟨m, hm⟩ := k3; exact DataW.trod_lt m _ _ _ hm
  obtain ⟨f3, hf3⟩ := h3
  obtain ⟨a3, n3, c3, xs3, hcs3, rd3⟩ := open_rows encCall Try.underlying50 (by kernel_rfl) cells_encCall hf3
  obtain ⟨b3, m3, e3, rfl⟩ := okWide_slice Try.underlying50 (hval 3 50 v3 rfl rfl)
  obtain ⟨rfl, rfl, rfl⟩ : a3 = b3 ∧ n3 = m3 ∧ c3 = e3 := by simp [Value.cells] at hcs3; exact ⟨hcs3.1.symm, hcs3.2.1.symm, hcs3.2.2.symm⟩
  clear hA0 hval0
  refine (law_book a0 a1 a2 a3 n3 c3 xs3 W rd3).mono fun e W' ⟨he, bel⟩ => ?_
  subst he
  exact ⟨_, rfl, _, _, _, [], _, [], hW', trodAll_mk1 (shut_bool Try.underlying4 _), (trodAll_cons_mk (shut_int Try.underlying3 w0) (trodAll_cons_mk (shut_int Try.underlying3 w1) (trodAll_cons_mk (shut_int Try.underlying3 w2) (trodAll_cons_mk (Below.trod lift_laid (by kernel_rfl) (of_decide_eq_true (by kernel_rfl)) k3 bel lt3) trodAll_mk0)))), rfl, bel.frame _, fun h => by cases h⟩

theorem over : Rows.loadBookMatchesSpecRow.holds Try.pinned (OpenSpec.ofChange Rows.loadBookMatchesSpecSpec) :=
  OpenClaim.holds_of_wide 8 Try.f8 rfl rfl rfl rfl rfl rfl rfl ⟨rfl, rfl, rfl, rfl, rfl⟩ rfl rfl rfl rfl rfl (by kernel_rfl) Try.func8 (by kernel_rfl)
    (of_decide_eq_true (by kernel_rfl)) (by unfold Func.isWrapper; first | (rw [if_pos (by decide +kernel)]; kernel_rfl) | (rw [if_neg (by decide +kernel)]; exact ⟨rfl, rfl⟩))
    (fun os started H enc _ => lifted os started H enc)

/-- The statement. -/
theorem proved : Rows.LoadBookMatchesSpecSaid := over
#print axioms proved
end Go.Proofs.Ytamlldedmhkobaa.loadBookMatchesSpecLift
