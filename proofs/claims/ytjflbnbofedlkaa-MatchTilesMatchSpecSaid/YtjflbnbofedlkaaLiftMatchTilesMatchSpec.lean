/-
  MatchTilesMatchSpec: the statement, out of the walk of the law: for every input the call returns true, and each argument reads as it did.
-/
import Derived.Test.YtjflbnbofedlkaaXmA
import Derived.Test.YtjflbnbofedlkaaXmB
import Derived.Test.YtjflbnbofedlkaaXmC
import Derived.Test.YtjflbnbofedlkaaXmD
import Derived.Test.YtjflbnbofedlkaaXmE
import Derived.Test.YtjflbnbofedlkaaXmF
import Derived.Test.YtjflbnbofedlkaaXmG
import Derived.Test.YtjflbnbofedlkaaXmH
namespace Go.Proofs.Ytjflbnbofedlkaa.matchTilesMatchSpecLift
open Go Hx Go.ChangeShapes Go.WideShapes Go.ChangeAt Go.RowKit
open Go.ChangeMaps (open_string shut_string)
set_option linter.unusedVariables false

theorem cells_flat41 {H : Type} {enc : TypeId × Value → H} {W : World} {base : Nat} {sp : Nat → Bool} {held : Bool} : ∀ n cs (x : DataW H × List MemPlace), DataW.trod enc Try.prog W base sp held n 41 cs = some x → ∃ a0 a1 : Int, cs = [.int .i64 a0, .int .i64 a1] := by
  intro n cs x h
  obtain ⟨hl, hv⟩ := leaves (ts := [3, 3]) 4 (by kernel_rfl) h
  match cs, hl with
  | [v0, v1], _ =>
    have l0 := hv 0 3 v0 rfl rfl
    obtain ⟨a0, rfl, w0⟩ := l0.int (k := .i64) Try.underlying3
    have l1 := hv 1 3 v1 rfl rfl
    obtain ⟨a1, rfl, w1⟩ := l1.int (k := .i64) Try.underlying3
    exact ⟨a0, a1, rfl⟩

set_option maxRecDepth 100000 in
theorem lifted (os : Os) (started : os.Started) (H : Type) (enc : TypeId × Value → H) :
    ReturnsInHanded {} Try.checked os 4 .any (Rows.matchTilesMatchSpecSpec.pre6 enc Try.prog Try.f4 Rows.matchTilesMatchSpecRow.domain false) (Rows.matchTilesMatchSpecSpec.post enc Try.prog Try.f4 false true false false) := by
  refine returnsInHanded_of_change (C := Try.checked) lift_own started (by kernel_rfl) Try.func4
    (ChangeSpec.witness6 (enc := enc) (C := Try.checked) false ⟨#[], #[.agg #[.string ⟨#[]⟩, .int .i64 0, .int .i64 0, .slice none 0 0, .slice none 0 0, .slice none 0 0], .agg #[.int .i64 0, .int .i64 0], .int .i64 0], []⟩ 8 (by kernel_rfl) (by kernel_rfl) (by kernel_rfl) (by kernel_rfl)) ?_
  intro W base args ds gs before hval0 hW hcnd _
  have hval : ∀ (j : Nat) t v, Try.f4.params[j]? = some t → args[j]? = some v → Value.okWide Try.prog W .any base t v := hval0
  have hW' := hW
  obtain ⟨p, q, hA0, hV, rfl, hfz, hnd⟩ := hW
  have hA : DataW.TrodAll enc Try.prog W 0 (fun _ => true) true Try.f4.params.toList args.toList ds p := hA0
  rw [Try.params4] at hA hval
  obtain ⟨v0, vs0, d0, ds0, p0, q0, hargs, rfl, rfl, h0, r0⟩ := trodAll_cons hA
  obtain ⟨v1, vs1, d1, ds1, p1, q1, rfl, rfl, rfl, h1, r1⟩ := trodAll_cons r0
  obtain ⟨v2, vs2, d2, ds2, p2, q2, rfl, rfl, rfl, h2, r2⟩ := trodAll_cons r1
  obtain ⟨rfl, rfl, rfl⟩ := trodAll_nil r2
  obtain rfl : args = #[v0, v1, v2] := by cases args; simp_all
  obtain ⟨rfl, rfl⟩ := trodVars_none hV
  have k0 := h0
  have lt0 : ∀ x ∈ p0, x.block < W.heap.size := by obtain ⟨m, hm⟩ := k0; exact DataW.trod_lt m _ _ _ hm
  obtain ⟨f0, hf0⟩ := h0
  obtain ⟨cs0, rfl, z0⟩ := okWide_struct Try.underlying39 (hval 0 39 v0 rfl rfl)
  obtain ⟨a0, hcs0, rd0, _⟩ := open_act hf0
  obtain rfl : cs0 = #[.string a0.name, .int .i64 a0.sport, .int .i64 a0.start, .slice a0.sa a0.sn a0.sc, .slice a0.la a0.ln a0.lc, .slice a0.ta a0.tn a0.tc] := Array.ext' (by simpa [Value.cells] using hcs0)
  have k1 := h1
  have lt1 : ∀ x ∈ p1, x.block < W.heap.size := by obtain ⟨m, hm⟩ := k1; exact DataW.trod_lt m _ _ _ hm
  obtain ⟨f1, hf1⟩ := h1
  obtain ⟨cs1, rfl, z1⟩ := okWide_struct Try.underlying41 (hval 1 41 v1 rfl rfl)
  obtain ⟨a1_0, a1_1, hcs1⟩ := cells_flat41 _ _ _ hf1
  obtain rfl : cs1 = #[.int .i64 a1_0, .int .i64 a1_1] := Array.ext' (by simpa [Value.cells] using hcs1)
  obtain ⟨a2, rfl, rfl, rfl, w2⟩ := open_int Try.underlying3 (hval 2 3 v2 rfl rfl) h2
  clear hA0 hval0
  refine (law_tiles a0 a1_0 a1_1 a2 W rd0).mono fun e W' ⟨he, bel⟩ => ?_
  subst he
  have bel := bel.go
  exact ⟨_, rfl, _, _, _, [], _, [], hW', trodAll_mk1 (shut_bool Try.underlying4 _), (trodAll_cons_mk (Below.trod lift_laid (by kernel_rfl) (of_decide_eq_true (by kernel_rfl)) k0 bel lt0) (trodAll_cons_mk (Below.trod lift_laid (by kernel_rfl) (of_decide_eq_true (by kernel_rfl)) k1 bel lt1) (trodAll_cons_mk (shut_int Try.underlying3 w2) trodAll_mk0))), rfl, bel.frame _, fun h => by cases h⟩

theorem over : Rows.matchTilesMatchSpecRow.holds Try.pinned (OpenSpec.ofChange Rows.matchTilesMatchSpecSpec) :=
  OpenClaim.holds_of_wide 4 Try.f4 rfl rfl rfl rfl rfl rfl rfl ⟨rfl, rfl, rfl, rfl, rfl⟩ rfl rfl rfl rfl rfl (by kernel_rfl) Try.func4 (by kernel_rfl)
    (of_decide_eq_true (by kernel_rfl)) (by unfold Func.isWrapper; first | (rw [if_pos (by decide +kernel)]; kernel_rfl) | (rw [if_neg (by decide +kernel)]; exact ⟨rfl, rfl⟩))
    (fun os started H enc _ => lifted os started H enc)

/-- The statement. -/
theorem proved : Rows.MatchTilesMatchSpecSaid := over
#print axioms proved
end Go.Proofs.Ytjflbnbofedlkaa.matchTilesMatchSpecLift
