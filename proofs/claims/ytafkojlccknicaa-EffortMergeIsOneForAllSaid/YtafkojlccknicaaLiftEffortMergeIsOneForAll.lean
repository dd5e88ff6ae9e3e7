/-
  EffortMergeIsOneForAll: the statement, out of the walk of the law: for every input the call returns true, and each argument reads as it did.
-/
import Derived.Test.YtafkojlccknicaaLift
import Derived.SizedLaws
import Derived.Test.YtafkojlccknicaaLiftSz
import Derived.Test.YtafkojlccknicaaMerge5
namespace Go.Proofs.Ytafkojlccknicaa.effortMergeIsOneForAllLift
open Go Hx Go.ChangeShapes Go.WideShapes Go.ChangeAt Go.RowKit
open Go.ChangeMaps (open_string shut_string)
set_option linter.unusedVariables false

theorem cells_encBest {H : Type} {enc : TypeId × Value → H} {W : World} {base : Nat} {sp : Nat → Bool} {held : Bool} : ∀ n cs (x : DataW H × List MemPlace), DataW.trod enc Try.prog W base sp held n 24 cs = some x → ∃ y, cs = encBest.cells y := by
  intro n cs x h
  obtain ⟨hl, hv⟩ := leaves (ts := [3, 3, 3, 4]) 4 (by kernel_rfl) h
  match cs, hl with
  | [v0, v1, v2, v3], _ =>
    have l0 := hv 0 3 v0 rfl rfl
    obtain ⟨a0, rfl, w0⟩ := l0.int (k := .i64) Try.underlying3
    have l1 := hv 1 3 v1 rfl rfl
    obtain ⟨a1, rfl, w1⟩ := l1.int (k := .i64) Try.underlying3
    have l2 := hv 2 3 v2 rfl rfl
    obtain ⟨a2, rfl, w2⟩ := l2.int (k := .i64) Try.underlying3
    have l3 := hv 3 4 v3 rfl rfl
    obtain ⟨a3, rfl⟩ := l3.bool Try.underlying4
    exact ⟨mk_encBest a0 a1 a2 a3, rfl⟩

set_option maxRecDepth 100000 in
theorem lifted (os : Os) (started : os.Started) (H : Type) (enc : TypeId × Value → H) :
    ReturnsInHanded {} Try.checked os 12 .any (Rows.effortMergeIsOneForAllSpec.pre6 enc Try.prog Try.f12 Rows.effortMergeIsOneForAllRow.domain false) (Rows.effortMergeIsOneForAllSpec.post enc Try.prog Try.f12 false true false false) := by
  refine returnsInHanded_of_change_sized (C := Try.checked) lift_own started (by kernel_rfl) Try.func12
    (ChangeSpec.witness6 (enc := enc) (C := Try.checked) false ⟨#[], #[.slice none 0 0, .slice none 0 0, .slice none 0 0], []⟩ 8 (by kernel_rfl) (by kernel_rfl) (by kernel_rfl) (by kernel_rfl)) ?_
  intro W base args ds gs before hval0 hW hcnd hsz0 _
  have hval : ∀ (j : Nat) t v, Try.f12.params[j]? = some t → args[j]? = some v → Value.okWide Try.prog W .any base t v := hval0
  have hW' := hW
  obtain ⟨p, q, hA0, hV, rfl, hfz, hnd⟩ := hW
  have hA : DataW.TrodAll enc Try.prog W 0 (fun _ => true) true Try.f12.params.toList args.toList ds p := hA0
  have hsz : (DataW.weightsEach Try.prog (Try.f12.params.toList ++ Rows.effortMergeIsOneForAllSpec.plain.varTypes Try.prog) (ds ++ gs)).all (· ≤ reachBytes) = true := hsz0
  rw [Try.params12] at hA hval hsz
  obtain ⟨v0, vs0, d0, ds0, p0, q0, hargs, rfl, rfl, h0, r0⟩ := trodAll_cons hA
  obtain ⟨v1, vs1, d1, ds1, p1, q1, rfl, rfl, rfl, h1, r1⟩ := trodAll_cons r0
  obtain ⟨v2, vs2, d2, ds2, p2, q2, rfl, rfl, rfl, h2, r2⟩ := trodAll_cons r1
  obtain ⟨rfl, rfl, rfl⟩ := trodAll_nil r2
  obtain rfl : args = #[v0, v1, v2] := by cases args; simp_all
  obtain ⟨rfl, rfl⟩ := trodVars_none hV
  have k0 := h0
  have lt0 : ∀ x ∈ p0, x.block < W.heap.size := by obtain ⟨m, hm⟩ := k0; exact DataW.trod_lt m _ _ _ hm
  obtain ⟨f0, hf0⟩ := h0
  obtain ⟨a0, n0, c0, xs0, hcs0, rd0⟩ := open_rows encBest Try.underlying38 (by kernel_rfl) cells_encBest hf0
  obtain ⟨b0, m0, e0, rfl⟩ := okWide_slice Try.underlying38 (hval 0 38 v0 rfl rfl)
  obtain ⟨rfl, rfl, rfl⟩ : a0 = b0 ∧ n0 = m0 ∧ c0 = e0 := by simp [Value.cells] at hcs0; exact ⟨hcs0.1.symm, hcs0.2.1.symm, hcs0.2.2.symm⟩
  have sz0 : n0 ≤ 4398046511104 := by
    have h9 := rows_size (a := a0) (k := n0) (c := c0) Try.underlying38 hf0 (by simp [Value.cells]) (fun m hm => by simpa using List.all_eq_true.1 hsz m (DataW.weights_mem_each (j := 0) rfl rfl m hm))
    rw [show Try.prog.bytesOf 24 = 32 by kernel_rfl] at h9
    unfold reachBytes at h9
    omega
  have k1 := h1
  have lt1 : ∀ x ∈ p1, x.block < W.heap.size := by obtain ⟨m, hm⟩ := k1; exact DataW.trod_lt m _ _ _ hm
  obtain ⟨f1, hf1⟩ := h1
  obtain ⟨a1, n1, c1, xs1, hcs1, rd1⟩ := open_rows encBest Try.underlying38 (by kernel_rfl) cells_encBest hf1
  obtain ⟨b1, m1, e1, rfl⟩ := okWide_slice Try.underlying38 (hval 1 38 v1 rfl rfl)
  obtain ⟨rfl, rfl, rfl⟩ : a1 = b1 ∧ n1 = m1 ∧ c1 = e1 := by simp [Value.cells] at hcs1; exact ⟨hcs1.1.symm, hcs1.2.1.symm, hcs1.2.2.symm⟩
  have sz1 : n1 ≤ 4398046511104 := by
    have h9 := rows_size (a := a1) (k := n1) (c := c1) Try.underlying38 hf1 (by simp [Value.cells]) (fun m hm => by simpa using List.all_eq_true.1 hsz m (DataW.weights_mem_each (j := 1) rfl rfl m hm))
    rw [show Try.prog.bytesOf 24 = 32 by kernel_rfl] at h9
    unfold reachBytes at h9
    omega
  have k2 := h2
  have lt2 : ∀ x ∈ p2, x.block < W.heap.size := by obtain ⟨m, hm⟩ := k2; exact DataW.trod_lt m _ _ _ hm
  obtain ⟨f2, hf2⟩ := h2
  obtain ⟨a2, n2, c2, xs2, hcs2, rd2⟩ := open_rows encBest Try.underlying38 (by kernel_rfl) cells_encBest hf2
  obtain ⟨b2, m2, e2, rfl⟩ := okWide_slice Try.underlying38 (hval 2 38 v2 rfl rfl)
  obtain ⟨rfl, rfl, rfl⟩ : a2 = b2 ∧ n2 = m2 ∧ c2 = e2 := by simp [Value.cells] at hcs2; exact ⟨hcs2.1.symm, hcs2.2.1.symm, hcs2.2.2.symm⟩
  have sz2 : n2 ≤ 4398046511104 := by
    have h9 := rows_size (a := a2) (k := n2) (c := c2) Try.underlying38 hf2 (by simp [Value.cells]) (fun m hm => by simpa using List.all_eq_true.1 hsz m (DataW.weights_mem_each (j := 2) rfl rfl m hm))
    rw [show Try.prog.bytesOf 24 = 32 by kernel_rfl] at h9
    unfold reachBytes at h9
    omega
  clear hA0 hval0
  refine (law_one a0 n0 c0 xs0 a1 n1 c1 xs1 a2 n2 c2 xs2 W rd0 rd1 rd2 sz0 sz1 sz2).mono fun e W' ⟨he, bel⟩ => ?_
  subst he
  exact ⟨_, rfl, _, _, _, [], _, [], hW', trodAll_mk1 (shut_bool Try.underlying4 _), (trodAll_cons_mk (Below.trod lift_laid (by kernel_rfl) (of_decide_eq_true (by kernel_rfl)) k0 bel lt0) (trodAll_cons_mk (Below.trod lift_laid (by kernel_rfl) (of_decide_eq_true (by kernel_rfl)) k1 bel lt1) (trodAll_cons_mk (Below.trod lift_laid (by kernel_rfl) (of_decide_eq_true (by kernel_rfl)) k2 bel lt2) trodAll_mk0))), rfl, bel.frame _, fun h => by cases h⟩

theorem over : Rows.effortMergeIsOneForAllRow.holds Try.pinned (OpenSpec.ofChange Rows.effortMergeIsOneForAllSpec) :=
  OpenClaim.holds_of_wide 12 Try.f12 rfl rfl rfl rfl rfl rfl rfl ⟨rfl, rfl, rfl, rfl, rfl⟩ rfl rfl rfl rfl rfl (by kernel_rfl) Try.func12 (by kernel_rfl)
    (of_decide_eq_true (by kernel_rfl)) (by unfold Func.isWrapper; first | (rw [if_pos (by decide +kernel)]; kernel_rfl) | (rw [if_neg (by decide +kernel)]; exact ⟨rfl, rfl⟩))
    (fun os started H enc _ => lifted os started H enc)

/-- The statement. -/
theorem proved : Rows.EffortMergeIsOneForAllSaid := over
#print axioms proved
end Go.Proofs.Ytafkojlccknicaa.effortMergeIsOneForAllLift
