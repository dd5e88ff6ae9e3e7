/-
  Activities among the arguments, opened.
-/
import Derived.Test.YtogcclagmobkiaaLift
import Derived.Test.YtogcclagmobkiaaEncAct
namespace Go.Proofs.Ytogcclagmobkiaa
open Go Hx Go.ChangeShapes Go.WideShapes Go.ChangeAt Go.RowKit
set_option linter.unusedVariables false
set_option maxRecDepth 8000
section
variable {H : Type} {enc : TypeId × Value → H} {W : World} {base : Nat} {sp : Nat → Bool} {held : Bool}
theorem cells_encSmp : ∀ n cs (x : DataW H × List MemPlace), DataW.trod enc Try.prog W base sp held n 28 cs = some x → ∃ y, cs = encSmp.cells y ∧ (-9223372036854775808 ≤ y.at_ ∧ y.at_ ≤ 9223372036854775807) := by
  intro n cs x h
  obtain ⟨hl, hv⟩ := leaves (ts := [3, 3, 3, 3, 3, 3, 3]) 4 (by kernel_rfl) h
  match cs, hl with
  | [v0, v1, v2, v3, v4, v5, v6], _ =>
    obtain ⟨a0, rfl, w0⟩ := (hv 0 3 v0 rfl rfl).int (k := .i64) Try.underlying3
    obtain ⟨a1, rfl, w1⟩ := (hv 1 3 v1 rfl rfl).int (k := .i64) Try.underlying3
    obtain ⟨a2, rfl, w2⟩ := (hv 2 3 v2 rfl rfl).int (k := .i64) Try.underlying3
    obtain ⟨a3, rfl, w3⟩ := (hv 3 3 v3 rfl rfl).int (k := .i64) Try.underlying3
    obtain ⟨a4, rfl, w4⟩ := (hv 4 3 v4 rfl rfl).int (k := .i64) Try.underlying3
    obtain ⟨a5, rfl, w5⟩ := (hv 5 3 v5 rfl rfl).int (k := .i64) Try.underlying3
    obtain ⟨a6, rfl, w6⟩ := (hv 6 3 v6 rfl rfl).int (k := .i64) Try.underlying3
    exact ⟨⟨a0, a1, a2, a3, a4, a5, a6⟩, rfl, wf_i64 w0⟩
theorem cells_encLap : ∀ n cs (x : DataW H × List MemPlace), DataW.trod enc Try.prog W base sp held n 66 cs = some x → ∃ y, cs = encLap.cells y ∧ y.name.size ≤ 9223372036854775807 := by
  intro n cs x h
  obtain ⟨hl, hv⟩ := leaves (ts := [3, 3, 9]) 4 (by kernel_rfl) h
  match cs, hl with
  | [v0, v1, v2], _ =>
    obtain ⟨a0, rfl, w0⟩ := (hv 0 3 v0 rfl rfl).int (k := .i64) Try.underlying3
    obtain ⟨a1, rfl, w1⟩ := (hv 1 3 v1 rfl rfl).int (k := .i64) Try.underlying3
    obtain ⟨a2, rfl, w2⟩ := (hv 2 9 v2 rfl rfl).string Try.underlying9
    exact ⟨⟨a0, a1, a2⟩, rfl, by unfold maxLen at w2; show a2.size ≤ _; omega⟩
theorem cells_encStr : ∀ n cs (x : DataW H × List MemPlace), DataW.trod enc Try.prog W base sp held n 9 cs = some x → ∃ y, cs = encStr.cells y ∧ y.size ≤ 9223372036854775807 := by
  intro n cs x h
  obtain ⟨hl, hv⟩ := leaves (ts := [9]) 4 (by kernel_rfl) h
  match cs, hl with
  | [v2], _ =>
    obtain ⟨a2, rfl, w2⟩ := (hv 0 9 v2 rfl rfl).string Try.underlying9
    exact ⟨a2, rfl, by unfold maxLen at w2; omega⟩
theorem open_act {n : Nat} {cs : List Value} {x : DataW H × List MemPlace} (h : DataW.trod enc Try.prog W base sp held n 26 cs = some x) :
    ∃ A : ActV, cs = [.string A.name, .int .i64 A.sport, .int .i64 A.start, .slice A.sa A.sn A.sc, .slice A.la A.ln A.lc, .slice A.ta A.tn A.tc] ∧ A.Ok W.heap.size W ∧ (-9223372036854775808 ≤ A.sport ∧ A.sport ≤ 9223372036854775807) ∧ (-9223372036854775808 ≤ A.start ∧ A.start ≤ 9223372036854775807) := by
  obtain ⟨hl, hv⟩ := leaves (ts := [9, 3, 3, 22, 23, 24]) 5 (by kernel_rfl) h
  match cs, hl with
  | [v0, v1, v2, v3, v4, v5], _ =>
    obtain ⟨a0, rfl, w0⟩ := (hv 0 9 v0 rfl rfl).string Try.underlying9
    obtain ⟨a1, rfl, w1⟩ := (hv 1 3 v1 rfl rfl).int (k := .i64) Try.underlying3
    obtain ⟨a2, rfl, w2⟩ := (hv 2 3 v2 rfl rfl).int (k := .i64) Try.underlying3
    obtain ⟨n3, d3, p3, h3, _⟩ := hv 3 22 v3 rfl rfl
    obtain ⟨n4, d4, p4, h4, _⟩ := hv 4 23 v4 rfl rfl
    obtain ⟨n5, d5, p5, h5, _⟩ := hv 5 24 v5 rfl rfl
    obtain ⟨sa, sn, sc, ss, e3, r3, q3⟩ := open_rowsP encSmp _ Try.underlying22 (by kernel_rfl) cells_encSmp h3
    obtain ⟨la, ln, lc, ls, e4, r4, q4⟩ := open_rowsP encLap _ Try.underlying23 (by kernel_rfl) cells_encLap h4
    obtain ⟨ta, tn, tc, ts, e5, r5, q5⟩ := open_rowsP encStr _ Try.underlying24 (by kernel_rfl) cells_encStr h5
    cases e3; cases e4; cases e5
    exact ⟨⟨a0, a1, a2, sa, sn, sc, la, ln, lc, ta, tn, tc, ss, ls, ts⟩, rfl, ⟨r3, r4, r5, by unfold maxLen at w0; show a0.size ≤ _; omega, q4, q5, q3⟩, wf_i64 w1, wf_i64 w2⟩
/-- The size condition of the statement, for an activity's samples. -/
theorem act_size {n : Nat} {cs : List Value} {x : DataW H × List MemPlace} {A : ActV} (h : DataW.trod enc Try.prog W base sp held n 26 cs = some x)
    (hcs : cs = [.string A.name, .int .i64 A.sport, .int .i64 A.start, .slice A.sa A.sn A.sc, .slice A.la A.ln A.lc, .slice A.ta A.tn A.tc]) (hw : ∀ m ∈ x.1.weights Try.prog 26, m ≤ reachBytes) : A.sn ≤ 2513169434916 := by
  subst hcs
  obtain ⟨xs, n', _, rfl, hlen, hxl, hf⟩ := DataW.trod_struct Try.underlying26 h
  have h3 := hf 3 _ rfl
  match xs, hxl with
  | [x0, x1, x2, x3, x4, x5], _ =>
    have h4 : DataW.trod enc Try.prog W base sp held n' 22 [.slice A.sa A.sn A.sc] = some x3 := h3
    rcases Go.Deep.open_slice Try.underlying22 h4 with ⟨hcs, _⟩ | ⟨a, len, cap, m, k, D, Pl, hcs, _, hl, hm, hmm, hx, _⟩
    · simp at hcs; omega
    · have hb : Try.prog.bytesOf 28 = 56 := by kernel_rfl
      obtain ⟨E, S, hE, hEl⟩ : ∃ E S, x3.1 = DataW.slice E S ∧ E.length = len := ⟨_, _, by rw [hx], by simp⟩
      have h5 : (E.length + S.length) * Try.prog.bytesOf 28 ≤ reachBytes := hw _ (by
        show _ ∈ (DataW.agg [x0.1, x1.1, x2.1, x3.1, x4.1, x5.1]).weights Try.prog 26
        simp only [DataW.weights, Try.underlying26]
        refine DataW.weights_mem_each (j := 3) (t := 22) (d := x3.1) rfl rfl _ ?_
        rw [hE]
        simp only [DataW.weights, Try.underlying22]
        exact List.mem_cons_self ..)
      rw [hb] at h5
      simp at hcs
      unfold reachBytes at h5
      omega
end
end Go.Proofs.Ytogcclagmobkiaa
