/-
  Activities with other samples. No program stands here.
-/
import Derived.Test.YtogcclagmobkiaaActM
namespace Go.Proofs.Ytogcclagmobkiaa
set_option linter.unusedVariables false
def SmpR.back (by_ : Int) (x : SmpR) : SmpR := ⟨x.at_ - by_, x.x, x.y, x.z, x.pulse, x.power, x.steps⟩
def backS (by_ : Int) (l : List SmpR) : List SmpR := l.map (SmpR.back by_)
theorem backS_succ {by_ : Int} {l : List SmpR} {k : Nat} {x : SmpR} (h : l[k]? = some x) : backS by_ (l.take (k + 1)) = backS by_ (l.take k) ++ [x.back by_] := by
  unfold backS; rw [take_succ_get h, List.map_append]; rfl
def lapAt (by_ span n : Int) : Int := min (max (n - by_) 0) span
def LapR.back (by_ span : Int) (x : LapR) : LapR := ⟨lapAt by_ span x.from_, lapAt by_ span x.to, x.name⟩
def backL (by_ span : Int) (l : List LapR) : List LapR := (l.map (LapR.back by_ span)).filter fun x => decide (x.from_ < x.to)
theorem backL_yes {by_ span : Int} {l : List LapR} {k : Nat} {x : LapR} (h : l[k]? = some x) (hx : lapAt by_ span x.from_ < lapAt by_ span x.to) : backL by_ span (l.take (k + 1)) = backL by_ span (l.take k) ++ [x.back by_ span] := by
  unfold backL; rw [take_succ_get h, List.map_append, List.filter_append]
  congr 1
  simp [LapR.back, hx]
theorem backL_no {by_ span : Int} {l : List LapR} {k : Nat} {x : LapR} (h : l[k]? = some x) (hx : ¬lapAt by_ span x.from_ < lapAt by_ span x.to) : backL by_ span (l.take (k + 1)) = backL by_ span (l.take k) := by
  unfold backL; rw [take_succ_get h, List.map_append, List.filter_append]
  simp [LapR.back, hx]
theorem backL_len (by_ span : Int) (l : List LapR) : (backL by_ span l).length ≤ l.length := by
  unfold backL
  have := List.length_filter_le (fun x : LapR => decide (x.from_ < x.to)) (l.map (LapR.back by_ span))
  rw [List.length_map] at this
  exact this
def partD (a : ActD) (l : List SmpR) (by_ : Int) : ActD := ⟨a.name, a.sport, a.start + by_, backS by_ l, backL by_ (spanL (backS by_ l)) a.ls, a.ts⟩
def noA : ActD := ⟨ByteArray.empty, 0, 0, [], [], []⟩
/-- The part, if it is right. -/
def partR (a : ActD) (l : List SmpR) (by_ : Int) : ActD × Int := if chkA (partD a l by_) ≠ 0 then (noA, chkA (partD a l by_)) else (partD a l by_, 0)
theorem lap_bd {a : ActD} (h : GoodA a) : ∀ x ∈ a.ls, 0 ≤ x.from_ ∧ x.from_ < x.to ∧ x.to ≤ spanL a.ss := by
  intro x hx
  obtain ⟨i, hi⟩ := List.getElem?_of_mem hx
  have h1 := chkE_ok h.l hi
  unfold fL at h1
  by_cases h2 : x.from_ < 0 ∨ x.to ≤ x.from_ ∨ spanL a.ss < x.to
  · rw [if_pos h2] at h1; omega
  · omega
theorem partR_e {a : ActD} {l : List SmpR} {b : Int} (h : chkA (partD a l b) ≠ 0) : partR a l b = (noA, chkA (partD a l b)) := if_pos h
theorem partR_0 {a : ActD} {l : List SmpR} {b : Int} (h : ¬chkA (partD a l b) ≠ 0) : partR a l b = (partD a l b, 0) := if_neg h
end Go.Proofs.Ytogcclagmobkiaa
