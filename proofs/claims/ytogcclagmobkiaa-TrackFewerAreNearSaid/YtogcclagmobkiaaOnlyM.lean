/-
  Only. No program stands here.
-/
import Derived.Test.YtogcclagmobkiaaPartM
namespace Go.Proofs.Ytogcclagmobkiaa
set_option linter.unusedVariables false
def RisP (l : List Int) : Prop := ∀ (i : Nat) (x y : Int), l[i]? = some x → l[i + 1]? = some y → x < y
def InP (ss : List SmpR) (l : List Int) : Prop := ∀ x ∈ l, 0 ≤ x ∧ x ≤ (ss.length : Int) - 1
def keptL (ss : List SmpR) (l : List Int) : List SmpR := l.filterMap fun n => ss[n.toNat]?
theorem keptL_succ {ss : List SmpR} {l : List Int} {k : Nat} {n : Int} {x : SmpR} (h : l[k]? = some n) (hx : ss[n.toNat]? = some x) : keptL ss (l.take (k + 1)) = keptL ss (l.take k) ++ [x] := by
  unfold keptL; rw [take_succ_get h, List.filterMap_append]; simp [hx]
def firstAt (l : List SmpR) : Int := (l[0]?).elim 0 (·.at_)
theorem firstAt_eq {l : List SmpR} {x : SmpR} (h : l[0]? = some x) : firstAt l = x.at_ := by simp [firstAt, h]
theorem firstAt_nil {l : List SmpR} (h : l.length = 0) : firstAt l = 0 := by
  have := List.eq_nil_of_length_eq_zero h
  subst this; rfl
open Classical in
noncomputable def onlyR (a : ActD) (l : List Int) : ActD × Int :=
  if chkA a ≠ 0 then (noA, chkA a) else if ¬RisP l then (noA, 10) else if ¬InP a.ss l then (noA, 4) else partR a (keptL a.ss l) (firstAt (keptL a.ss l))
theorem onlyR_e {a : ActD} {l : List Int} (h : chkA a ≠ 0) : onlyR a l = (noA, chkA a) := if_pos h
theorem onlyR_10 {a : ActD} {l : List Int} (h : chkA a = 0) (h1 : ¬RisP l) : onlyR a l = (noA, 10) := by unfold onlyR; rw [if_neg (by simp [h]), if_pos h1]
theorem onlyR_4 {a : ActD} {l : List Int} (h : chkA a = 0) (h1 : RisP l) (h2 : ¬InP a.ss l) : onlyR a l = (noA, 4) := by unfold onlyR; rw [if_neg (by simp [h]), if_neg (fun h3 => h3 h1), if_pos h2]
theorem onlyR_0 {a : ActD} {l : List Int} (h : chkA a = 0) (h1 : RisP l) (h2 : InP a.ss l) : onlyR a l = partR a (keptL a.ss l) (firstAt (keptL a.ss l)) := by unfold onlyR; rw [if_neg (by simp [h]), if_neg (fun h3 => h3 h1), if_neg (fun h3 => h3 h2)]
theorem ris_len {ss : List SmpR} {l : List Int} (hr : RisP l) (hi : InP ss l) : l.length ≤ ss.length := by
  have key : ∀ (i : Nat) (x : Int), l[i]? = some x → (i : Int) ≤ x := by
    intro i
    induction i with
    | zero => intro x hx; exact (hi x (List.mem_of_getElem? hx)).1
    | succ i ih =>
      intro x hx
      have hlt : i < l.length := by have := (List.getElem?_eq_some_iff.1 hx).1; omega
      have hy : l[i]? = some l[i] := List.getElem?_eq_getElem hlt
      have h1 := ih _ hy
      have h2 := hr i _ _ hy hx
      omega
  cases h : l.length with
  | zero => omega
  | succ m =>
    have hlt : m < l.length := by omega
    have hy : l[m]? = some l[m] := List.getElem?_eq_getElem hlt
    have h1 := key m _ hy
    have h2 := hi _ (List.mem_of_getElem? hy)
    omega
theorem ris_take {l : List Int} (k : Nat) (h : RisP l) : RisP (l.take k) := by
  intro i x y hx hy
  rw [List.getElem?_take] at hx hy
  by_cases h1 : i + 1 < k
  · rw [if_pos (by omega)] at hx
    rw [if_pos h1] at hy
    exact h i x y hx hy
  · rw [if_neg h1] at hy; simp at hy
theorem kept_in {ss : List SmpR} {l : List Int} : ∀ x ∈ keptL ss l, x ∈ ss := by
  intro x hx
  unfold keptL at hx
  obtain ⟨n, _, hn⟩ := List.mem_filterMap.1 hx
  exact List.mem_of_getElem? hn
theorem kept_len (ss : List SmpR) (l : List Int) : (keptL ss l).length ≤ l.length := List.length_filterMap_le _ _
/-- All the numbers. -/
def allN (n : Nat) : List Int := (List.range n).map fun (i : Nat) => (i : Int)
theorem allN_succ (n : Nat) : allN (n + 1) = allN n ++ [(n : Int)] := by unfold allN; rw [List.range_succ, List.map_append]; rfl
theorem allN_len (n : Nat) : (allN n).length = n := by simp [allN]
theorem allN_get {n i : Nat} {x : Int} (h : (allN n)[i]? = some x) : x = i ∧ i < n := by
  unfold allN at h
  obtain ⟨hi, rfl⟩ := List.getElem?_eq_some_iff.1 h
  simp at hi ⊢
  exact hi
theorem allN_ris (n : Nat) : RisP (allN n) := by
  intro i x y hx hy
  have h1 := (allN_get hx).1
  have h2 := (allN_get hy).1
  omega
theorem allN_in (ss : List SmpR) : InP ss (allN ss.length) := by
  intro x hx
  obtain ⟨i, hi⟩ := List.getElem?_of_mem hx
  have := allN_get hi
  omega
theorem allN_kept (ss : List SmpR) : keptL ss (allN ss.length) = ss := by
  have key : ∀ k, k ≤ ss.length → keptL ss (allN k) = ss.take k := by
    intro k
    induction k with
    | zero => intro _; rfl
    | succ k ih =>
      intro hk
      have hx : ss[k]? = some ss[k] := List.getElem?_eq_getElem (by omega)
      rw [allN_succ, take_succ_get hx, ← ih (by omega)]
      unfold keptL
      rw [List.filterMap_append]
      simp [hx]
  rw [key _ (Nat.le_refl _), List.take_length]
theorem backS_zero (l : List SmpR) : backS 0 l = l := by
  unfold backS
  have : ∀ x ∈ l, SmpR.back 0 x = x := fun x _ => by cases x; simp [SmpR.back]
  rw [List.map_congr_left this]; simp
/-- With all numbers the activity stays as it is. -/
theorem only_all {a : ActD} (h : chkA a = 0) : onlyR a (allN a.ss.length) = (a, 0) := by
  have hg := goodA h
  have hok := hg.smp
  have hf : firstAt a.ss = 0 := by
    cases hx : a.ss[0]? with
    | none => simp [firstAt, hx]
    | some x => rw [firstAt_eq hx]; exact hok.first x hx
  have hl : backL 0 (spanL a.ss) a.ls = a.ls := by
    unfold backL
    have h1 : ∀ x ∈ a.ls, LapR.back 0 (spanL a.ss) x = x := fun x hx => by
      have := lap_bd hg x hx
      cases x
      simp only [LapR.back, lapAt, LapR.mk.injEq]
      dsimp only at this
      exact ⟨by omega, by omega, trivial⟩
    rw [List.map_congr_left h1]
    simp only [List.map_id']
    exact List.filter_eq_self.2 fun x hx => by simpa using (lap_bd hg x hx).2.1
  have hp : partD a a.ss 0 = a := by
    unfold partD
    rw [backS_zero, hl]
    cases a
    simp
  rw [onlyR_0 h (allN_ris _) (allN_in _), allN_kept, hf]
  rw [partR_0 (by rw [hp, h]; simp), hp]
end Go.Proofs.Ytogcclagmobkiaa
