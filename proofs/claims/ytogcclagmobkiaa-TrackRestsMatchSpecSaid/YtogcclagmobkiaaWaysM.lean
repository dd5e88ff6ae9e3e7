/-
  How far was gone up to each sample. No program stands here.
-/
import Derived.Test.YtogcclagmobkiaaRootM
namespace Go.Proofs.Ytogcclagmobkiaa
set_option linter.unusedVariables false
def stepsL (ss : List SmpR) : List (SmpR × SmpR) := ss.zip ss.tail
theorem stepsL_len (ss : List SmpR) : (stepsL ss).length = ss.length - 1 := by unfold stepsL; rw [List.length_zip, List.length_tail]; omega
theorem stepsL_get {ss : List SmpR} {k : Nat} {x y : SmpR} (hx : ss[k]? = some x) (hy : ss[k + 1]? = some y) : (stepsL ss)[k]? = some (x, y) := by
  unfold stepsL
  rw [List.getElem?_zip_eq_some]
  exact ⟨hx, by rw [List.getElem?_tail]; exact hy⟩
theorem stepsL_inv {ss : List SmpR} {k : Nat} {p : SmpR × SmpR} (h : (stepsL ss)[k]? = some p) : ss[k]? = some p.1 ∧ ss[k + 1]? = some p.2 := by
  unfold stepsL at h
  rw [show p = (p.1, p.2) from rfl, List.getElem?_zip_eq_some, List.getElem?_tail] at h
  exact h
noncomputable def wayN (ss : List SmpR) (k : Nat) : Int := sI (fun p => lenD p.1 p.2) ((stepsL ss).take k)
theorem wayN_zero (ss : List SmpR) : wayN ss 0 = 0 := by simp [wayN, sI]
theorem wayN_succ {ss : List SmpR} {k : Nat} {p : SmpR × SmpR} (h : (stepsL ss)[k]? = some p) : wayN ss (k + 1) = wayN ss k + lenD p.1 p.2 := sI_take _ h
theorem wayN_bd {st : Int} {ss : List SmpR} (h : SmpOk st ss) (k : Nat) : 0 ≤ wayN ss k ∧ wayN ss k ≤ 300000000 * k := by
  have h1 := sI_bd (fun p : SmpR × SmpR => lenD p.1 p.2) 300000000 (by omega) ((stepsL ss).take k) (fun p hp => by
    obtain ⟨i, hi⟩ := List.getElem?_of_mem (List.mem_of_mem_take hp)
    have h2 := stepsL_inv hi
    exact lenD_bd (h.place (List.mem_of_getElem? h2.1)) (h.place (List.mem_of_getElem? h2.2)))
  unfold wayN
  have h3 : ((stepsL ss).take k).length ≤ k := by rw [List.length_take]; omega
  omega
noncomputable def runW (ss : List SmpR) (k : Nat) : List Int := (List.range k).map (wayN ss)
theorem runW_succ (ss : List SmpR) (k : Nat) : runW ss (k + 1) = runW ss k ++ [wayN ss k] := by unfold runW; rw [List.range_succ, List.map_append]; rfl
theorem runW_len (ss : List SmpR) (k : Nat) : (runW ss k).length = k := by simp [runW]
theorem runW_get {ss : List SmpR} {k i : Nat} {x : Int} (h : (runW ss k)[i]? = some x) : x = wayN ss i := by
  unfold runW at h
  obtain ⟨hi, rfl⟩ := List.getElem?_eq_some_iff.1 h
  simp
theorem runW_at {ss : List SmpR} {k i : Nat} (h : i < k) : (runW ss k)[i]? = some (wayN ss i) := by unfold runW; simp [h]
noncomputable def wayL (ss : List SmpR) : List Int := runW ss ss.length
theorem wayL_len (ss : List SmpR) : (wayL ss).length = ss.length := runW_len _ _
theorem wayN_mono {st : Int} {ss : List SmpR} (h : SmpOk st ss) {i j : Nat} (hij : i ≤ j) : wayN ss i ≤ wayN ss j := by
  induction j with
  | zero => have : i = 0 := by omega
            subst this; exact Int.le_refl _
  | succ j ih =>
    by_cases h1 : i = j + 1
    · subst h1; exact Int.le_refl _
    · have h2 := ih (by omega)
      cases h3 : (stepsL ss)[j]? with
      | none =>
        have h4 := List.getElem?_eq_none_iff.1 h3
        have : wayN ss (j + 1) = wayN ss j := by unfold wayN; rw [List.take_of_length_le (by omega), List.take_of_length_le (by omega)]
        omega
      | some p =>
        have h4 := stepsL_inv h3
        have h5 := lenD_bd (h.place (List.mem_of_getElem? h4.1)) (h.place (List.mem_of_getElem? h4.2))
        rw [wayN_succ h3]; omega
/-- Ways: how far, and an error. -/
noncomputable def waysR (a : ActD) : List Int × Int := if chkA a ≠ 0 then ([], chkA a) else (wayL a.ss, 0)
theorem waysR_e {a : ActD} (h : chkA a ≠ 0) : waysR a = ([], chkA a) := if_pos h
theorem waysR_0 {a : ActD} (h : ¬chkA a ≠ 0) : waysR a = (wayL a.ss, 0) := if_neg h
end Go.Proofs.Ytogcclagmobkiaa
