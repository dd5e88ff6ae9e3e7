/-
  Hills. No program stands here.
-/
import Derived.Test.YtlbcefnbjdpljaaClimbM
import Derived.Test.YtlbcefnbjdpljaaWaysM
namespace Go.Proofs.Ytlbcefnbjdpljaa
set_option linter.unusedVariables false
/-- Up to where one goes up from f: k is the next sample, o the highest one so far. -/
def topG (ss : List SmpR) (f : Nat) (dip : Int) : Nat → Nat → Nat → Nat
  | 0, _, o => o
  | n + 1, k, o => if k < ss.length ∧ zAt ss f ≤ zAt ss k ∧ zAt ss o - zAt ss k ≤ dip then topG ss f dip n (k + 1) (if zAt ss o ≤ zAt ss k then k else o) else o
def topR (ss : List SmpR) (f : Nat) (dip : Int) : Nat := topG ss f dip ss.length (f + 1) f
theorem topG_stop {ss : List SmpR} {f : Nat} {dip : Int} {n k o : Nat} (h : ¬(k < ss.length ∧ zAt ss f ≤ zAt ss k ∧ zAt ss o - zAt ss k ≤ dip)) : topG ss f dip n k o = o := by
  cases n with
  | zero => rfl
  | succ n => unfold topG; rw [if_neg h]
theorem topG_go {ss : List SmpR} {f : Nat} {dip : Int} {n k o : Nat} (h : k < ss.length ∧ zAt ss f ≤ zAt ss k ∧ zAt ss o - zAt ss k ≤ dip) : topG ss f dip (n + 1) k o = topG ss f dip n (k + 1) (if zAt ss o ≤ zAt ss k then k else o) := by
  rw [topG, if_pos h]
theorem topG_bd {ss : List SmpR} {f : Nat} {dip : Int} : ∀ (n k o : Nat), f ≤ o → o < k → o < ss.length → f ≤ topG ss f dip n k o ∧ topG ss f dip n k o < ss.length
  | 0, k, o, h1, h2, h3 => ⟨h1, h3⟩
  | n + 1, k, o, h1, h2, h3 => by
    by_cases h : k < ss.length ∧ zAt ss f ≤ zAt ss k ∧ zAt ss o - zAt ss k ≤ dip
    · rw [topG_go h]; exact topG_bd n (k + 1) _ (by split <;> omega) (by split <;> omega) (by split <;> omega)
    · rw [topG_stop h]; exact ⟨h1, h3⟩
theorem topR_bd {ss : List SmpR} {f : Nat} {dip : Int} (hf : f < ss.length) : f ≤ topR ss f dip ∧ topR ss f dip < ss.length := topG_bd _ _ _ (Nat.le_refl _) (by omega) hf
structure HillR where
  from_ : Int
  to : Int
  rise : Int
  way : Int
noncomputable def hillAt (ss : List SmpR) (i k : Nat) : HillR := ⟨i, k, zAt ss k - zAt ss i, wayN ss k - wayN ss i⟩
noncomputable def hillsG (ss : List SmpR) (least dip : Int) : Nat → Nat → List HillR
  | 0, _ => []
  | n + 1, i => if i < ss.length then (if least ≤ zAt ss (topR ss i dip) - zAt ss i then hillAt ss i (topR ss i dip) :: hillsG ss least dip n (topR ss i dip + 1) else hillsG ss least dip n (i + 1)) else []
theorem hillsG_stop {ss : List SmpR} {least dip : Int} {n i : Nat} (h : ¬i < ss.length) : hillsG ss least dip n i = [] := by
  cases n with
  | zero => rfl
  | succ n => unfold hillsG; rw [if_neg h]
theorem hillsG_hill {ss : List SmpR} {least dip : Int} {n i : Nat} (h : i < ss.length) (h2 : least ≤ zAt ss (topR ss i dip) - zAt ss i) : hillsG ss least dip (n + 1) i = hillAt ss i (topR ss i dip) :: hillsG ss least dip n (topR ss i dip + 1) := by
  rw [hillsG, if_pos h, if_pos h2]
theorem hillsG_none {ss : List SmpR} {least dip : Int} {n i : Nat} (h : i < ss.length) (h2 : ¬least ≤ zAt ss (topR ss i dip) - zAt ss i) : hillsG ss least dip (n + 1) i = hillsG ss least dip n (i + 1) := by
  rw [hillsG, if_pos h, if_neg h2]
noncomputable def hillsR (a : ActD) (least dip : Int) : List HillR × Int :=
  if chkA a ≠ 0 then ([], chkA a) else if ¬((1 ≤ least ∧ least ≤ 200000) ∧ (0 ≤ dip ∧ dip ≤ 200000)) then ([], 9) else (hillsG a.ss least dip a.ss.length 0, 0)
theorem hillsR_e {a : ActD} {l d : Int} (h : chkA a ≠ 0) : hillsR a l d = ([], chkA a) := if_pos h
theorem hillsR_9 {a : ActD} {l d : Int} (h : chkA a = 0) (h1 : ¬((1 ≤ l ∧ l ≤ 200000) ∧ (0 ≤ d ∧ d ≤ 200000))) : hillsR a l d = ([], 9) := by unfold hillsR; rw [if_neg (by simp [h]), if_pos h1]
theorem hillsR_0 {a : ActD} {l d : Int} (h : chkA a = 0) (h1 : (1 ≤ l ∧ l ≤ 200000) ∧ (0 ≤ d ∧ d ≤ 200000)) : hillsR a l d = (hillsG a.ss l d a.ss.length 0, 0) := by unfold hillsR; rw [if_neg (by simp [h]), if_neg (fun h2 => h2 h1)]
end Go.Proofs.Ytlbcefnbjdpljaa
