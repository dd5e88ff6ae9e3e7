/-
  A book of loads: plain part.
-/
import Derived.Test.YtamlldedmhkobaaLoadM
namespace Go.Proofs.Ytamlldedmhkobaa
set_option linter.unusedVariables false
set_option linter.unusedSimpArgs false
structure StR where
  day : Int
  load : Int
  fit : Int
  fat : Int
  form : Int
deriving DecidableEq
def dayB (first d : Int) : Bool := inB d first (min (first + 5000 - 1) 999999)
theorem dayB_iff {first d : Int} : dayB first d = true ↔ first ≤ d ∧ d ≤ min (first + 5000 - 1) 999999 := inB_iff
theorem dayB_not {first d : Int} (h : ¬dayB first d = true) : dayB first d = false := by simpa using h
/-- A book's numbers are right. -/
structure BkOk (g : Int → Int) (first fit fat : Int) : Prop where
  first : 0 ≤ first ∧ first ≤ 999999
  fit : 0 ≤ fit ∧ fit ≤ 10000000
  fat : 0 ≤ fat ∧ fat ≤ 10000000
  load : ∀ d, 0 ≤ g d ∧ g d ≤ 10000
def fitN (g : Int → Int) (first c s : Int) : Nat → Int
  | 0 => s
  | k + 1 => stepM c (fitN g first c s k) (g (first + k))
theorem fitN_bd {g : Int → Int} {first c s : Int} (hg : ∀ d, 0 ≤ g d ∧ g d ≤ 10000) (hc : 1 ≤ c) (hs : 0 ≤ s ∧ s ≤ 10000000) : ∀ k, 0 ≤ fitN g first c s k ∧ fitN g first c s k ≤ 10000000
  | 0 => hs
  | k + 1 => stepM_bd hc (fitN_bd hg hc hs k) (hg _)
def stN (g : Int → Int) (first fit fat : Int) (k : Nat) : StR := ⟨first + k, g (first + k), fitN g first 42 fit (k + 1), fitN g first 7 fat (k + 1), fitN g first 42 fit k - fitN g first 7 fat k⟩
def betL (g : Int → Int) (first fit fat from_ : Int) : Nat → List StR
  | 0 => []
  | k + 1 => if from_ ≤ first + k then betL g first fit fat from_ k ++ [stN g first fit fat k] else betL g first fit fat from_ k
theorem betL_put {g : Int → Int} {first fit fat from_ : Int} {k : Nat} (h : from_ ≤ first + k) : betL g first fit fat from_ (k + 1) = betL g first fit fat from_ k ++ [stN g first fit fat k] := by rw [betL, if_pos h]
theorem betL_no {g : Int → Int} {first fit fat from_ : Int} {k : Nat} (h : ¬from_ ≤ first + k) : betL g first fit fat from_ (k + 1) = betL g first fit fat from_ k := by rw [betL, if_neg h]
theorem betL_len (g : Int → Int) (first fit fat from_ : Int) : ∀ k, (betL g first fit fat from_ k).length ≤ k
  | 0 => Nat.le_refl _
  | k + 1 => by
    have := betL_len g first fit fat from_ k
    by_cases h : from_ ≤ first + k
    · rw [betL_put h, List.length_append]; simp; omega
    · rw [betL_no h]; omega
theorem betL_pos {g : Int → Int} {first fit fat from_ : Int} {k : Nat} (h : from_ < first + k) (hk : 0 < k) : 0 < (betL g first fit fat from_ k).length := by
  obtain ⟨m, rfl⟩ : ∃ m, k = m + 1 := ⟨k - 1, by omega⟩
  rw [betL_put (by omega), List.length_append]; simp
def betR (g : Int → Int) (first fit fat from_ to : Int) : List StR × Int :=
  if dayB first from_ = true ∧ dayB first to = true then (if to < from_ then ([], 10) else (betL g first fit fat from_ (to - first + 1).toNat, 0)) else ([], 9)
theorem betR_9 {g : Int → Int} {first fit fat from_ to : Int} (h : ¬(dayB first from_ = true ∧ dayB first to = true)) : betR g first fit fat from_ to = ([], 9) := if_neg h
theorem betR_10 {g : Int → Int} {first fit fat from_ to : Int} (h : dayB first from_ = true ∧ dayB first to = true) (h2 : to < from_) : betR g first fit fat from_ to = ([], 10) := by rw [betR, if_pos h, if_pos h2]
theorem betR_0 {g : Int → Int} {first fit fat from_ to : Int} (h : dayB first from_ = true ∧ dayB first to = true) (h2 : ¬to < from_) : betR g first fit fat from_ to = (betL g first fit fat from_ (to - first + 1).toNat, 0) := by rw [betR, if_pos h, if_neg h2]
theorem betR_pos {g : Int → Int} {first fit fat d : Int} (h : (betR g first fit fat d d).2 = 0) : 0 < (betR g first fit fat d d).1.length := by
  by_cases h1 : dayB first d = true ∧ dayB first d = true
  · rw [betR_0 h1 (by omega)]
    have := dayB_iff.1 h1.1
    exact betL_pos (by omega) (by omega)
  · rw [betR_9 h1] at h; cases h
def onV (L : List StR) : StR := match L[0]? with | some x => x | none => ⟨0, 0, 0, 0, 0⟩
def onR (g : Int → Int) (first fit fat d : Int) : StR × Int := if (betR g first fit fat d d).2 ≠ 0 then (⟨0, 0, 0, 0, 0⟩, (betR g first fit fat d d).2) else (onV (betR g first fit fat d d).1, 0)
def sumG (g : Int → Int) (d : Int) : Nat → Int
  | 0 => 0
  | k + 1 => sumG g d k + g (d - k)
theorem sumG_bd {g : Int → Int} {d : Int} (hg : ∀ d, 0 ≤ g d ∧ g d ≤ 10000) : ∀ k, 0 ≤ sumG g d k ∧ sumG g d k ≤ 10000 * k
  | 0 => by rw [sumG]; omega
  | k + 1 => by have := sumG_bd hg (d := d) k; have := hg (d - k); rw [sumG]; omega
def addC (g : Int → Int) (first d n : Int) : Int := if ¬(dayB first d = true ∧ inB n 0 10000 = true) then 9 else if 10000 < g d + n then 3 else 0
theorem addC_9 {g : Int → Int} {first d n : Int} (h : ¬(dayB first d = true ∧ inB n 0 10000 = true)) : addC g first d n = 9 := if_pos h
theorem addC_3 {g : Int → Int} {first d n : Int} (h1 : dayB first d = true) (h2 : inB n 0 10000 = true) (h3 : 10000 < g d + n) : addC g first d n = 3 := by rw [addC, if_neg (by simp [h1, h2]), if_pos h3]
theorem addC_0 {g : Int → Int} {first d n : Int} (h1 : dayB first d = true) (h2 : inB n 0 10000 = true) (h3 : ¬10000 < g d + n) : addC g first d n = 0 := by rw [addC, if_neg (by simp [h1, h2]), if_neg h3]
def takeC (g : Int → Int) (first d n : Int) : Int := if ¬(dayB first d = true ∧ inB n 0 10000 = true) then 9 else if g d < n then 4 else 0
theorem takeC_9 {g : Int → Int} {first d n : Int} (h : ¬(dayB first d = true ∧ inB n 0 10000 = true)) : takeC g first d n = 9 := if_pos h
theorem takeC_4 {g : Int → Int} {first d n : Int} (h1 : dayB first d = true) (h2 : inB n 0 10000 = true) (h3 : g d < n) : takeC g first d n = 4 := by rw [takeC, if_neg (by simp [h1, h2]), if_pos h3]
theorem takeC_0 {g : Int → Int} {first d n : Int} (h1 : dayB first d = true) (h2 : inB n 0 10000 = true) (h3 : ¬g d < n) : takeC g first d n = 0 := by rw [takeC, if_neg (by simp [h1, h2]), if_neg h3]
def newB (first fit fat : Int) : Bool := inB first 0 999999 && inB fit 0 10000000 && inB fat 0 10000000
end Go.Proofs.Ytamlldedmhkobaa
