/-
  Quotients that are rounded to the nearest. No program stands here.
-/
import Derived.Test.YtogcclagmobkiaaSplitM
namespace Go.Proofs.Ytogcclagmobkiaa
set_option linter.unusedVariables false
/-- A quotient of numbers that are not below 0, with its rest, rounded to the nearest; a half goes up just if m is false. -/
def nearP (x d : Int) (m : Bool) : Int := x / d + (if 0 < x % d ∧ (d - x % d < x % d ∨ d - x % d = x % d ∧ m = false) then 1 else 0)
def nearV (a num den : Int) : Int := if a < 0 then -nearP (-a * num) den true else nearP (a * num) den false
theorem nearP_bd {x d n : Int} {m : Bool} (h0 : 0 ≤ x) (hd : 1 ≤ d) (h : x ≤ n * d) : 0 ≤ nearP x d m ∧ nearP x d m ≤ n := by
  have h1 := upD_bd h0 hd h
  have h2 := upD_eq (x := x) hd
  have h3 : 0 ≤ x / d := Int.ediv_nonneg h0 (by omega)
  unfold nearP
  split <;> split at h2 <;> omega
theorem nearV_bd {a num den : Int} (hn : 0 ≤ num) (hd : 1 ≤ den) (h : num ≤ den) : (0 ≤ a → 0 ≤ nearV a num den ∧ nearV a num den ≤ a) ∧ (a ≤ 0 → a ≤ nearV a num den ∧ nearV a num den ≤ 0) := by
  have key : ∀ (b : Int) (m : Bool), 0 ≤ b → 0 ≤ nearP (b * num) den m ∧ nearP (b * num) den m ≤ b := fun b m hb => nearP_bd (Int.mul_nonneg hb hn) hd (Int.mul_le_mul_of_nonneg_left h hb)
  unfold nearV
  refine ⟨fun h0 => ?_, fun h0 => ?_⟩
  · rw [if_neg (by omega)]; exact key a false h0
  · by_cases h1 : a < 0
    · rw [if_pos h1]
      have := key (-a) true (by omega)
      omega
    · rw [if_neg h1]
      have := key a false (by omega)
      omega
end Go.Proofs.Ytogcclagmobkiaa
