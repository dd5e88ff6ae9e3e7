/-
  Plain facts on integers, of no program.
-/
namespace Go.Proofs.Ytogcclagmobkiaa
/-- Go's quotient, and the floor. -/
theorem tdiv_bd (a b : Int) (h : -1000000000000000000 ≤ a ∧ a ≤ 1000000000000000000) : -1000000000000000000 ≤ a.tdiv b ∧ a.tdiv b ≤ 1000000000000000000 := by
  have h4 : (a.tdiv b).natAbs = a.natAbs / b.natAbs := Int.natAbs_tdiv a b
  have h5 : (a.natAbs / b.natAbs) ≤ a.natAbs := Nat.div_le_self _ _
  omega
theorem floor_neg (a b : Int) (hb : 0 < b) (h : a.tmod b < 0) : a.tdiv b - 1 = a / b := by
  have h1 := Int.tmod_add_mul_tdiv a b
  have h4 : (a.tmod b).natAbs = a.natAbs % b.natAbs := Int.natAbs_tmod a b
  have h5 : a.natAbs % b.natAbs < b.natAbs := Nat.mod_lt _ (by omega)
  have : a / b = a.tdiv b - 1 := by
    apply Int.ediv_eq_iff_of_pos hb |>.2
    constructor
    · rw [Int.sub_mul, Int.mul_comm (a.tdiv b) b]; omega
    · rw [Int.sub_mul, Int.mul_comm (a.tdiv b) b]; omega
  omega
theorem floor_nonneg (a b : Int) (hb : 0 < b) (h : ¬ a.tmod b < 0) : a.tdiv b = a / b := by
  have h1 := Int.tmod_add_mul_tdiv a b
  have h3 : a.tmod b < b := Int.tmod_lt_of_pos a hb
  have : a / b = a.tdiv b := by
    apply Int.ediv_eq_iff_of_pos hb |>.2
    constructor
    · rw [Int.mul_comm (a.tdiv b) b]; omega
    · rw [Int.mul_comm (a.tdiv b) b]; omega
  omega
end Go.Proofs.Ytogcclagmobkiaa
