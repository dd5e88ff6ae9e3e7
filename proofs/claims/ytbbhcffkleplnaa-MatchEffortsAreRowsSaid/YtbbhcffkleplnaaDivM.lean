/-
  The quotient of a number of two words, by digits of 32 bits. No program stands here.
-/
import Derived.Test.YtbbhcffkleplnaaInts
namespace Go.Proofs.Ytbbhcffkleplnaa
set_option linter.unusedVariables false
/-- The quotient of one step. -/
def digQ (u d Y : Nat) : Nat := (u * 4294967296 + d) / Y
theorem dig_split (Y : Nat) : Y = Y / 4294967296 * 4294967296 + Y % 4294967296 := by omega
theorem dig_start {u d Y : Nat} (hY : 9223372036854775808 ≤ Y) (hY2 : Y < 18446744073709551616) (hu : u < Y) (hd : d < 4294967296) :
    u / (Y / 4294967296) * (Y / 4294967296) + u % (Y / 4294967296) = u ∧ digQ u d Y ≤ u / (Y / 4294967296) ∧ u / (Y / 4294967296) ≤ 4294967297 ∧ u % (Y / 4294967296) < Y / 4294967296 := by
  have hs := dig_split Y
  have hb : Y % 4294967296 < 4294967296 := Nat.mod_lt _ (by omega)
  have ha : 2147483648 ≤ Y / 4294967296 := by omega
  generalize Y / 4294967296 = a at *
  generalize Y % 4294967296 = b at *
  have h1 := Nat.div_add_mod u a
  have h2 := Nat.mod_lt u (show a > 0 by omega)
  rw [Nat.mul_comm] at h1
  refine ⟨h1, ?_, ?_, h2⟩
  · refine Nat.le_of_lt_succ ((Nat.div_lt_iff_lt_mul (by omega)).2 ?_)
    have e : (u / a + 1) * a = u / a * a + a := by rw [Nat.add_mul, Nat.one_mul]
    have h3 : u + 1 ≤ (u / a + 1) * a := by omega
    have h4 := Nat.mul_le_mul_right 4294967296 h3
    have h5 : (u / a + 1) * a * 4294967296 ≤ (u / a + 1) * Y := by
      rw [Nat.mul_assoc]; exact Nat.mul_le_mul_left (u / a + 1) (hs ▸ Nat.le_add_right _ _ : a * 4294967296 ≤ Y)
    rw [Nat.succ_eq_add_one]
    omega
  · refine Nat.le_of_lt_succ ((Nat.div_lt_iff_lt_mul (by omega)).2 ?_)
    rw [Nat.succ_eq_add_one]
    omega
theorem dig_mul (q Y : Nat) : q * Y = q * (Y / 4294967296) * 4294967296 + q * (Y % 4294967296) := by
  rw [Nat.mul_assoc, ← Nat.mul_add, ← dig_split]
theorem dig_dec {u d Y q r : Nat} (hY : 0 < Y) (hu : u < Y) (hd : d < 4294967296) (hs : q * (Y / 4294967296) + r = u) (ht : 4294967296 ≤ q ∨ 4294967296 * r + d < q * (Y % 4294967296)) : digQ u d Y < q := by
  refine (Nat.div_lt_iff_lt_mul hY).2 ?_
  rcases ht with h | h
  · have h1 := Nat.mul_le_mul_right Y h
    omega
  · rw [dig_mul q Y]
    generalize q * (Y / 4294967296) = x at *
    generalize q * (Y % 4294967296) = z at *
    omega
theorem dig_le {u d Y q r : Nat} (hY : 0 < Y) (hs : q * (Y / 4294967296) + r = u) (ht : q * (Y % 4294967296) ≤ 4294967296 * r + d) : q ≤ digQ u d Y := by
  refine (Nat.le_div_iff_mul_le hY).2 ?_
  rw [dig_mul q Y]
  generalize q * (Y / 4294967296) = x at *
  generalize q * (Y % 4294967296) = z at *
  omega
theorem dig_brk {Y q r d : Nat} (hq : q ≤ 4294967296) (hr : 4294967296 ≤ r) : q * (Y % 4294967296) ≤ 4294967296 * r + d := by
  have h1 : q * (Y % 4294967296) ≤ 4294967296 * 4294967296 := Nat.mul_le_mul hq (by omega)
  omega
theorem dig_low {q Y : Nat} (hq : q ≤ 4294967297) : q * (Y % 4294967296) ≤ 18446744073709551615 := by
  have h1 : q * (Y % 4294967296) ≤ 4294967297 * 4294967295 := Nat.mul_le_mul hq (by omega)
  omega
theorem dig_rest (u d Y : Nat) : digQ u d Y * Y + (u * 4294967296 + d) % Y = u * 4294967296 + d := by
  unfold digQ; exact Nat.div_add_mod' _ _
theorem digQ_lt {u d Y : Nat} (hu : u < Y) (hd : d < 4294967296) : digQ u d Y < 4294967296 := by
  refine (Nat.div_lt_iff_lt_mul (by omega)).2 ?_
  have h1 := Nat.mul_le_mul_right 4294967296 (show u + 1 ≤ Y from hu)
  rw [Nat.add_mul] at h1
  rw [Nat.mul_comm 4294967296 Y]
  omega
theorem div_two {hi lo y s : Nat} (hy : 0 < y) (hs : s ≤ 64) (hlo : lo < 18446744073709551616) :
    ∀ u, u = hi * 2 ^ s + lo / 2 ^ (64 - s) → ∀ t, t = lo * 2 ^ s % 18446744073709551616 → ∀ v, v = (u * 4294967296 + t / 4294967296) % (y * 2 ^ s) →
    digQ u (t / 4294967296) (y * 2 ^ s) * 4294967296 + digQ v (t % 4294967296) (y * 2 ^ s) = (hi * 18446744073709551616 + lo) / y ∧
    (v * 4294967296 + t % 4294967296) % (y * 2 ^ s) / 2 ^ s = (hi * 18446744073709551616 + lo) % y := by
  intro u hu t ht v hv
  have h2 : 0 < 2 ^ s := Nat.pow_pos (by omega)
  have hM : 2 ^ s * 2 ^ (64 - s) = 18446744073709551616 := by rw [← Nat.pow_add, Nat.add_sub_cancel' hs]
  have hut : u * 18446744073709551616 + t = (hi * 18446744073709551616 + lo) * 2 ^ s := by
    have e1 : lo / 2 ^ (64 - s) = lo * 2 ^ s / 18446744073709551616 := by
      rw [← hM, Nat.mul_comm (2 ^ s), Nat.mul_div_mul_right _ _ h2]
    have e2 := Nat.div_add_mod (lo * 2 ^ s) 18446744073709551616
    rw [hu, ht, e1, Nat.add_mul, Nat.add_mul, Nat.mul_right_comm]
    omega
  have e3 := dig_rest u (t / 4294967296) (y * 2 ^ s)
  rw [← hv] at e3
  have hall : (hi * 18446744073709551616 + lo) * 2 ^ s = (v * 4294967296 + t % 4294967296) + digQ u (t / 4294967296) (y * 2 ^ s) * 4294967296 * (y * 2 ^ s) := by
    rw [← hut, Nat.mul_right_comm (digQ _ _ _)]
    generalize digQ u (t / 4294967296) (y * 2 ^ s) * (y * 2 ^ s) = z at *
    omega
  have hY : 0 < y * 2 ^ s := Nat.mul_pos hy h2
  constructor
  · have h5 : (hi * 18446744073709551616 + lo) / y = (hi * 18446744073709551616 + lo) * 2 ^ s / (y * 2 ^ s) := (Nat.mul_div_mul_right _ _ h2).symm
    rw [h5, hall, Nat.add_mul_div_right _ _ hY, Nat.add_comm]
    rfl
  · have h6 : (v * 4294967296 + t % 4294967296) % (y * 2 ^ s) = (hi * 18446744073709551616 + lo) % y * 2 ^ s := by
      rw [← Nat.mul_mod_mul_right, hall, Nat.add_mul_mod_self_right]
    rw [h6, Nat.mul_div_cancel _ h2]
end Go.Proofs.Ytbbhcffkleplnaa
