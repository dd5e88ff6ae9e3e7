/-
  Whole roots; lengths and ways of steps. No program stands here.
-/
import Derived.Test.YtogcclagmobkiaaActM
namespace Go.Proofs.Ytogcclagmobkiaa
set_option linter.unusedVariables false
def IsRoot (n r : Int) : Prop := 0 ≤ r ∧ r * r ≤ n ∧ n < (r + 1) * (r + 1)
theorem sq_lt {a b : Int} (h0 : 0 ≤ a) (h : a < b) : a * a < b * b := by
  have h1 := mul_bd (a := a) (b := a) (A := a) (B := a) h0 (by omega) h0 (by omega)
  have h2 : (a + 1) * (a + 1) ≤ b * b := (mul_bd (a := a + 1) (b := a + 1) (A := b) (B := b) (by omega) (by omega) (by omega) (by omega)).2
  have h3 : (a + 1) * (a + 1) = a * a + a + a + 1 := by rw [Int.add_mul, Int.mul_add]; omega
  omega
theorem sq_le {a b : Int} (h0 : 0 ≤ a) (h : a ≤ b) : a * a ≤ b * b := (mul_bd h0 h h0 h).2
theorem IsRoot.unique {n r q : Int} (h : IsRoot n r) (h' : IsRoot n q) : r = q := by
  have key : ∀ a b : Int, IsRoot n a → IsRoot n b → ¬a < b := by
    intro a b ha hb hlt
    have := sq_le (a := a + 1) (b := b) (by have := ha.1; omega) (by omega)
    have h1 := ha.2.2
    have h2 := hb.2.1
    omega
  have a := key r q h h'
  have b := key q r h' h
  omega
open Classical in
noncomputable def rootI (n : Int) : Int := if h : ∃ r, IsRoot n r then Classical.choose h else 0
theorem rootI_eq {n r : Int} (h : IsRoot n r) : rootI n = r := by
  have h1 : ∃ r, IsRoot n r := ⟨r, h⟩
  unfold rootI
  rw [dif_pos h1]
  exact (Classical.choose_spec h1).unique h
theorem root_ex : ∀ n : Nat, ∃ r : Nat, IsRoot n r
  | 0 => ⟨0, by unfold IsRoot; omega⟩
  | n + 1 => by
    obtain ⟨r, h1, h2, h3⟩ := root_ex n
    by_cases h : ((n + 1 : Nat) : Int) < ((r : Int) + 1) * ((r : Int) + 1)
    · exact ⟨r, h1, by omega, h⟩
    · refine ⟨r + 1, by omega, by push_cast; omega, ?_⟩
      have := sq_lt (a := (r : Int) + 1) (b := (r : Int) + 1 + 1) (by omega) (by omega)
      push_cast
      omega
theorem rootI_is {n : Int} (h : 0 ≤ n) : IsRoot n (rootI n) := by
  obtain ⟨m, rfl⟩ := Int.eq_ofNat_of_zero_le h
  obtain ⟨r, hr⟩ := root_ex m
  rw [rootI_eq hr]; exact hr
theorem rootI_le {n m : Int} (h : 0 ≤ n) (hm : 0 ≤ m) (hn : n ≤ m * m) : 0 ≤ rootI n ∧ rootI n ≤ m := by
  have h1 := rootI_is h
  refine ⟨h1.1, ?_⟩
  apply Decidable.byContradiction
  intro hlt
  have := sq_le (a := m + 1) (b := rootI n) (by omega) (by omega)
  have h2 := sq_lt hm (show m < m + 1 by omega)
  have h3 := h1.2.1
  omega
/-- A power of two, at most the 32nd. -/
def PW (p : Int) : Prop := ∃ j : Nat, j ≤ 32 ∧ p = 2 ^ j
theorem PW.top : PW 4294967296 := ⟨32, by omega, by decide⟩
theorem PW.half {p : Int} (h : PW p) (h2 : 0 < p / 2) : ∃ q, PW q ∧ p = 2 * q ∧ 1 ≤ q := by
  obtain ⟨j, hj, rfl⟩ := h
  cases j with
  | zero => simp at h2
  | succ j => exact ⟨2 ^ j, ⟨j, by omega, rfl⟩, by rw [Int.pow_succ]; omega, Int.pow_pos (by omega)⟩
theorem PW.one {p : Int} (h : PW p) (h2 : ¬0 < p / 2) : p = 1 := by
  obtain ⟨j, hj, rfl⟩ := h
  cases j with
  | zero => rfl
  | succ j =>
    have : (0 : Int) < 2 ^ j := Int.pow_pos (by omega)
    rw [Int.pow_succ] at h2; omega
theorem PW.pos {p : Int} (h : PW p) : 1 ≤ p := by
  obtain ⟨j, hj, rfl⟩ := h
  have : (0 : Int) < 2 ^ j := Int.pow_pos (by omega)
  omega
/-- t is no more than n divided by t just if its square is no more than n. -/
theorem le_div_sq {n t : Int} (ht : 0 < t) : t ≤ n / t ↔ t * t ≤ n := Int.le_ediv_iff_mul_le ht
/-! #### ways -/
def sqD (p q : SmpR) : Int := (q.x - p.x) * (q.x - p.x) + (q.y - p.y) * (q.y - p.y)
def PlaceOk (p : SmpR) : Prop := (-100000000 ≤ p.x ∧ p.x ≤ 100000000) ∧ (-100000000 ≤ p.y ∧ p.y ≤ 100000000)
theorem sq_bd {a M : Int} (h : -M ≤ a ∧ a ≤ M) : 0 ≤ a * a ∧ a * a ≤ M * M := by
  by_cases h0 : 0 ≤ a
  · exact mul_bd h0 h.2 h0 h.2
  · have := mul_bd (a := -a) (b := -a) (A := M) (B := M) (by omega) (by omega) (by omega) (by omega)
    rwa [Int.neg_mul_neg] at this
theorem sqD_bd {p q : SmpR} (hp : PlaceOk p) (hq : PlaceOk q) : 0 ≤ sqD p q ∧ sqD p q ≤ 80000000000000000 := by
  have h1 := sq_bd (a := q.x - p.x) (M := 200000000) (by have := hp.1; have := hq.1; omega)
  have h2 := sq_bd (a := q.y - p.y) (M := 200000000) (by have := hp.2; have := hq.2; omega)
  unfold sqD; omega
noncomputable def lenD (p q : SmpR) : Int := rootI (sqD p q)
theorem lenD_bd {p q : SmpR} (hp : PlaceOk p) (hq : PlaceOk q) : 0 ≤ lenD p q ∧ lenD p q ≤ 300000000 := by
  have h := sqD_bd hp hq
  exact rootI_le h.1 (by omega) (by omega)
theorem sqD_comm (p q : SmpR) : sqD p q = sqD q p := by
  unfold sqD
  rw [show q.x - p.x = -(p.x - q.x) by omega, show q.y - p.y = -(p.y - q.y) by omega, Int.neg_mul_neg, Int.neg_mul_neg]
theorem SmpOk.place {st : Int} {ss : List SmpR} (h : SmpOk st ss) {x : SmpR} (hx : x ∈ ss) : PlaceOk x := ⟨(h.bd x hx).2.2.2.1, (h.bd x hx).2.2.2.2.1⟩
end Go.Proofs.Ytogcclagmobkiaa
