/-
  Fewest samples. No program stands here.
-/
import Derived.Test.YtogcclagmobkiaaFewM
namespace Go.Proofs.Ytogcclagmobkiaa
set_option linter.unusedVariables false
set_option linter.unusedSimpArgs false
def enoughB (ss : List SmpR) (M : Int) (i j : Nat) : Bool := (List.range' (i + 1) (j - (i + 1))).all fun k => decide (errI ss i k j ≤ M)
theorem enoughB_iff {ss : List SmpR} {M : Int} {i j : Nat} : enoughB ss M i j = true ↔ ∀ k, i < k → k < j → errI ss i k j ≤ M := by
  unfold enoughB
  rw [List.all_eq_true]
  constructor
  · intro h k h1 h2
    have := h k (List.mem_range'_1.2 (by omega))
    simpa using this
  · intro h k hk
    rw [List.mem_range'_1] at hk
    simpa using h k (by omega) (by omega)
theorem enoughB_next (ss : List SmpR) (M : Int) (i : Nat) : enoughB ss M i (i + 1) = true := enoughB_iff.2 fun k h1 h2 => by omega
section
variable (en : Nat → Nat → Bool) (n : Nat)
/-- The program: how many, and which one follows, of the first c behind i. -/
def fewT (mf : Nat → Int) (i : Nat) : Nat → Int × Int
  | 0 => (n, 0)
  | c + 1 => if mf (i + 1 + c) + 1 < (fewT mf i c).1 ∧ en i (i + 1 + c) = true then (mf (i + 1 + c) + 1, ((i + 1 + c : Nat) : Int)) else fewT mf i c
/-- The reference: which one follows. -/
def fewR (mf : Nat → Int) (i : Nat) : Nat → Int
  | 0 => -1
  | c + 1 => if (fewR mf i c < 0 ∨ mf (i + 1 + c) < mf (fewR mf i c).toNat) ∧ en i (i + 1 + c) = true then ((i + 1 + c : Nat) : Int) else fewR mf i c
/-- How many steps from j, once m are known ahead of the last one. -/
def manyL : Nat → Nat → Int
  | 0, _ => 0
  | m + 1, j => if j = n - 2 - m then manyL m (fewR en (manyL m) (n - 2 - m) (m + 1)).toNat + 1 else manyL m j
def nextF : Nat → Nat → Int
  | 0, _ => 0
  | m + 1, j => if j = n - 2 - m then fewR en (manyL en n m) (n - 2 - m) (m + 1) else nextF m j
variable {en n}
theorem manyL_bd : ∀ (m j : Nat), 0 ≤ manyL en n m j ∧ manyL en n m j ≤ m
  | 0, _ => ⟨Int.le_refl _, Int.le_refl _⟩
  | m + 1, j => by
    rw [manyL]
    split
    · have := manyL_bd m (fewR en (manyL en n m) (n - 2 - m) (m + 1)).toNat; omega
    · have := manyL_bd m j; omega
theorem fewR_bd (mf : Nat → Int) (i : Nat) : ∀ c, fewR en mf i c = -1 ∨ ∃ k : Nat, fewR en mf i c = k ∧ i < k ∧ k < i + 1 + c
  | 0 => .inl rfl
  | c + 1 => by
    rw [fewR]
    split
    · exact .inr ⟨i + 1 + c, rfl, by omega, by omega⟩
    · rcases fewR_bd mf i c with h | ⟨k, a, b, d⟩
      · exact .inl h
      · exact .inr ⟨k, a, b, by omega⟩
/-- Both find the same. -/
theorem few_eq {mf : Nat → Int} {i : Nat} (h1 : mf (i + 1) + 1 < n) (he : en i (i + 1) = true) : ∀ c, ∃ k : Nat, fewR en mf i (c + 1) = k ∧ i < k ∧ k < i + 1 + (c + 1) ∧ fewT en n mf i (c + 1) = (mf k + 1, (k : Int))
  | 0 => by
    refine ⟨i + 1, ?_, by omega, by omega, ?_⟩
    · rw [fewR, if_pos ⟨.inl (by rw [fewR]; omega), he⟩]
    · rw [fewT, if_pos ⟨h1, he⟩]
  | c + 1 => by
    obtain ⟨k, a, b, d, e⟩ := few_eq (mf := mf) h1 he c
    rw [fewR, fewT, a, e]
    dsimp only
    rw [Int.toNat_natCast]
    by_cases h : mf (i + 1 + (c + 1)) < mf k ∧ en i (i + 1 + (c + 1)) = true
    · exact ⟨i + 1 + (c + 1), by rw [if_pos ⟨.inr h.1, h.2⟩], by omega, by omega, by rw [if_pos ⟨by omega, h.2⟩]⟩
    · exact ⟨k, by rw [if_neg (fun h2 => h ⟨by have := h2.1; omega, h2.2⟩)], by omega, by omega, by rw [if_neg (fun h2 => h ⟨by have := h2.1; omega, h2.2⟩)]⟩
theorem manyL_stay : ∀ (m d j : Nat), m + d + 1 ≤ n → n - 1 - m ≤ j → manyL en n (m + d) j = manyL en n m j
  | m, 0, j, _, _ => rfl
  | m, d + 1, j, h1, h2 => by rw [show m + (d + 1) = (m + d) + 1 by omega, manyL, if_neg (by omega)]; exact manyL_stay m d j (by omega) h2
theorem nextF_stay : ∀ (m d j : Nat), m + d + 1 ≤ n → n - 1 - m ≤ j → nextF en n (m + d) j = nextF en n m j
  | m, 0, j, _, _ => rfl
  | m, d + 1, j, h1, h2 => by rw [show m + (d + 1) = (m + d) + 1 by omega, nextF, if_neg (by omega)]; exact nextF_stay m d j (by omega) h2
theorem nextF_last : ∀ (m : Nat), m + 1 ≤ n → nextF en n m (n - 1) = 0
  | 0, _ => rfl
  | m + 1, h => by rw [nextF, if_neg (by omega)]; exact nextF_last m (by omega)
/-- What follows i lies behind it. -/
theorem nextF_spec (he : ∀ i, en i (i + 1) = true) {i : Nat} (hi : i + 1 < n) : ∃ k : Nat, nextF en n (n - 1) i = k ∧ i < k ∧ k < n := by
  obtain ⟨m, hm⟩ : ∃ m, m = n - 2 - i := ⟨_, rfl⟩
  have e1 : nextF en n (n - 1) i = fewR en (manyL en n m) i (m + 1) := by
    have := nextF_stay (en := en) (n := n) (m + 1) (n - 1 - (m + 1)) i (by omega) (by omega)
    rw [show m + 1 + (n - 1 - (m + 1)) = n - 1 by omega] at this
    rw [this, nextF, if_pos (by omega), show n - 2 - m = i by omega]
  have h2 := (manyL_bd (en := en) (n := n) m (i + 1)).2
  obtain ⟨k, a, b, c, _⟩ := few_eq (en := en) (n := n) (mf := manyL en n m) (i := i) (by omega) (he i) m
  exact ⟨k, by rw [e1, a], b, by omega⟩
variable (en n)
/-- The list from i on. -/
def chainF : Nat → Nat → List Int
  | 0, _ => []
  | f + 1, i => if i < n then (i : Int) :: (if i = n - 1 then [] else chainF f (nextF en n (n - 1) i).toNat) else []
variable {en n}
theorem chainF_stop {f i : Nat} (h : n ≤ i) : chainF en n f i = [] := by
  cases f with
  | zero => rfl
  | succ f => rw [chainF, if_neg (by omega)]
theorem chainF_end {f i : Nat} (h : i < n) (h2 : i = n - 1) : chainF en n (f + 1) i = [(i : Int)] := by rw [chainF, if_pos h, if_pos h2]
theorem chainF_go {f i k : Nat} (h : i < n) (h2 : i ≠ n - 1) (hk : nextF en n (n - 1) i = k) : chainF en n (f + 1) i = (i : Int) :: chainF en n f k := by rw [chainF, if_pos h, if_neg h2, hk, Int.toNat_natCast]
end
def fewErr (a : ActD) (most lim : Int) : Int := if chkA a ≠ 0 then chkA a else if ¬(0 ≤ most ∧ most ≤ 100000000) then 9 else if lim < a.ss.length then 3 else 0
theorem fewErr_inv {a : ActD} {most lim : Int} (h : fewErr a most lim = 0) : chkA a = 0 ∧ (0 ≤ most ∧ most ≤ 100000000) ∧ (a.ss.length : Int) ≤ lim := by
  unfold fewErr at h
  by_cases h0 : chkA a = 0
  · rw [if_neg (by simp [h0])] at h
    by_cases h1 : 0 ≤ most ∧ most ≤ 100000000
    · rw [if_neg (fun h2 => h2 h1)] at h
      by_cases h2 : lim < a.ss.length
      · rw [if_pos h2] at h; omega
      · exact ⟨h0, h1, by omega⟩
    · rw [if_pos h1] at h; omega
  · rw [if_pos h0] at h; exact absurd h h0
theorem fewErr_ok {a : ActD} {most lim : Int} (h : chkA a = 0) (h1 : 0 ≤ most ∧ most ≤ 100000000) (h2 : ¬lim < a.ss.length) : fewErr a most lim = 0 := by
  unfold fewErr; rw [if_neg (by simp [h]), if_neg (fun h3 => h3 h1), if_neg h2]
theorem fewErr_e {a : ActD} {most lim : Int} (h : chkA a ≠ 0) : fewErr a most lim = chkA a := if_pos h
theorem fewErr_9 {a : ActD} {most lim : Int} (h : chkA a = 0) (h1 : ¬(0 ≤ most ∧ most ≤ 100000000)) : fewErr a most lim = 9 := by unfold fewErr; rw [if_neg (by simp [h]), if_pos h1]
theorem fewErr_3 {a : ActD} {most lim : Int} (h : chkA a = 0) (h1 : 0 ≤ most ∧ most ≤ 100000000) (h2 : lim < a.ss.length) : fewErr a most lim = 3 := by unfold fewErr; rw [if_neg (by simp [h]), if_neg (fun h3 => h3 h1), if_pos h2]
def simpleR (a : ActD) (most : Int) : List Int × Int := if fewErr a most 5000 ≠ 0 then ([], fewErr a most 5000) else (simpleL a.ss (most * most), 0)
theorem simpleR_e {a : ActD} {most : Int} (h : fewErr a most 5000 ≠ 0) : simpleR a most = ([], fewErr a most 5000) := if_pos h
theorem simpleR_0 {a : ActD} {most : Int} (h : fewErr a most 5000 = 0) : simpleR a most = (simpleL a.ss (most * most), 0) := if_neg (by simp [h])
def fewestL (ss : List SmpR) (M : Int) : List Int := chainF (enoughB ss M) ss.length (ss.length + 1) 0
def fewestR (a : ActD) (most : Int) : List Int × Int := if fewErr a most 300 ≠ 0 then ([], fewErr a most 300) else (fewestL a.ss (most * most), 0)
theorem fewestR_e {a : ActD} {most : Int} (h : fewErr a most 300 ≠ 0) : fewestR a most = ([], fewErr a most 300) := if_pos h
theorem fewestR_0 {a : ActD} {most : Int} (h : fewErr a most 300 = 0) : fewestR a most = (fewestL a.ss (most * most), 0) := if_neg (by simp [h])
end Go.Proofs.Ytogcclagmobkiaa
