/-
  Plain facts on lists, of no program.
-/
import Derived.Test.YtogcclagmobkiaaInts
namespace Go.Proofs.Ytogcclagmobkiaa
def inB (n a b : Int) : Bool := decide (a ≤ n) && decide (n ≤ b)
theorem inB_iff {n a b : Int} : inB n a b = true ↔ a ≤ n ∧ n ≤ b := by simp [inB]
theorem inB_not {n a b : Int} : inB n a b = false ↔ n < a ∨ b < n := by rw [← Bool.not_eq_true, inB_iff]; omega

theorem take_succ_get {α : Type} {xs : List α} {k : Nat} {x : α} (h : xs[k]? = some x) : xs.take (k + 1) = xs.take k ++ [x] := by
  rw [List.take_add_one, h]; rfl
theorem all_take_succ {xs : List Int} {p : Int → Bool} {k : Nat} {x : Int} (h : xs[k]? = some x) (ha : (xs.take k).all p = true) (hx : p x = true) : (xs.take (k + 1)).all p = true := by
  rw [take_succ_get h, List.all_append, ha]; simp [hx]
theorem all_false {xs : List Int} {p : Int → Bool} {k : Nat} {x : Int} (h : xs[k]? = some x) (hx : p x = false) : xs.all p = false := by
  rw [List.all_eq_false]
  exact ⟨x, List.mem_of_getElem? h, by simp [hx]⟩
theorem drop_cons_get {α : Type} {xs : List α} {k : Nat} {x : α} (h : xs[k]? = some x) : xs.drop k = x :: xs.drop (k + 1) := by
  obtain ⟨hk, rfl⟩ := List.getElem?_eq_some_iff.1 h
  exact List.drop_eq_getElem_cons hk
/-- The element ahead of place k. -/
def ahead {α : Type} (xs : List α) (k : Nat) : Option α := if k = 0 then none else xs[k - 1]?
theorem ahead_succ {α : Type} {xs : List α} {k : Nat} {x : α} (h : xs[k]? = some x) : ahead xs (k + 1) = some x := by simp [ahead, h]
theorem ahead_zero {α : Type} (xs : List α) : ahead xs 0 = none := rfl
theorem ahead_pos {α : Type} {xs : List α} {k : Nat} {x : α} (hk : 0 < k) (h : xs[k - 1]? = some x) : ahead xs k = some x := by unfold ahead; rw [if_neg (by omega), h]
theorem ahead_pred {α : Type} {xs : List α} {k : Nat} {x : α} (hk : (0 : Int) < (k : Int)) (h : xs[((k : Int) - 1).toNat]? = some x) : ahead xs k = some x := by
  have h1 : ((k : Int) - 1).toNat = k - 1 := by omega
  rw [h1] at h
  exact ahead_pos (by omega) h
theorem mul_bd {a b A B : Int} (h1 : 0 ≤ a) (h2 : a ≤ A) (h3 : 0 ≤ b) (h4 : b ≤ B) : 0 ≤ a * b ∧ a * b ≤ A * B :=
  ⟨Int.mul_nonneg h1 h3, Int.le_trans (Int.mul_le_mul_of_nonneg_right h2 h3) (Int.mul_le_mul_of_nonneg_left h4 (by omega))⟩
/-- The sum of what f says. -/
def sI {α : Type} (f : α → Int) : List α → Int
  | [] => 0
  | x :: r => f x + sI f r
theorem sI_append {α : Type} (f : α → Int) : ∀ xs ys : List α, sI f (xs ++ ys) = sI f xs + sI f ys
  | [], ys => by simp [sI]
  | x :: r, ys => by simp only [List.cons_append, sI, sI_append f r ys]; omega
theorem sI_take {α : Type} (f : α → Int) {xs : List α} {k : Nat} {x : α} (h : xs[k]? = some x) : sI f (xs.take (k + 1)) = sI f (xs.take k) + f x := by
  rw [List.take_add_one, sI_append, h]; simp [sI]
theorem sI_bd {α : Type} (f : α → Int) (M : Int) (hM : 0 ≤ M) : ∀ xs : List α, (∀ x ∈ xs, 0 ≤ f x ∧ f x ≤ M) → 0 ≤ sI f xs ∧ sI f xs ≤ M * xs.length
  | [], _ => by simp [sI]
  | x :: r, h => by
    have h1 := h x (by simp)
    have h2 := sI_bd f M hM r (fun y hy => h y (by simp [hy]))
    have : M * ((x :: r).length : Int) = M * r.length + M := by simp only [List.length_cons]; rw [Int.natCast_add, Int.mul_add]; simp
    rw [this]; simp only [sI]; omega

/-! #### a list whose elements are good, and in order -/
def ordG {α : Type} (bad : α → α → Bool) (p : Option α) (x : α) : Bool := match p with | some y => bad y x | none => false
def chkG {α : Type} (good : α → Bool) (bad : α → α → Bool) : Option α → List α → Int
  | _, [] => 0
  | p, x :: r => if good x = false then 9 else if ordG bad p x = true then 10 else chkG good bad (some x) r
section
variable {α : Type} {good : α → Bool} {bad : α → α → Bool} {xs : List α} {k : Nat} {x y : α} {R : Int}
theorem chkG_cons (p : Option α) (x : α) (r : List α) : chkG good bad p (x :: r) = if good x = false then 9 else if ordG bad p x = true then 10 else chkG good bad (some x) r := rfl
theorem chkG_bad (hP : R = chkG good bad (ahead xs k) (xs.drop k)) (hx : xs[k]? = some x) (h : good x = false) : R = 9 := by rw [hP, drop_cons_get hx, chkG_cons, if_pos h]
theorem chkG_ord (hP : R = chkG good bad (ahead xs k) (xs.drop k)) (hx : xs[k]? = some x) (h : good x = true) (hk : (0 : Int) < (k : Int)) (hy : xs[((k : Int) - 1).toNat]? = some y) (ho : bad y x = true) : R = 10 := by
  rw [hP, drop_cons_get hx, chkG_cons, if_neg (by rw [h]; simp), ahead_pred hk hy, if_pos (show ordG bad (some y) x = true from ho)]
theorem chkG_next (hP : R = chkG good bad (ahead xs k) (xs.drop k)) (hx : xs[k]? = some x) (h : good x = true) (hk : (0 : Int) < (k : Int)) (hy : xs[((k : Int) - 1).toNat]? = some y) (ho : bad y x = false) : R = chkG good bad (ahead xs (k + 1)) (xs.drop (k + 1)) := by
  rw [hP, drop_cons_get hx, chkG_cons, if_neg (by rw [h]; simp), ahead_pred hk hy, if_neg (by rw [show ordG bad (some y) x = false from ho]; simp), ahead_succ hx]
theorem chkG_next0 (hP : R = chkG good bad (ahead xs k) (xs.drop k)) (hx : xs[k]? = some x) (h : good x = true) (hk : ¬(0 : Int) < (k : Int)) : R = chkG good bad (ahead xs (k + 1)) (xs.drop (k + 1)) := by
  have h0 : k = 0 := by omega
  subst h0
  rw [hP, drop_cons_get hx, chkG_cons, if_neg (by rw [h]; simp), ahead_zero, if_neg (by simp [ordG]), ahead_succ hx]
theorem chkG_end (hP : R = chkG good bad (ahead xs k) (xs.drop k)) (hk : xs.length ≤ k) : R = 0 := by rw [hP, List.drop_eq_nil_of_le hk]; rfl
theorem chkG_good : ∀ (xs : List α) (p : Option α), chkG good bad p xs = 0 → (∀ x ∈ xs, good x = true) ∧ (∀ y ∈ p, ∀ x ∈ xs.head?, bad y x = false) ∧ ∀ (i : Nat) (y x : α), xs[i]? = some y → xs[i + 1]? = some x → bad y x = false
  | [], _, _ => ⟨by simp, by simp, by simp⟩
  | x :: r, p, h => by
    rw [chkG_cons] at h
    by_cases h1 : good x = false
    · rw [if_pos h1] at h; omega
    · rw [if_neg h1] at h
      by_cases h2 : ordG bad p x = true
      · rw [if_pos h2] at h; omega
      · rw [if_neg h2] at h
        obtain ⟨g1, g2, g3⟩ := chkG_good r (some x) h
        refine ⟨fun z hz => ?_, fun y hy z hz => ?_, fun i y z hy hz => ?_⟩
        · rcases List.mem_cons.1 hz with rfl | hz
          · simpa using h1
          · exact g1 z hz
        · cases p with
          | none => simp at hy
          | some q =>
            simp at hy hz; subst hy; subst hz
            simpa [ordG] using h2
        · cases i with
          | zero =>
            simp at hy hz; subst hy
            exact g2 x rfl z (by simpa [List.head?_eq_getElem?] using hz)
          | succ i => exact g3 i y z (by simpa using hy) (by simpa using hz)
end
/-- Integers in a range that rise. -/
def risR (lo hi : Int) (xs : List Int) : Int := chkG (inB · lo hi) (fun y x => decide (x ≤ y)) none xs
theorem risR_start (lo hi : Int) (xs : List Int) : risR lo hi xs = chkG (inB · lo hi) (fun y x => decide (x ≤ y)) (ahead xs 0) (xs.drop 0) := rfl
def Rising (xs : List Int) : Prop := ∀ (i j : Nat) (x y : Int), i < j → xs[i]? = some x → xs[j]? = some y → x < y
theorem risR_ok {lo hi : Int} {xs : List Int} (h : risR lo hi xs = 0) : (∀ x ∈ xs, lo ≤ x ∧ x ≤ hi) ∧ Rising xs := by
  obtain ⟨h1, _, h3⟩ := chkG_good xs none h
  refine ⟨fun x hx => inB_iff.1 (h1 x hx), ?_⟩
  have key : ∀ (d i : Nat) (x y : Int), xs[i]? = some x → xs[i + d + 1]? = some y → x < y := by
    intro d
    induction d with
    | zero => intro i x y hx hy; have := h3 i x y hx hy; simp at this; omega
    | succ d ih =>
      intro i x y hx hy
      have hlt : i + d + 1 < xs.length := by have := (List.getElem?_eq_some_iff.1 hy).1; omega
      have hz : xs[i + d + 1]? = some (xs[i + d + 1]'hlt) := List.getElem?_eq_getElem hlt
      have a := ih i x _ hx hz
      have b := h3 (i + d + 1) _ y hz (by rw [show i + d + 1 + 1 = i + (d + 1) + 1 by omega]; exact hy)
      simp at b
      omega
  intro i j x y hij hx hy
  exact key (j - i - 1) i x y hx (by rw [show i + (j - i - 1) + 1 = j by omega]; exact hy)
/-- Where a number belongs: all ahead are less than it, all behind are not. -/
def Place (xs : List Int) (t : Int) (k : Nat) : Prop := k ≤ xs.length ∧ (k = 0 ∨ ∃ y, xs[k - 1]? = some y ∧ y < t) ∧ (k = xs.length ∨ ∃ y, xs[k]? = some y ∧ t ≤ y)
theorem Place.unique {xs : List Int} {t : Int} {k j : Nat} (hr : Rising xs) (h : Place xs t k) (h' : Place xs t j) : k = j := by
  have key : ∀ a b : Nat, Place xs t a → Place xs t b → ¬ a < b := by
    intro a b ha hb hlt
    obtain ⟨h1, h2, h3⟩ := ha
    obtain ⟨g1, g2, g3⟩ := hb
    rcases h3 with h3 | ⟨y, hy, hty⟩
    · omega
    · rcases g2 with g2 | ⟨z, hz, hzt⟩
      · omega
      · by_cases hab : a = b - 1
        · subst hab; rw [hy] at hz; cases hz; omega
        · have := hr a (b - 1) y z (by omega) hy hz
          omega
  have a := key k j h h'
  have b := key j k h' h
  omega
end Go.Proofs.Ytogcclagmobkiaa
