/-
  The longest lines of samples that agree: plain part.
-/
import Derived.Test.YtlbcefnbjdpljaaWaysM
namespace Go.Proofs.Ytlbcefnbjdpljaa
open Go Go.RowKit Hx
set_option linter.unusedVariables false
set_option linter.unusedSimpArgs false
/-- A list by a function. -/
def tab (n : Nat) (f : Nat → Int) : List Int := (List.range n).map f
@[simp] theorem tab_len (n : Nat) (f : Nat → Int) : (tab n f).length = n := by simp [tab]
theorem tab_get {n : Nat} {f : Nat → Int} {k : Nat} {x : Int} (h : (tab n f)[k]? = some x) : k < n ∧ x = f k := by
  have hk := (List.getElem?_eq_some_iff.1 h).1
  rw [tab_len] at hk
  refine ⟨hk, ?_⟩
  simp [tab, hk] at h
  exact h.symm
theorem tab_at {n : Nat} {f : Nat → Int} {k : Nat} (hk : k < n) : (tab n f)[k]? = some (f k) := by simp [tab, hk]
theorem tab_set {n : Nat} {f g : Nat → Int} {k : Nat} {x : Int} (hk : k < n) (hx : g k = x) (hg : ∀ j, j ≠ k → j < n → g j = f j) : (tab n f).set k x = tab n g := by
  apply List.ext_getElem (by simp)
  intro i h1 h2
  rw [List.getElem_set]
  rw [tab_len] at h2
  split
  · rename_i h; subst h; simp [tab, hx]
  · rename_i h; simp [tab]; exact (hg i (fun e => h e.symm) h2).symm
theorem tab_zero (n : Nat) : List.replicate n (0 : Int) = tab n fun _ => 0 := by
  apply List.ext_getElem (by simp)
  intro i h1 h2
  simp [tab]
section
variable (ag : Nat → Nat → Bool) (n : Nat)
/-- The reference: which one follows i, of the last c. -/
def dnK (f : Nat → Int) (i : Nat) : Nat → Nat
  | 0 => n
  | c + 1 => if ag i (n - 1 - c) = true ∧ f (dnK f i c) ≤ f (n - 1 - c) then n - 1 - c else dnK f i c
/-- How long a line from j can be, once the last m are known. -/
def keepL : Nat → Nat → Int
  | 0, _ => 0
  | m + 1, j => if j = n - 1 - m then keepL m (dnK ag n (keepL m) (n - 1 - m) m) + 1 else keepL m j
/-- Which one follows, once the last m are known. -/
def nextL : Nat → Nat → Nat
  | 0, _ => 0
  | m + 1, j => if j = n - 1 - m then dnK ag n (keepL ag n m) (n - 1 - m) m else nextL m j
/-- The program: the greatest of the first p behind i. -/
def bestU (f : Nat → Int) (i : Nat) : Nat → Int
  | 0 => 0
  | p + 1 => if bestU f i p < f (i + 1 + p) ∧ ag i (i + 1 + p) = true then f (i + 1 + p) else bestU f i p
/-- The first one of a longest line, once the last m are known. -/
def firstL : Nat → Nat
  | 0 => n
  | m + 1 => if keepL ag n (m + 1) (firstL m) ≤ keepL ag n (m + 1) (n - 1 - m) then n - 1 - m else firstL m
variable {ag n}
theorem dnK_bd (f : Nat → Int) (i : Nat) (hi : i < n) : ∀ c, c ≤ n - 1 - i → dnK ag n f i c ≤ n ∧ (dnK ag n f i c = n ∨ (n - c ≤ dnK ag n f i c ∧ ag i (dnK ag n f i c) = true)) ∧
    (∀ k, n - c ≤ k → k < n → ag i k = true → f k ≤ f (dnK ag n f i c)) ∧ (∀ k, n - c ≤ k → k < dnK ag n f i c → ag i k = true → f k < f (dnK ag n f i c))
  | 0, _ => ⟨Nat.le_refl _, .inl rfl, fun k h1 h2 => by omega, fun k h1 h2 => by rw [show dnK ag n f i 0 = n from rfl] at h2; omega⟩
  | c + 1, hc => by
    obtain ⟨h1, h2, h3, h4⟩ := dnK_bd f i hi c (by omega)
    rw [dnK]
    by_cases h : ag i (n - 1 - c) = true ∧ f (dnK ag n f i c) ≤ f (n - 1 - c)
    · rw [if_pos h]
      refine ⟨by omega, .inr ⟨by omega, h.1⟩, fun k hk1 hk2 hk3 => ?_, fun k hk1 hk2 => by omega⟩
      by_cases hk : k = n - 1 - c
      · subst hk; exact Int.le_refl _
      · exact Int.le_trans (h3 k (by omega) hk2 hk3) h.2
    · rw [if_neg h]
      refine ⟨h1, ?_, fun k hk1 hk2 hk3 => ?_, fun k hk1 hk2 hk3 => ?_⟩
      · rcases h2 with h2 | h2
        · exact .inl h2
        · exact .inr ⟨by omega, h2.2⟩
      · by_cases hk : k = n - 1 - c
        · subst hk
          have : ¬(f (dnK ag n f i c) ≤ f (n - 1 - c)) := fun h5 => h ⟨hk3, h5⟩
          omega
        · exact h3 k (by omega) hk2 hk3
      · by_cases hk : k = n - 1 - c
        · subst hk
          have : ¬(f (dnK ag n f i c) ≤ f (n - 1 - c)) := fun h5 => h ⟨hk3, h5⟩
          omega
        · exact h4 k (by omega) hk2 hk3
theorem bestU_bd (f : Nat → Int) (i : Nat) : ∀ p, 0 ≤ bestU ag f i p ∧ (bestU ag f i p = 0 ∨ ∃ k, i < k ∧ k < i + 1 + p ∧ ag i k = true ∧ f k = bestU ag f i p) ∧ (∀ k, i < k → k < i + 1 + p → ag i k = true → f k ≤ bestU ag f i p)
  | 0 => ⟨Int.le_refl _, .inl rfl, fun k h1 h2 => by omega⟩
  | p + 1 => by
    obtain ⟨h1, h2, h3⟩ := bestU_bd f i p
    rw [bestU]
    by_cases h : bestU ag f i p < f (i + 1 + p) ∧ ag i (i + 1 + p) = true
    · rw [if_pos h]
      refine ⟨by omega, .inr ⟨i + 1 + p, by omega, by omega, h.2, rfl⟩, fun k hk1 hk2 hk3 => ?_⟩
      by_cases hk : k = i + 1 + p
      · subst hk; exact Int.le_refl _
      · have := h3 k hk1 (by omega) hk3; omega
    · rw [if_neg h]
      refine ⟨h1, ?_, fun k hk1 hk2 hk3 => ?_⟩
      · rcases h2 with h2 | ⟨k, a, b, c, d⟩
        · exact .inl h2
        · exact .inr ⟨k, a, by omega, c, d⟩
      · by_cases hk : k = i + 1 + p
        · subst hk
          have : ¬(bestU ag f i p < f (i + 1 + p)) := fun h5 => h ⟨h5, hk3⟩
          omega
        · exact h3 k hk1 (by omega) hk3
theorem keepL_high : ∀ (m j : Nat), n ≤ j → m ≤ n → keepL ag n m j = 0
  | 0, _, _, _ => rfl
  | m + 1, j, hj, hm => by rw [keepL, if_neg (by omega)]; exact keepL_high m j hj (by omega)
theorem keepL_low : ∀ (m j : Nat), j < n - m → m ≤ n → keepL ag n m j = 0
  | 0, _, _, _ => rfl
  | m + 1, j, hj, hm => by rw [keepL, if_neg (by omega)]; exact keepL_low m j (by omega) (by omega)
theorem keepL_pos : ∀ (m j : Nat), m ≤ n → 0 ≤ keepL ag n m j ∧ keepL ag n m j ≤ m ∧ (n - m ≤ j → j < n → 1 ≤ keepL ag n m j)
  | 0, _, _ => ⟨Int.le_refl _, Int.le_refl _, fun h1 h2 => by omega⟩
  | m + 1, j, hm => by
    rw [keepL]
    split
    · have := keepL_pos m (dnK ag n (keepL ag n m) (n - 1 - m) m) (by omega)
      exact ⟨by omega, by omega, fun _ _ => by omega⟩
    · have := keepL_pos m j (by omega)
      exact ⟨by omega, by omega, fun h1 h2 => this.2.2 (by omega) h2⟩
/-- The program's greatest is the reference's. -/
theorem bestU_eq {m : Nat} (hm : m < n) : bestU ag (keepL ag n m) (n - 1 - m) m = keepL ag n m (dnK ag n (keepL ag n m) (n - 1 - m) m) := by
  obtain ⟨b1, b2, b3⟩ := bestU_bd (ag := ag) (keepL ag n m) (n - 1 - m) m
  obtain ⟨d1, d2, d3, d4⟩ := dnK_bd (ag := ag) (n := n) (keepL ag n m) (n - 1 - m) (by omega) m (by omega)
  have h1 : bestU ag (keepL ag n m) (n - 1 - m) m ≤ keepL ag n m (dnK ag n (keepL ag n m) (n - 1 - m) m) := by
    rcases b2 with b2 | ⟨k, k1, k2, k3, k4⟩
    · rw [b2]; exact (keepL_pos m _ (by omega)).1
    · rw [← k4]; exact d3 k (by omega) (by omega) k3
  have h2 : keepL ag n m (dnK ag n (keepL ag n m) (n - 1 - m) m) ≤ bestU ag (keepL ag n m) (n - 1 - m) m := by
    by_cases h : dnK ag n (keepL ag n m) (n - 1 - m) m = n
    · rw [h, keepL_high m n (Nat.le_refl _) (by omega)]; exact b1
    · rcases d2 with d2 | d2
      · exact absurd d2 h
      · exact b3 _ (by omega) (by omega) d2.2
  omega
theorem keepL_stay : ∀ (m d j : Nat), m + d ≤ n → n - m ≤ j → keepL ag n (m + d) j = keepL ag n m j
  | m, 0, j, _, _ => rfl
  | m, d + 1, j, h1, h2 => by rw [show m + (d + 1) = (m + d) + 1 by omega, keepL, if_neg (by omega)]; exact keepL_stay m d j (by omega) h2
theorem nextL_stay : ∀ (m d j : Nat), m + d ≤ n → n - m ≤ j → nextL ag n (m + d) j = nextL ag n m j
  | m, 0, j, _, _ => rfl
  | m, d + 1, j, h1, h2 => by rw [show m + (d + 1) = (m + d) + 1 by omega, nextL, if_neg (by omega)]; exact nextL_stay m d j (by omega) h2
theorem nextL_high : ∀ (m j : Nat), n ≤ j → m ≤ n → nextL ag n m j = 0
  | 0, _, _, _ => rfl
  | m + 1, j, hj, hm => by rw [nextL, if_neg (by omega)]; exact nextL_high m j hj (by omega)
/-- What follows i. -/
theorem nextL_spec {i : Nat} (hi : i < n) : i < nextL ag n n i ∧ nextL ag n n i ≤ n ∧ (nextL ag n n i < n → ag i (nextL ag n n i) = true ∧ keepL ag n n (nextL ag n n i) = keepL ag n n i - 1) ∧
    (∀ k, i < k → k < nextL ag n n i → ag i k = true → keepL ag n n k ≠ keepL ag n n i - 1) := by
  obtain ⟨m, hm⟩ : ∃ m, m = n - 1 - i := ⟨_, rfl⟩
  have e1 : nextL ag n n i = dnK ag n (keepL ag n m) i m := by
    have := nextL_stay (ag := ag) (n := n) (m + 1) (n - (m + 1)) i (by omega) (by omega)
    rw [show m + 1 + (n - (m + 1)) = n by omega] at this
    rw [this, nextL, if_pos (by omega), show n - 1 - m = i by omega]
  have e2 : keepL ag n n i = keepL ag n m (dnK ag n (keepL ag n m) i m) + 1 := by
    have := keepL_stay (ag := ag) (n := n) (m + 1) (n - (m + 1)) i (by omega) (by omega)
    rw [show m + 1 + (n - (m + 1)) = n by omega] at this
    rw [this, keepL, if_pos (by omega), show n - 1 - m = i by omega]
  have e3 : ∀ k, i < k → keepL ag n n k = keepL ag n m k := by
    intro k hk
    have := keepL_stay (ag := ag) (n := n) m (n - m) k (by omega) (by omega)
    rwa [show m + (n - m) = n by omega] at this
  obtain ⟨d1, d2, d3, d4⟩ := dnK_bd (ag := ag) (n := n) (keepL ag n m) i hi m (by omega)
  rw [e1, e2]
  have hlt : i < dnK ag n (keepL ag n m) i m := by omega
  refine ⟨hlt, d1, fun h => ?_, fun k hk1 hk2 hk3 => ?_⟩
  · rcases d2 with d2 | d2
    · omega
    · exact ⟨d2.2, by rw [e3 _ hlt]; omega⟩
  · have := d4 k (by omega) hk2 hk3
    rw [e3 k hk1]
    omega
/-- The first one has the longest line, and is the first of them. -/
theorem firstL_spec : ∀ m, m ≤ n → (m = 0 ∧ firstL ag n m = n ∨ n - m ≤ firstL ag n m ∧ firstL ag n m < n) ∧ (∀ j, n - m ≤ j → j < n → keepL ag n m j ≤ keepL ag n m (firstL ag n m)) ∧ (∀ j, n - m ≤ j → j < firstL ag n m → j < n → keepL ag n m j < keepL ag n m (firstL ag n m))
  | 0, _ => ⟨.inl ⟨rfl, rfl⟩, fun j h1 h2 => by omega, fun j h1 h2 h3 => by omega⟩
  | m + 1, hm => by
    obtain ⟨h1, h2, h3⟩ := firstL_spec m (by omega)
    have st : ∀ j, n - m ≤ j → keepL ag n (m + 1) j = keepL ag n m j := fun j hj => keepL_stay m 1 j hm hj
    have sf : keepL ag n (m + 1) (firstL ag n m) = keepL ag n m (firstL ag n m) := st _ (by omega)
    rw [firstL]
    by_cases h : keepL ag n (m + 1) (firstL ag n m) ≤ keepL ag n (m + 1) (n - 1 - m)
    · rw [if_pos h]
      refine ⟨.inr ⟨by omega, by omega⟩, fun j j1 j2 => ?_, fun j j1 j2 j3 => by omega⟩
      by_cases hj : j = n - 1 - m
      · rw [hj]; exact Int.le_refl _
      · have := h2 j (by omega) j2
        rw [st j (by omega)]
        omega
    · rw [if_neg h]
      have hne : m ≠ 0 := by
        intro h0
        subst h0
        rcases h1 with h1 | h1
        · rw [h1.2] at h
          have a1 := keepL_high (ag := ag) (n := n) 1 n (Nat.le_refl _) hm
          have a2 := (keepL_pos (ag := ag) (n := n) 1 (n - 1 - 0) hm).1
          simp only [Nat.zero_add] at h
          omega
        · omega
      have hf : n - m ≤ firstL ag n m ∧ firstL ag n m < n := by
        rcases h1 with h1 | h1
        · exact absurd h1.1 hne
        · exact h1
      refine ⟨.inr ⟨by omega, hf.2⟩, fun j j1 j2 => ?_, fun j j1 j2 j3 => ?_⟩
      · by_cases hj : j = n - 1 - m
        · rw [hj]; omega
        · rw [st j (by omega), sf]; exact h2 j (by omega) j2
      · by_cases hj : j = n - 1 - m
        · rw [hj]; omega
        · rw [st j (by omega), sf]; exact h3 j (by omega) j2 j3
variable (ag n)
/-- The line from i on. -/
def chainK : Nat → Nat → List Int
  | 0, _ => []
  | f + 1, i => if i < n then (i : Int) :: chainK f (nextL ag n n i) else []
variable {ag n}
theorem chainK_stop {f i : Nat} (h : n ≤ i) : chainK ag n f i = [] := by
  cases f with
  | zero => rfl
  | succ f => rw [chainK, if_neg (by omega)]
theorem chainK_go {f i : Nat} (h : i < n) : chainK ag n (f + 1) i = (i : Int) :: chainK ag n f (nextL ag n n i) := by rw [chainK, if_pos h]
end
end Go.Proofs.Ytlbcefnbjdpljaa
