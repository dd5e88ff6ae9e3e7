/-
  Chapter 6 as plain functions: states, series. No program stands here.
-/
import Derived.Test.YtamlldedmhkobaaInts
namespace Go.Proofs.Ytamlldedmhkobaa
def inB (n a b : Int) : Bool := decide (a ≤ n) && decide (n ≤ b)
theorem inB_iff {n a b : Int} : inB n a b = true ↔ a ≤ n ∧ n ≤ b := by simp [inB]
theorem inB_not {n a b : Int} : inB n a b = false ↔ n < a ∨ b < n := by rw [← Bool.not_eq_true, inB_iff]; omega

def stepM (c s l : Int) : Int := s + (l * 1000 - s) / c
theorem stepM_bd {c s l : Int} (hc : 1 ≤ c) (hs : 0 ≤ s ∧ s ≤ 10000000) (hl : 0 ≤ l ∧ l ≤ 10000) : 0 ≤ stepM c s l ∧ stepM c s l ≤ 10000000 := by
  unfold stepM
  generalize hx : l * 1000 - s = x
  by_cases hx0 : 0 ≤ x
  · have h3 : 0 ≤ x / c := Int.ediv_nonneg hx0 (by omega)
    have h4 : x / c ≤ x := Int.ediv_le_self c hx0
    omega
  · have h3 : x / c < 0 := Int.ediv_neg_of_neg_of_pos (by omega) (by omega)
    have h4 : x ≤ x / c := by
      apply Int.le_ediv_of_mul_le (by omega)
      have : x * c ≤ x * 1 := Int.mul_le_mul_of_nonpos_left (show x ≤ 0 by omega) hc
      omega
    omega
def scanM (c : Int) : Int → List Int → List Int
  | _, [] => []
  | s, x :: r => stepM c s x :: scanM c (stepM c s x) r
def foldM (c s : Int) (xs : List Int) : Int := xs.foldl (stepM c) s
theorem scanM_snoc (c : Int) : ∀ (xs : List Int) (s x : Int), scanM c s (xs ++ [x]) = scanM c s xs ++ [stepM c (foldM c s xs) x]
  | [], s, x => rfl
  | y :: r, s, x => by simp only [List.cons_append, scanM, scanM_snoc c r]; rfl
theorem foldM_snoc (c : Int) (xs : List Int) (s x : Int) : foldM c s (xs ++ [x]) = stepM c (foldM c s xs) x := by simp [foldM]
theorem scanM_len (c : Int) : ∀ (xs : List Int) (s : Int), (scanM c s xs).length = xs.length
  | [], _ => rfl
  | x :: r, s => by simp [scanM, scanM_len c r]
theorem foldM_bd {c : Int} (hc : 1 ≤ c) : ∀ (xs : List Int) (s : Int), (0 ≤ s ∧ s ≤ 10000000) → (∀ x ∈ xs, 0 ≤ x ∧ x ≤ 10000) → 0 ≤ foldM c s xs ∧ foldM c s xs ≤ 10000000
  | [], s, hs, _ => hs
  | x :: r, s, hs, h => foldM_bd hc r _ (stepM_bd hc hs (h x (by simp))) fun y hy => h y (by simp [hy])
/-- Step: a state, and an error. -/
def stepR (s l c : Int) : Int × Int := if inB s 0 10000000 && inB l 0 10000 && inB c 1 1000 then (stepM c s l, 0) else (0, 9)
/-- Series: states, and an error. -/
def seriesR (xs : List Int) (c f : Int) : List Int × Int :=
  if 5000 < xs.length then ([], 3) else if inB f 0 10000000 && inB c 1 1000 then (if xs.all (inB · 0 10000) then (scanM c f xs, 0) else ([], 9)) else ([], 9)
theorem take_succ_get {α : Type} {xs : List α} {k : Nat} {x : α} (h : xs[k]? = some x) : xs.take (k + 1) = xs.take k ++ [x] := by
  rw [List.take_add_one, h]; rfl
theorem all_take_succ {xs : List Int} {p : Int → Bool} {k : Nat} {x : Int} (h : xs[k]? = some x) (ha : (xs.take k).all p = true) (hx : p x = true) : (xs.take (k + 1)).all p = true := by
  rw [take_succ_get h, List.all_append, ha]; simp [hx]
theorem all_false {xs : List Int} {p : Int → Bool} {k : Nat} {x : Int} (h : xs[k]? = some x) (hx : p x = false) : xs.all p = false := by
  rw [List.all_eq_false]
  exact ⟨x, List.mem_of_getElem? h, by simp [hx]⟩
theorem stepR_ok {s l c : Int} (h : (stepR s l c).2 = 0) : inB s 0 10000000 = true ∧ inB l 0 10000 = true ∧ inB c 1 1000 = true ∧ stepR s l c = (stepM c s l, 0) := by
  unfold stepR at h ⊢
  split
  · rename_i h1; simp only [Bool.and_eq_true] at h1; exact ⟨h1.1.1, h1.1.2, h1.2, rfl⟩
  · rename_i h1; rw [if_neg h1] at h; simp at h
theorem stepR_no {s l c : Int} (h : ¬ (stepR s l c).2 = 0) : (stepR s l c).2 = 9 := by
  unfold stepR at h ⊢
  split
  · rename_i h1; rw [if_pos h1] at h; simp at h
  · rfl
theorem seriesR_big {xs : List Int} {c f : Int} (h : 5000 < xs.length) : seriesR xs c f = ([], 3) := by simp [seriesR, h]
theorem seriesR_first {xs : List Int} {c f : Int} (h : ¬ 5000 < xs.length) (h2 : ¬ (stepR f 0 c).2 = 0) : seriesR xs c f = ([], 9) := by
  unfold seriesR
  rw [if_neg h]
  split
  · rename_i h1
    exfalso; apply h2
    simp only [Bool.and_eq_true] at h1
    unfold stepR; rw [if_pos (by rw [h1.1, h1.2]; rfl)]
  · rfl
theorem seriesR_bad {xs : List Int} {c f x : Int} {k : Nat} (h : ¬ 5000 < xs.length) (hx : xs[k]? = some x) (h2 : inB x 0 10000 = false) : seriesR xs c f = ([], 9) := by
  have := all_false (p := (inB · 0 10000)) hx h2
  unfold seriesR
  rw [if_neg h, this]
  split <;> simp
theorem seriesR_good {xs : List Int} {c f : Int} (h : ¬ 5000 < xs.length) (h2 : (stepR f 0 c).2 = 0) (ha : xs.all (inB · 0 10000) = true) : seriesR xs c f = (scanM c f xs, 0) := by
  obtain ⟨h3, _, h4, _⟩ := stepR_ok h2
  unfold seriesR
  rw [if_neg h, h3, h4, ha]; simp
/-! ### more load is no less state -/
theorem stepM_mono {c s t l m : Int} (hc : 1 ≤ c) (hs : s ≤ t) (hl : l ≤ m) : stepM c s l ≤ stepM c t m := by
  unfold stepM
  have h1 : (l * 1000 - s) / c ≤ (m * 1000 - t + (t - s)) / c := Int.ediv_le_ediv (by omega) (by omega)
  have h2 : (m * 1000 - t + (t - s)) / c ≤ (m * 1000 - t) / c + (t - s) := by
    have h3 : m * 1000 - t + (t - s) ≤ m * 1000 - t + (t - s) * c := by
      have : (t - s) * 1 ≤ (t - s) * c := Int.mul_le_mul_of_nonneg_left hc (by omega)
      omega
    have h4 := Int.ediv_le_ediv (show (0:Int) < c by omega) h3
    rw [Int.add_mul_ediv_right _ _ (by omega)] at h4
    exact h4
  omega
theorem scanM_mono {c : Int} (hc : 1 ≤ c) : ∀ (xs ys : List Int) (s t : Int), xs.length = ys.length → s ≤ t → (∀ (i : Nat) (x y : Int), xs[i]? = some x → ys[i]? = some y → x ≤ y) →
    ∀ (i : Nat) (x y : Int), (scanM c s xs)[i]? = some x → (scanM c t ys)[i]? = some y → x ≤ y
  | [], _, s, t, _, _, _, i, x, y, hx, _ => by simp [scanM] at hx
  | x0 :: r, [], s, t, hl, _, _, i, x, y, _, _ => by simp at hl
  | x0 :: r, y0 :: q, s, t, hl, hst, h, i, x, y, hx, hy => by
    have h0 : stepM c s x0 ≤ stepM c t y0 := stepM_mono hc hst (h 0 x0 y0 rfl rfl)
    cases i with
    | zero => simp [scanM] at hx hy; omega
    | succ i =>
      simp only [scanM, List.getElem?_cons_succ] at hx hy
      exact scanM_mono hc r q _ _ (by simpa using hl) h0 (fun j a b ha hb => h (j + 1) a b (by simpa using ha) (by simpa using hb)) i x y hx hy
theorem scanM_same {c : Int} : ∀ (xs : List Int) (s v : Int) (d i : Nat), i < d → (scanM c s (xs.set d v))[i]? = (scanM c s xs)[i]?
  | [], s, v, d, i, _ => by simp
  | x :: r, s, v, 0, i, h => by omega
  | x :: r, s, v, d + 1, 0, _ => by simp [scanM]
  | x :: r, s, v, d + 1, i + 1, h => by
    simp only [List.set_cons_succ, scanM, List.getElem?_cons_succ]
    exact scanM_same r _ v d i (by omega)
theorem all_set {xs : List Int} {p : Int → Bool} {d : Nat} {v : Int} (ha : xs.all p = true) (hv : p v = true) : (xs.set d v).all p = true := by
  rw [List.all_eq_true] at ha ⊢
  intro x hx
  rcases List.mem_or_eq_of_mem_set hx with h | h
  · exact ha x h
  · subst h; exact hv
theorem seriesR_inv {xs : List Int} {c f : Int} (h : (seriesR xs c f).2 = 0) : ¬ 5000 < xs.length ∧ inB f 0 10000000 = true ∧ inB c 1 1000 = true ∧ xs.all (inB · 0 10000) = true ∧ seriesR xs c f = (scanM c f xs, 0) := by
  unfold seriesR at h ⊢
  by_cases h1 : 5000 < xs.length
  · rw [if_pos h1] at h; simp at h
  · rw [if_neg h1] at h ⊢
    by_cases h2 : (inB f 0 10000000 && inB c 1 1000) = true
    · rw [if_pos h2] at h ⊢
      by_cases h3 : xs.all (inB · 0 10000) = true
      · rw [if_pos h3] at h ⊢
        simp only [Bool.and_eq_true] at h2
        exact ⟨h1, h2.1, h2.2, h3, rfl⟩
      · rw [if_neg h3] at h; simp at h
    · rw [if_neg h2] at h; simp at h
theorem seriesR_intro {xs : List Int} {c f : Int} (h1 : ¬ 5000 < xs.length) (h2 : inB f 0 10000000 = true) (h3 : inB c 1 1000 = true) (h4 : xs.all (inB · 0 10000) = true) : seriesR xs c f = (scanM c f xs, 0) := by
  unfold seriesR; rw [if_neg h1, h2, h3, h4]; simp
theorem more_ge {c f m x u v : Int} {d k : Nat} {xs : List Int} (hc : 1 ≤ c) (hx : xs[d]? = some x) (hm : 0 ≤ m) (hu : (scanM c f (xs.set d (x + m)))[k]? = some u) (hv : (scanM c f xs)[k]? = some v) : v ≤ u := by
  refine scanM_mono hc xs (xs.set d (x + m)) f f (by simp) (by omega) ?_ k v u hv hu
  intro i y z hy hz
  rw [List.getElem?_set] at hz
  by_cases h : d = i
  · subst h
    rw [if_pos rfl] at hz
    rw [hx] at hy
    cases hy
    split at hz <;> simp at hz
    omega
  · rw [if_neg h, hy] at hz
    cases hz
    omega
theorem more_same {c f m x u v : Int} {d k : Nat} {xs : List Int} (hk : k < d) (hu : (scanM c f (xs.set d (x + m)))[k]? = some u) (hv : (scanM c f xs)[k]? = some v) : u = v := by
  rw [scanM_same xs f _ d k hk, hv] at hu
  cases hu; rfl
end Go.Proofs.Ytamlldedmhkobaa
