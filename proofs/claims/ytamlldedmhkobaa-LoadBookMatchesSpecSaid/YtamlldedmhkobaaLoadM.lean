/-
  Chapter 6 as plain functions: states, series. No program stands here.
-/
import Derived.Test.YtamlldedmhkobaaLists
namespace Go.Proofs.Ytamlldedmhkobaa
def stepM (c s l : Int) : Int := s + (l * 1000 - s) / c
theorem stepM_bd {c s l : Int} (hc : 1 ≤ c) (hs : 0 ≤ s ∧ s ≤ 10000000) (hl : 0 ≤ l ∧ l ≤ 10000) : 0 ≤ stepM c s l ∧ stepM c s l ≤ 10000000 := by
  unfold stepM
  generalize hx : l * 1000 - s = x
  by_cases hx0 : 0 ≤ x
  · have h3 : 0 ≤ x / c := Int.ediv_nonneg hx0 (by omega)
    have h4 : x / c ≤ x := Int.ediv_le_self c hx0
    omega
  · have h3 : x / c < 0 := Int.ediv_neg_of_neg_of_pos (by omega) (by omega)
    have h4 : x ≤ x / c := by
      apply Int.le_ediv_of_mul_le (by omega)
      have : x * c ≤ x * 1 := Int.mul_le_mul_of_nonpos_left (show x ≤ 0 by omega) hc
      omega
    omega
def scanM (c : Int) : Int → List Int → List Int
  | _, [] => []
  | s, x :: r => stepM c s x :: scanM c (stepM c s x) r
def foldM (c s : Int) (xs : List Int) : Int := xs.foldl (stepM c) s
theorem scanM_snoc (c : Int) : ∀ (xs : List Int) (s x : Int), scanM c s (xs ++ [x]) = scanM c s xs ++ [stepM c (foldM c s xs) x]
  | [], s, x => rfl
  | y :: r, s, x => by simp only [List.cons_append, scanM, scanM_snoc c r]; rfl
theorem foldM_snoc (c : Int) (xs : List Int) (s x : Int) : foldM c s (xs ++ [x]) = stepM c (foldM c s xs) x := by simp [foldM]
theorem scanM_len (c : Int) : ∀ (xs : List Int) (s : Int), (scanM c s xs).length = xs.length
  | [], _ => rfl
  | x :: r, s => by simp [scanM, scanM_len c r]
theorem foldM_bd {c : Int} (hc : 1 ≤ c) : ∀ (xs : List Int) (s : Int), (0 ≤ s ∧ s ≤ 10000000) → (∀ x ∈ xs, 0 ≤ x ∧ x ≤ 10000) → 0 ≤ foldM c s xs ∧ foldM c s xs ≤ 10000000
  | [], s, hs, _ => hs
  | x :: r, s, hs, h => foldM_bd hc r _ (stepM_bd hc hs (h x (by simp))) fun y hy => h y (by simp [hy])
/-- Step: a state, and an error. -/
def stepR (s l c : Int) : Int × Int := if inB s 0 10000000 && inB l 0 10000 && inB c 1 1000 then (stepM c s l, 0) else (0, 9)
/-- Series: states, and an error. -/
def seriesR (xs : List Int) (c f : Int) : List Int × Int :=
  if 5000 < xs.length then ([], 3) else if inB f 0 10000000 && inB c 1 1000 then (if xs.all (inB · 0 10000) then (scanM c f xs, 0) else ([], 9)) else ([], 9)
theorem stepR_ok {s l c : Int} (h : (stepR s l c).2 = 0) : inB s 0 10000000 = true ∧ inB l 0 10000 = true ∧ inB c 1 1000 = true ∧ stepR s l c = (stepM c s l, 0) := by
  unfold stepR at h ⊢
  split
  · rename_i h1; simp only [Bool.and_eq_true] at h1; exact ⟨h1.1.1, h1.1.2, h1.2, rfl⟩
  · rename_i h1; rw [if_neg h1] at h; simp at h
theorem stepR_no {s l c : Int} (h : ¬ (stepR s l c).2 = 0) : (stepR s l c).2 = 9 := by
  unfold stepR at h ⊢
  split
  · rename_i h1; rw [if_pos h1] at h; simp at h
  · rfl
theorem seriesR_big {xs : List Int} {c f : Int} (h : 5000 < xs.length) : seriesR xs c f = ([], 3) := by simp [seriesR, h]
theorem seriesR_first {xs : List Int} {c f : Int} (h : ¬ 5000 < xs.length) (h2 : ¬ (stepR f 0 c).2 = 0) : seriesR xs c f = ([], 9) := by
  unfold seriesR
  rw [if_neg h]
  split
  · rename_i h1
    exfalso; apply h2
    simp only [Bool.and_eq_true] at h1
    unfold stepR; rw [if_pos (by rw [h1.1, h1.2]; rfl)]
  · rfl
theorem seriesR_bad {xs : List Int} {c f x : Int} {k : Nat} (h : ¬ 5000 < xs.length) (hx : xs[k]? = some x) (h2 : inB x 0 10000 = false) : seriesR xs c f = ([], 9) := by
  have := all_false (p := (inB · 0 10000)) hx h2
  unfold seriesR
  rw [if_neg h, this]
  split <;> simp
theorem seriesR_good {xs : List Int} {c f : Int} (h : ¬ 5000 < xs.length) (h2 : (stepR f 0 c).2 = 0) (ha : xs.all (inB · 0 10000) = true) : seriesR xs c f = (scanM c f xs, 0) := by
  obtain ⟨h3, _, h4, _⟩ := stepR_ok h2
  unfold seriesR
  rw [if_neg h, h3, h4, ha]; simp
/-! ### more load is no less state -/
theorem stepM_mono {c s t l m : Int} (hc : 1 ≤ c) (hs : s ≤ t) (hl : l ≤ m) : stepM c s l ≤ stepM c t m := by
  unfold stepM
  have h1 : (l * 1000 - s) / c ≤ (m * 1000 - t + (t - s)) / c := Int.ediv_le_ediv (by omega) (by omega)
  have h2 : (m * 1000 - t + (t - s)) / c ≤ (m * 1000 - t) / c + (t - s) := by
    have h3 : m * 1000 - t + (t - s) ≤ m * 1000 - t + (t - s) * c := by
      have : (t - s) * 1 ≤ (t - s) * c := Int.mul_le_mul_of_nonneg_left hc (by omega)
      omega
    have h4 := Int.ediv_le_ediv (show (0:Int) < c by omega) h3
    rw [Int.add_mul_ediv_right _ _ (by omega)] at h4
    exact h4
  omega
theorem scanM_mono {c : Int} (hc : 1 ≤ c) : ∀ (xs ys : List Int) (s t : Int), xs.length = ys.length → s ≤ t → (∀ (i : Nat) (x y : Int), xs[i]? = some x → ys[i]? = some y → x ≤ y) →
    ∀ (i : Nat) (x y : Int), (scanM c s xs)[i]? = some x → (scanM c t ys)[i]? = some y → x ≤ y
  | [], _, s, t, _, _, _, i, x, y, hx, _ => by simp [scanM] at hx
  | x0 :: r, [], s, t, hl, _, _, i, x, y, _, _ => by simp at hl
  | x0 :: r, y0 :: q, s, t, hl, hst, h, i, x, y, hx, hy => by
    have h0 : stepM c s x0 ≤ stepM c t y0 := stepM_mono hc hst (h 0 x0 y0 rfl rfl)
    cases i with
    | zero => simp [scanM] at hx hy; omega
    | succ i =>
      simp only [scanM, List.getElem?_cons_succ] at hx hy
      exact scanM_mono hc r q _ _ (by simpa using hl) h0 (fun j a b ha hb => h (j + 1) a b (by simpa using ha) (by simpa using hb)) i x y hx hy
theorem scanM_same {c : Int} : ∀ (xs : List Int) (s v : Int) (d i : Nat), i < d → (scanM c s (xs.set d v))[i]? = (scanM c s xs)[i]?
  | [], s, v, d, i, _ => by simp
  | x :: r, s, v, 0, i, h => by omega
  | x :: r, s, v, d + 1, 0, _ => by simp [scanM]
  | x :: r, s, v, d + 1, i + 1, h => by
    simp only [List.set_cons_succ, scanM, List.getElem?_cons_succ]
    exact scanM_same r _ v d i (by omega)
theorem all_set {xs : List Int} {p : Int → Bool} {d : Nat} {v : Int} (ha : xs.all p = true) (hv : p v = true) : (xs.set d v).all p = true := by
  rw [List.all_eq_true] at ha ⊢
  intro x hx
  rcases List.mem_or_eq_of_mem_set hx with h | h
  · exact ha x h
  · subst h; exact hv
theorem seriesR_inv {xs : List Int} {c f : Int} (h : (seriesR xs c f).2 = 0) : ¬ 5000 < xs.length ∧ inB f 0 10000000 = true ∧ inB c 1 1000 = true ∧ xs.all (inB · 0 10000) = true ∧ seriesR xs c f = (scanM c f xs, 0) := by
  unfold seriesR at h ⊢
  by_cases h1 : 5000 < xs.length
  · rw [if_pos h1] at h; simp at h
  · rw [if_neg h1] at h ⊢
    by_cases h2 : (inB f 0 10000000 && inB c 1 1000) = true
    · rw [if_pos h2] at h ⊢
      by_cases h3 : xs.all (inB · 0 10000) = true
      · rw [if_pos h3] at h ⊢
        simp only [Bool.and_eq_true] at h2
        exact ⟨h1, h2.1, h2.2, h3, rfl⟩
      · rw [if_neg h3] at h; simp at h
    · rw [if_neg h2] at h; simp at h
theorem seriesR_intro {xs : List Int} {c f : Int} (h1 : ¬ 5000 < xs.length) (h2 : inB f 0 10000000 = true) (h3 : inB c 1 1000 = true) (h4 : xs.all (inB · 0 10000) = true) : seriesR xs c f = (scanM c f xs, 0) := by
  unfold seriesR; rw [if_neg h1, h2, h3, h4]; simp
theorem more_ge {c f m x u v : Int} {d k : Nat} {xs : List Int} (hc : 1 ≤ c) (hx : xs[d]? = some x) (hm : 0 ≤ m) (hu : (scanM c f (xs.set d (x + m)))[k]? = some u) (hv : (scanM c f xs)[k]? = some v) : v ≤ u := by
  refine scanM_mono hc xs (xs.set d (x + m)) f f (by simp) (by omega) ?_ k v u hv hu
  intro i y z hy hz
  rw [List.getElem?_set] at hz
  by_cases h : d = i
  · subst h
    rw [if_pos rfl] at hz
    rw [hx] at hy
    cases hy
    split at hz <;> simp at hz
    omega
  · rw [if_neg h, hy] at hz
    cases hz
    omega
theorem more_same {c f m x u v : Int} {d k : Nat} {xs : List Int} (hk : k < d) (hu : (scanM c f (xs.set d (x + m)))[k]? = some u) (hv : (scanM c f xs)[k]? = some v) : u = v := by
  rw [scanM_same xs f _ d k hk, hv] at hu
  cases hu; rfl
/-! ### the least of those that are enough -/
def leastP (p : Int → Bool) : Nat → Nat
  | 0 => 0
  | n + 1 => if leastP p n < n then leastP p n else if p n then n else n + 1
theorem leastP_eq {p : Int → Bool} : ∀ {n i : Nat}, i ≤ n → (∀ j : Nat, j < i → p j = false) → (i < n → p i = true) → leastP p n = i
  | 0, i, h, _, _ => by simp [leastP]; omega
  | n + 1, i, h, h1, h2 => by
    unfold leastP
    by_cases hi : i < n
    · rw [leastP_eq (n := n) (i := i) (by omega) h1 (fun _ => h2 (by omega)), if_pos hi]
    · have h3 : leastP p n = n := leastP_eq (Nat.le_refl _) (fun j hj => h1 j (by omega)) (fun h => by omega)
      rw [h3, if_neg (by omega)]
      by_cases h4 : i = n
      · subst h4; rw [if_pos (h2 (by omega))]
      · have : i = n + 1 := by omega
        rw [if_neg (by rw [h1 n (by omega)]; simp), this]
theorem leastP_le (p : Int → Bool) : ∀ n, leastP p n ≤ n
  | 0 => by simp [leastP]
  | n + 1 => by unfold leastP; have := leastP_le p n; split <;> (try split) <;> omega
theorem leastP_mono {p : Int → Bool} {n i : Nat} (hp : ∀ a b : Int, 0 ≤ a → a ≤ b → b < n → p a = true → p b = true) (hi : i ≤ n) (h1 : i = 0 ∨ p ((i : Int) - 1) = false) (h2 : i = n ∨ p i = true) : leastP p n = i := by
  refine leastP_eq hi (fun j hj => ?_) (fun h => by rcases h2 with h2 | h2; omega; exact h2)
  rcases h1 with h1 | h1
  · omega
  · cases hq : p j with
    | false => rfl
    | true => rw [hp j ((i : Int) - 1) (by omega) (by omega) (by omega) hq] at h1; simp at h1
/-- The state behind so many days with one load. -/
def behindM (c f x : Int) (d : Nat) : Int := foldM c f (List.replicate d x)
theorem behindM_succ (c f x : Int) (d : Nat) : behindM c f x (d + 1) = stepM c (behindM c f x d) x := by
  unfold behindM; rw [List.replicate_succ', foldM_snoc]
theorem behindM_bd {c f x : Int} (hc : 1 ≤ c) (hf : 0 ≤ f ∧ f ≤ 10000000) (hx : 0 ≤ x ∧ x ≤ 10000) (d : Nat) : 0 ≤ behindM c f x d ∧ behindM c f x d ≤ 10000000 :=
  foldM_bd hc _ _ hf fun y hy => by rw [List.eq_of_mem_replicate hy]; exact hx
theorem behindM_mono {c f x y : Int} (hc : 1 ≤ c) (h : x ≤ y) : ∀ d, behindM c f x d ≤ behindM c f y d
  | 0 => by simp [behindM, foldM]
  | d + 1 => by rw [behindM_succ, behindM_succ]; exact stepM_mono hc (behindM_mono hc h d) h
def enough (c f : Int) (d : Nat) (aim : Int) (x : Int) : Bool := decide (aim ≤ behindM c f x d)
theorem enough_mono {c f aim : Int} {d : Nat} (hc : 1 ≤ c) {a b : Int} (h : a ≤ b) (ha : enough c f d aim a = true) : enough c f d aim b = true := by
  unfold enough at ha ⊢
  have := behindM_mono (f := f) hc h d
  simp at ha ⊢; omega
/-- Needed: a load, whether there is one, an error. -/
def neededR (f c d aim : Int) : Int × Bool × Int :=
  if (inB f 0 10000000 && inB c 1 1000) = false then (0, false, 9) else if (inB d 0 5000 && inB aim 0 10000000) = false then (0, false, 9)
  else if leastP (enough c f d.toNat aim) 10001 = 10001 then (0, false, 0) else (leastP (enough c f d.toNat aim) 10001, true, 0)
theorem stepR_fault {f c : Int} (h : ¬ (stepR f 0 c).2 = 0) : (inB f 0 10000000 && inB c 1 1000) = false := by
  cases hq : (inB f 0 10000000 && inB c 1 1000) with
  | false => rfl
  | true =>
    exfalso; apply h
    unfold stepR
    rw [Bool.and_eq_true] at hq
    rw [if_pos (by rw [hq.1, hq.2]; rfl)]
theorem neededR_1 {f c d aim : Int} (h : (inB f 0 10000000 && inB c 1 1000) = false) : neededR f c d aim = (0, false, 9) := if_pos h
theorem neededR_2 {f c d aim : Int} (h : (inB f 0 10000000 && inB c 1 1000) = true) (h2 : (inB d 0 5000 && inB aim 0 10000000) = false) : neededR f c d aim = (0, false, 9) := by
  unfold neededR; rw [h, h2]; rfl
theorem neededR_3 {f c d aim : Int} (h : (inB f 0 10000000 && inB c 1 1000) = true) (h2 : (inB d 0 5000 && inB aim 0 10000000) = true) (h3 : leastP (enough c f d.toNat aim) 10001 = 10001) : neededR f c d aim = (0, false, 0) := by
  unfold neededR; rw [h, h2, h3]; rfl
theorem neededR_4 {f c d aim : Int} {i : Nat} (h : (inB f 0 10000000 && inB c 1 1000) = true) (h2 : (inB d 0 5000 && inB aim 0 10000000) = true) (h3 : leastP (enough c f d.toNat aim) 10001 = i) (h4 : i ≠ 10001) : neededR f c d aim = ((i : Int), true, 0) := by
  unfold neededR; rw [h, h2, h3]; simp [h4]
theorem leastP_before {p : Int → Bool} : ∀ {n j : Nat}, j < leastP p n → p j = false
  | 0, j, h => by simp [leastP] at h
  | n + 1, j, h => by
    unfold leastP at h
    by_cases h1 : leastP p n < n
    · rw [if_pos h1] at h; exact leastP_before h
    · rw [if_neg h1] at h
      have h2 := leastP_le p n
      by_cases h3 : p n = true
      · rw [if_pos h3] at h; exact leastP_before (n := n) (by omega)
      · rw [if_neg h3] at h
        by_cases h4 : j = n
        · subst h4; simpa using h3
        · exact leastP_before (n := n) (by omega)
theorem leastP_at {p : Int → Bool} : ∀ {n : Nat}, leastP p n < n → p (leastP p n) = true
  | 0, h => by omega
  | n + 1, h => by
    unfold leastP at h ⊢
    by_cases h1 : leastP p n < n
    · rw [if_pos h1]; exact leastP_at h1
    · rw [if_neg h1] at h ⊢
      by_cases h3 : p n = true
      · rw [if_pos h3]; exact h3
      · rw [if_neg h3] at h; omega
/-- What is told, once there is a load: it is enough, and one less is not. -/
theorem neededR_ok {f c d aim : Int} (h : (neededR f c d aim).2.1 = true) : (inB f 0 10000000 = true ∧ inB c 1 1000 = true ∧ inB d 0 5000 = true) ∧ 0 ≤ (neededR f c d aim).1 ∧ (neededR f c d aim).1 ≤ 10000 ∧ aim ≤ behindM c f (neededR f c d aim).1 d.toNat ∧
    ((neededR f c d aim).1 = 0 ∨ behindM c f ((neededR f c d aim).1 - 1) d.toNat < aim) := by
  by_cases h1 : (inB f 0 10000000 && inB c 1 1000) = false
  · rw [neededR_1 h1] at h; simp at h
  · have h1' : (inB f 0 10000000 && inB c 1 1000) = true := by simpa using h1
    by_cases h2 : (inB d 0 5000 && inB aim 0 10000000) = false
    · rw [neededR_2 h1' h2] at h; simp at h
    · have h2' : (inB d 0 5000 && inB aim 0 10000000) = true := by simpa using h2
      by_cases h3 : leastP (enough c f d.toNat aim) 10001 = 10001
      · rw [neededR_3 h1' h2' h3] at h; simp at h
      · rw [neededR_4 h1' h2' rfl h3]
        have h4 := leastP_le (enough c f d.toNat aim) 10001
        have h5 := leastP_at (p := enough c f d.toNat aim) (n := 10001) (by omega)
        rw [Bool.and_eq_true] at h1' h2'
        have h7 : ∀ j : Nat, j < leastP (enough c f d.toNat aim) 10001 → enough c f d.toNat aim j = false := fun j hj => leastP_before hj
        generalize leastP (enough c f d.toNat aim) 10001 = L at h3 h4 h5 h7
        have h5' : aim ≤ behindM c f L d.toNat := by simpa [enough] using h5
        refine ⟨⟨h1'.1, h1'.2, h2'.1⟩, by simp, by simp; omega, h5', ?_⟩
        by_cases h6 : L = 0
        · left; simp [h6]
        · right
          have h8 := h7 (L - 1) (by omega)
          have h9 : (((L - 1 : Nat)) : Int) = (L : Int) - 1 := by omega
          unfold enough at h8
          rw [h9] at h8
          simpa using h8
end Go.Proofs.Ytamlldedmhkobaa
