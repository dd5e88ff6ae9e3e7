/-
  How far two lists of places are apart. No program stands here.
-/
import Derived.Test.YtbbhcffkleplnaaSegM
import Derived.Test.YtbbhcffkleplnaaTabM
namespace Go.Proofs.Ytbbhcffkleplnaa
set_option linter.unusedVariables false
structure PtR where
  x : Int
  y : Int
def far2 (p q : PtR) : Int := (p.x - q.x) * (p.x - q.x) + (p.y - q.y) * (p.y - q.y)
theorem sq_nonneg (a : Int) : 0 ≤ a * a := by
  by_cases h : 0 ≤ a
  · exact Int.mul_nonneg h h
  · have := Int.mul_nonneg (show 0 ≤ -a by omega) (show 0 ≤ -a by omega); rwa [Int.neg_mul_neg] at this
theorem sq_symm (a b : Int) : (a - b) * (a - b) = (b - a) * (b - a) := by rw [← Int.neg_mul_neg, Int.neg_sub]
theorem far2_nonneg (p q : PtR) : 0 ≤ far2 p q := Int.add_nonneg (sq_nonneg _) (sq_nonneg _)
theorem far2_symm (p q : PtR) : far2 p q = far2 q p := by unfold far2; rw [sq_symm p.x, sq_symm p.y]
theorem far2_self (p : PtR) : far2 p p = 0 := by unfold far2; rw [Int.sub_self, Int.sub_self]; rfl
def dAt (l m : List PtR) (i k : Nat) : Int := match l[i]?, m[k]? with
  | some p, some q => far2 p q
  | _, _ => 0
theorem dAt_eq {l m : List PtR} {i k : Nat} {p q : PtR} (hp : l[i]? = some p) (hq : m[k]? = some q) : dAt l m i k = far2 p q := by unfold dAt; rw [hp, hq]
theorem dAt_nonneg (l m : List PtR) (i k : Nat) : 0 ≤ dAt l m i k := by
  unfold dAt; split
  · exact far2_nonneg _ _
  · exact Int.le_refl _
theorem dAt_symm (l m : List PtR) (i k : Nat) : dAt l m i k = dAt m l k i := by
  unfold dAt
  cases l[i]? <;> cases m[k]? <;> first | rfl | exact far2_symm _ _
def fr (d : Nat → Nat → Int) (i k : Nat) : Int := match i, k with
  | 0, 0 => d 0 0
  | 0, k + 1 => max (d 0 (k + 1)) (fr d 0 k)
  | i + 1, 0 => max (d (i + 1) 0) (fr d i 0)
  | i + 1, k + 1 => max (d (i + 1) (k + 1)) (min (min (fr d i k) (fr d i (k + 1))) (fr d (i + 1) k))
termination_by i + k
/-- Steps of both, each to the next place or not, at places that are right. -/
inductive Pa (ok : Nat → Nat → Prop) : Nat → Nat → Nat → Nat → Prop
  | one {i k : Nat} : ok i k → Pa ok i k i k
  | r {i k x y : Nat} : Pa ok i k x y → ok (x + 1) y → Pa ok i k (x + 1) y
  | u {i k x y : Nat} : Pa ok i k x y → ok x (y + 1) → Pa ok i k x (y + 1)
  | d {i k x y : Nat} : Pa ok i k x y → ok (x + 1) (y + 1) → Pa ok i k (x + 1) (y + 1)
section
variable {ok : Nat → Nat → Prop}
theorem Pa.first {i k x y : Nat} (h : Pa ok i k x y) : ok i k := by
  induction h <;> assumption
theorem Pa.last {i k x y : Nat} (h : Pa ok i k x y) : ok x y := by
  cases h <;> assumption
theorem Pa.fr {i k x y : Nat} (h : Pa ok (i + 1) k x y) (h0 : ok i k) : Pa ok i k x y := by
  generalize hj : i + 1 = j at h
  induction h with
  | one h1 => subst hj; exact .r (.one h0) h1
  | r _ h1 ih => exact .r ih h1
  | u _ h1 ih => exact .u ih h1
  | d _ h1 ih => exact .d ih h1
theorem Pa.fu {i k x y : Nat} (h : Pa ok i (k + 1) x y) (h0 : ok i k) : Pa ok i k x y := by
  generalize hj : k + 1 = j at h
  induction h with
  | one h1 => subst hj; exact .u (.one h0) h1
  | r _ h1 ih => exact .r ih h1
  | u _ h1 ih => exact .u ih h1
  | d _ h1 ih => exact .d ih h1
theorem Pa.fd {i k x y : Nat} (h : Pa ok (i + 1) (k + 1) x y) (h0 : ok i k) : Pa ok i k x y := by
  generalize hj : i + 1 = j at h
  generalize hj' : k + 1 = j' at h
  induction h with
  | one h1 => subst hj; subst hj'; exact .d (.one h0) h1
  | r _ h1 ih => exact .r ih h1
  | u _ h1 ih => exact .u ih h1
  | d _ h1 ih => exact .d ih h1
theorem Pa.back {ok' : Nat → Nat → Prop} {I K i k x y : Nat} (h : Pa ok i k x y) (hx : x ≤ I) (hy : y ≤ K) (ho : ∀ a b, a ≤ I → b ≤ K → ok a b → ok' (I - a) (K - b)) : Pa ok' (I - x) (K - y) (I - i) (K - k) := by
  induction h with
  | one h1 => exact .one (ho _ _ hx hy h1)
  | @r x y _ h1 ih =>
    have := ih (by omega) hy
    rw [show I - x = I - (x + 1) + 1 by omega] at this
    exact this.fr (ho _ _ hx hy h1)
  | @u x y _ h1 ih =>
    have := ih hx (by omega)
    rw [show K - y = K - (y + 1) + 1 by omega] at this
    exact this.fu (ho _ _ hx hy h1)
  | @d x y _ h1 ih =>
    have := ih (by omega) (by omega)
    rw [show I - x = I - (x + 1) + 1 by omega, show K - y = K - (y + 1) + 1 by omega] at this
    exact this.fd (ho _ _ hx hy h1)
theorem Pa.sym {ok' : Nat → Nat → Prop} {i k x y : Nat} (h : Pa ok i k x y) (ho : ∀ a b, ok a b → ok' b a) : Pa ok' k i y x := by
  induction h with
  | one h1 => exact .one (ho _ _ h1)
  | r _ h1 ih => exact .u ih (ho _ _ h1)
  | u _ h1 ih => exact .r ih (ho _ _ h1)
  | d _ h1 ih => exact .d ih (ho _ _ h1)
end
theorem fr_to {d : Nat → Nat → Int} {t : Int} : ∀ (n i k : Nat), i + k = n → fr d i k ≤ t → Pa (fun a b => d a b ≤ t) 0 0 i k
  | n, 0, 0, _, h => .one (by rw [fr] at h; exact h)
  | n + 1, 0, k + 1, hn, h => by
    rw [fr] at h
    exact .u (fr_to n 0 k (by omega) (by omega)) (by show d _ _ ≤ t; omega)
  | n + 1, i + 1, 0, hn, h => by
    rw [fr] at h
    exact .r (fr_to n i 0 (by omega) (by omega)) (by show d _ _ ≤ t; omega)
  | n + 2, i + 1, k + 1, hn, h => by
    rw [fr] at h
    have h0 : d (i + 1) (k + 1) ≤ t := by omega
    by_cases h1 : fr d i k ≤ t
    · exact .d (fr_to n i k (by omega) h1) h0
    · by_cases h2 : fr d i (k + 1) ≤ t
      · exact .r (fr_to (n + 1) i (k + 1) (by omega) h2) h0
      · exact .u (fr_to (n + 1) (i + 1) k (by omega) (by omega)) h0
  | 0, 0, _ + 1, hn, _ => by omega
  | 0, _ + 1, _, hn, _ => by omega
  | 1, _ + 1, _ + 1, hn, _ => by omega
theorem fr_r (d : Nat → Nat → Int) (x y : Nat) : fr d (x + 1) y ≤ max (d (x + 1) y) (fr d x y) := by
  cases y with
  | zero => rw [fr]; exact Int.le_refl _
  | succ y => rw [fr]; omega
theorem fr_u (d : Nat → Nat → Int) (x y : Nat) : fr d x (y + 1) ≤ max (d x (y + 1)) (fr d x y) := by
  cases x with
  | zero => rw [fr]; exact Int.le_refl _
  | succ x => rw [fr]; omega
theorem fr_d (d : Nat → Nat → Int) (x y : Nat) : fr d (x + 1) (y + 1) ≤ max (d (x + 1) (y + 1)) (fr d x y) := by rw [fr]; omega
theorem fr_of {d : Nat → Nat → Int} {t : Int} {i k x y : Nat} (h : Pa (fun a b => d a b ≤ t) i k x y) (hi : i = 0) (hk : k = 0) : fr d x y ≤ t := by
  subst hi; subst hk
  induction h with
  | one h1 => rw [fr]; exact h1
  | @r x y _ h1 ih => have := ih; have h2 : d (x + 1) y ≤ t := h1; have := fr_r d x y; omega
  | @u x y _ h1 ih => have := ih; have h2 : d x (y + 1) ≤ t := h1; have := fr_u d x y; omega
  | @d x y _ h1 ih => have := ih; have h2 : d (x + 1) (y + 1) ≤ t := h1; have := fr_d d x y; omega
theorem fr_first (d : Nat → Nat → Int) (i k : Nat) : d 0 0 ≤ fr d i k := (fr_to _ i k rfl (Int.le_refl _)).first
theorem fr_last (d : Nat → Nat → Int) (i k : Nat) : d i k ≤ fr d i k := (fr_to _ i k rfl (Int.le_refl _)).last
theorem fr_symm {d d' : Nat → Nat → Int} (h : ∀ i k, d i k = d' k i) (i k : Nat) : fr d i k = fr d' k i := by
  apply Int.le_antisymm
  · exact fr_of ((fr_to _ k i rfl (Int.le_refl (fr d' k i))).sym (ok' := fun a b => d a b ≤ fr d' k i) fun a b hab => by rw [h]; exact hab) rfl rfl
  · exact fr_of ((fr_to _ i k rfl (Int.le_refl (fr d i k))).sym (ok' := fun a b => d' a b ≤ fr d i k) fun a b hab => by rw [← h]; exact hab) rfl rfl
theorem fr_back_le {d d' : Nat → Nat → Int} {I K : Nat} (h : ∀ i k, i ≤ I → k ≤ K → d' (I - i) (K - k) = d i k) : fr d' I K ≤ fr d I K := by
  have := (fr_to _ I K rfl (Int.le_refl (fr d I K))).back (ok' := fun a b => d' a b ≤ fr d I K) (Nat.le_refl _) (Nat.le_refl _) fun a b ha hb hab => by show d' _ _ ≤ _; rw [h a b ha hb]; exact hab
  exact fr_of (by simpa using this) (by omega) (by omega)
theorem fr_back {d d' : Nat → Nat → Int} {I K : Nat} (h : ∀ i k, i ≤ I → k ≤ K → d' (I - i) (K - k) = d i k) : fr d' I K = fr d I K :=
  Int.le_antisymm (fr_back_le h) (fr_back_le fun i k hi hk => by
    have := h (I - i) (K - k) (by omega) (by omega)
    rw [show I - (I - i) = i by omega, show K - (K - k) = k by omega] at this
    exact this.symm)
theorem fr_diag {d : Nat → Nat → Int} (h : ∀ i, d i i ≤ 0) : ∀ n, Pa (fun a b => d a b ≤ 0) 0 0 n n
  | 0 => .one (h 0)
  | n + 1 => .d (fr_diag h n) (h (n + 1))
/-! #### what is told -/
def apV (l m : List PtR) : Int := fr (dAt l m) (l.length - 1) (m.length - 1)
theorem apV_symm (l m : List PtR) : apV l m = apV m l := fr_symm (dAt_symm l m) _ _
theorem dAt_back {l m : List PtR} {i k : Nat} (hl : l ≠ []) (hm : m ≠ []) (hi : i ≤ l.length - 1) (hk : k ≤ m.length - 1) : dAt l.reverse m.reverse (l.length - 1 - i) (m.length - 1 - k) = dAt l m i k := by
  have h1 : 0 < l.length := List.length_pos_iff.2 hl
  have h2 : 0 < m.length := List.length_pos_iff.2 hm
  unfold dAt
  rw [List.getElem?_reverse (by omega), List.getElem?_reverse (by omega), show l.length - 1 - (l.length - 1 - i) = i by omega, show m.length - 1 - (m.length - 1 - k) = k by omega]
theorem apV_back {l m : List PtR} (hl : l ≠ []) (hm : m ≠ []) : apV l.reverse m.reverse = apV l m := by
  unfold apV
  rw [List.length_reverse, List.length_reverse]
  exact fr_back fun i k hi hk => dAt_back hl hm hi hk
theorem apV_self (l : List PtR) : apV l l = 0 := by
  have h0 : ∀ i, dAt l l i i ≤ 0 := fun i => by
    unfold dAt
    cases l[i]? with
    | none => exact Int.le_refl _
    | some p => rw [show (match some p, some p with | some p, some q => far2 p q | _, _ => 0) = far2 p p from rfl, far2_self]; exact Int.le_refl _
  have h1 := fr_of (fr_diag h0 (l.length - 1)) rfl rfl
  have h2 := fr_last (dAt l l) (l.length - 1) (l.length - 1)
  have h3 := dAt_nonneg l l (l.length - 1) (l.length - 1)
  unfold apV
  omega
theorem apV_first {l m : List PtR} {p q : PtR} (hp : l[0]? = some p) (hq : m[0]? = some q) : far2 p q ≤ apV l m := by rw [← dAt_eq hp hq]; exact fr_first _ _ _
theorem apV_last {l m : List PtR} {p q : PtR} (hp : l.reverse[0]? = some p) (hq : m.reverse[0]? = some q) : far2 p q ≤ apV l m := by
  have hl : l ≠ [] := fun h => by subst h; simp at hp
  have hm : m ≠ [] := fun h => by subst h; simp at hq
  rw [← apV_back hl hm]; exact apV_first hp hq
def ptR (p : PtR) : Bool := ptB p.x p.y
theorem ptR_iff {p : PtR} : ptR p = true ↔ (-100000000 ≤ p.x ∧ p.x ≤ 100000000) ∧ (-100000000 ≤ p.y ∧ p.y ≤ 100000000) := by unfold ptR ptB; rw [Bool.and_eq_true, inB_iff, inB_iff]
def apE (l m : List PtR) : Int := if l.length = 0 ∨ m.length = 0 then 13 else if 300 < l.length ∨ 300 < m.length then 3 else if (l ++ m).any (fun p => !ptR p) = true then 9 else 0
theorem apE_13 {l m : List PtR} (h : l.length = 0 ∨ m.length = 0) : apE l m = 13 := if_pos h
theorem apE_3 {l m : List PtR} (h : ¬(l.length = 0 ∨ m.length = 0)) (h2 : 300 < l.length ∨ 300 < m.length) : apE l m = 3 := by unfold apE; rw [if_neg h, if_pos h2]
theorem apE_9 {l m : List PtR} (h : ¬(l.length = 0 ∨ m.length = 0)) (h2 : ¬(300 < l.length ∨ 300 < m.length)) (h3 : (l ++ m).any (fun p => !ptR p) = true) : apE l m = 9 := by unfold apE; rw [if_neg h, if_neg h2, if_pos h3]
theorem apE_0 {l m : List PtR} (h : ¬(l.length = 0 ∨ m.length = 0)) (h2 : ¬(300 < l.length ∨ 300 < m.length)) (h3 : (l ++ m).any (fun p => !ptR p) = false) : apE l m = 0 := by unfold apE; rw [if_neg h, if_neg h2, if_neg (by simp [h3])]
theorem apE_inv {l m : List PtR} (h : apE l m = 0) : 0 < l.length ∧ 0 < m.length ∧ l.length ≤ 300 ∧ m.length ≤ 300 ∧ (∀ p ∈ l, ptR p = true) ∧ ∀ p ∈ m, ptR p = true := by
  by_cases h1 : l.length = 0 ∨ m.length = 0
  · rw [apE_13 h1] at h; omega
  · by_cases h2 : 300 < l.length ∨ 300 < m.length
    · rw [apE_3 h1 h2] at h; omega
    · cases h3 : (l ++ m).any (fun p => !ptR p) with
      | true => rw [apE_9 h1 h2 h3] at h; omega
      | false =>
        rw [List.any_eq_false] at h3
        refine ⟨by omega, by omega, by omega, by omega, fun p hp => ?_, fun p hp => ?_⟩
        · have := h3 p (by simp [hp]); simpa using this
        · have := h3 p (by simp [hp]); simpa using this
theorem any_symm (l m : List PtR) (p : PtR → Bool) : (l ++ m).any p = (m ++ l).any p := by rw [List.any_append, List.any_append, Bool.or_comm]
theorem apE_symm (l m : List PtR) : apE l m = apE m l := by
  unfold apE; rw [any_symm l m]
  simp only [Or.comm (a := l.length = 0), Or.comm (a := 300 < l.length)]
theorem apE_self {l m : List PtR} (h : apE l m = 0) : apE l l = 0 := by
  obtain ⟨h1, h2, h3, h4, h5, h6⟩ := apE_inv h
  refine apE_0 (by omega) (by omega) (List.any_eq_false.2 fun p hp => ?_)
  have : p ∈ l := by simpa using hp
  simp [h5 p this]
theorem apE_back {l m : List PtR} (h : apE l m = 0) : apE l.reverse m.reverse = 0 := by
  obtain ⟨h1, h2, h3, h4, h5, h6⟩ := apE_inv h
  refine apE_0 (by rw [List.length_reverse, List.length_reverse]; omega) (by rw [List.length_reverse, List.length_reverse]; omega) (List.any_eq_false.2 fun p hp => ?_)
  have : p ∈ l ∨ p ∈ m := by simpa using hp
  rcases this with h7 | h7
  · simp [h5 p h7]
  · simp [h6 p h7]
/-! #### the row -/
def apRow (d : Nat → Nat → Int) (i k : Nat) : Nat → Int := fun j => if j < k then fr d i j else if i = 0 then 0 else fr d (i - 1) j
theorem apRow_start (d : Nat → Nat → Int) : apRow d 0 0 = fun _ => 0 := by funext j; unfold apRow; rw [if_neg (by omega), if_pos rfl]
theorem apRow_end {d : Nat → Nat → Int} {i k n j : Nat} (hk : n ≤ k) (hj : j < n) : apRow d i k j = apRow d (i + 1) 0 j := by
  unfold apRow; rw [if_pos (by omega), if_neg (by omega), if_neg (by omega)]; rfl
theorem apRow_set {d : Nat → Nat → Int} {n i k : Nat} (hk : k < n) {v : Int} (hv : v = fr d i k) : (tab n (apRow d i k)).set k v = tab n (apRow d i (k + 1)) := by
  subst hv
  refine tab_set hk ?_ fun j hj _ => ?_
  · unfold apRow; rw [if_pos (by omega)]
  · unfold apRow
    by_cases h : j < k
    · rw [if_pos (by omega), if_pos h]
    · rw [if_neg (by omega), if_neg h]
/-- What stood at the place ahead. -/
def apBef (d : Nat → Nat → Int) (i k : Nat) : Int := if k = 0 ∨ i = 0 then 0 else fr d (i - 1) (k - 1)
theorem fr_00 {d : Nat → Nat → Int} {i k : Nat} (hi : ¬0 < i) (hk : ¬0 < k) : fr d i k = d i k := by
  obtain rfl : i = 0 := by omega
  obtain rfl : k = 0 := by omega
  rw [fr]
theorem fr_0k {d : Nat → Nat → Int} {i k : Nat} (hi : ¬0 < i) (hk : 0 < k) : fr d i k = max (d i k) (fr d i (k - 1)) := by
  obtain rfl : i = 0 := by omega
  obtain ⟨k, rfl⟩ : ∃ j, k = j + 1 := ⟨k - 1, by omega⟩
  rw [fr]; rfl
theorem fr_i0 {d : Nat → Nat → Int} {i k : Nat} (hi : 0 < i) (hk : ¬0 < k) : fr d i k = max (d i k) (fr d (i - 1) k) := by
  obtain rfl : k = 0 := by omega
  obtain ⟨i, rfl⟩ : ∃ j, i = j + 1 := ⟨i - 1, by omega⟩
  rw [fr]; rfl
theorem fr_ik {d : Nat → Nat → Int} {i k : Nat} (hi : 0 < i) (hk : 0 < k) : fr d i k = max (d i k) (min (min (fr d (i - 1) (k - 1)) (fr d (i - 1) k)) (fr d i (k - 1))) := by
  obtain ⟨k, rfl⟩ : ∃ j, k = j + 1 := ⟨k - 1, by omega⟩
  obtain ⟨i, rfl⟩ : ∃ j, i = j + 1 := ⟨i - 1, by omega⟩
  rw [fr]; rfl
theorem apRow_at {d : Nat → Nat → Int} {i k : Nat} (hi : 0 < i) : apRow d i k k = fr d (i - 1) k := by unfold apRow; rw [if_neg (by omega), if_neg (by omega)]
theorem apRow_pred {d : Nat → Nat → Int} {i k : Nat} (hk : 0 < k) : apRow d i k (k - 1) = fr d i (k - 1) := by unfold apRow; rw [if_pos (by omega)]
def apR (l m : List PtR) : Int × Int := if apE l m ≠ 0 then (0, apE l m) else (apV l m, 0)
theorem apR_e {l m : List PtR} (h : apE l m ≠ 0) : apR l m = (0, apE l m) := if_pos h
theorem apR_0 {l m : List PtR} (h : apE l m = 0) : apR l m = (apV l m, 0) := if_neg (by simp [h])
theorem apBef_zero (d : Nat → Nat → Int) (i : Nat) : apBef d i 0 = 0 := by unfold apBef; rw [if_pos (.inl rfl)]
theorem apBef_succ (d : Nat → Nat → Int) (i k : Nat) : apBef d i (k + 1) = apRow d i k k := by
  unfold apBef apRow
  rw [if_neg (show ¬k < k by omega)]
  by_cases h : i = 0
  · rw [if_pos (.inr h), if_pos h]
  · rw [if_neg (by omega), if_neg h]; rfl
theorem apBef_at {d : Nat → Nat → Int} {i k : Nat} (hi : 0 < i) (hk : 0 < k) : apBef d i k = fr d (i - 1) (k - 1) := by unfold apBef; rw [if_neg (by omega)]
theorem tab_ext {n : Nat} {f g : Nat → Int} (h : ∀ j, j < n → f j = g j) : tab n f = tab n g := by
  unfold tab
  exact List.map_congr_left fun j hj => h j (List.mem_range.1 hj)
theorem apRow_all {d : Nat → Nat → Int} {n i k : Nat} (h : n ≤ k) : tab n (apRow d (i + 1) 0) = tab n (apRow d i k) := tab_ext fun j hj => (apRow_end h hj).symm
section
variable {d : Nat → Nat → Int} {n i k : Nat} {e : Int}
theorem apRow_1 {x y : Int} (hD : d i k = e) (hx : (tab n (apRow d i k))[((k : Nat) : Int).toNat]? = some x) (hy : (tab n (apRow d i k))[((k : Int) - 1).toNat]? = some y) (hi : 0 < i) (hk : 0 < k) :
    tab n (apRow d i (k + 1)) = (tab n (apRow d i k)).set ((k : Nat) : Int).toNat (max e (min (min (apBef d i k) x) y)) := by
  have h1 := tab_get hx
  rw [Int.toNat_natCast] at h1
  have h2 := (tab_get hy).2
  rw [show ((k : Int) - 1).toNat = k - 1 by omega, apRow_pred hk] at h2
  rw [Int.toNat_natCast]
  refine (apRow_set h1.1 ?_).symm
  rw [fr_ik hi hk, hD, apBef_at hi hk, h1.2, h2, apRow_at hi]
theorem apRow_2 {x : Int} (hD : d i k = e) (hx : (tab n (apRow d i k))[((k : Nat) : Int).toNat]? = some x) (hi : 0 < i) (hk : ¬0 < k) :
    tab n (apRow d i (k + 1)) = (tab n (apRow d i k)).set ((k : Nat) : Int).toNat (max e x) := by
  have h1 := tab_get hx
  rw [Int.toNat_natCast] at h1
  rw [Int.toNat_natCast]
  refine (apRow_set h1.1 ?_).symm
  rw [fr_i0 hi hk, hD, h1.2, apRow_at hi]
theorem apRow_3 {y : Int} (hD : d i k = e) (hy : (tab n (apRow d i k))[((k : Int) - 1).toNat]? = some y) (hi : ¬0 < i) (hk : 0 < k) (hn : k < n) :
    tab n (apRow d i (k + 1)) = (tab n (apRow d i k)).set ((k : Nat) : Int).toNat (max e y) := by
  have h2 := (tab_get hy).2
  rw [show ((k : Int) - 1).toNat = k - 1 by omega, apRow_pred hk] at h2
  rw [Int.toNat_natCast]
  refine (apRow_set hn ?_).symm
  rw [fr_0k hi hk, hD, h2]
theorem apRow_4 (hD : d i k = e) (hi : ¬0 < i) (hk : ¬0 < k) (hn : k < n) :
    tab n (apRow d i (k + 1)) = (tab n (apRow d i k)).set ((k : Nat) : Int).toNat e := by
  rw [Int.toNat_natCast]
  refine (apRow_set hn ?_).symm
  rw [fr_00 hi hk, hD]
theorem apRow_1' {x y : Int} (hD : d i k = e) (hx : (tab n (apRow d i k))[((k : Nat) : Int).toNat]? = some x) (hy : (tab n (apRow d i k))[((k : Int) - 1).toNat]? = some y) (hi : 0 < i) (hk : 0 < k) :
    tab n (apRow d i (k + 1)) = (tab n (apRow d i k)).set ((k : Nat) : Int).toNat (max (min (min x y) (apBef d i k)) e) := by
  rw [apRow_1 hD hx hy hi hk]; congr 1; omega
theorem apRow_2' {x : Int} (hD : d i k = e) (hx : (tab n (apRow d i k))[((k : Nat) : Int).toNat]? = some x) (hi : 0 < i) (hk : ¬0 < k) :
    tab n (apRow d i (k + 1)) = (tab n (apRow d i k)).set ((k : Nat) : Int).toNat (max x e) := by
  rw [apRow_2 hD hx hi hk]; congr 1; omega
theorem apRow_3' {y : Int} (hD : d i k = e) (hy : (tab n (apRow d i k))[((k : Int) - 1).toNat]? = some y) (hi : ¬0 < i) (hk : 0 < k) (hn : k < n) :
    tab n (apRow d i (k + 1)) = (tab n (apRow d i k)).set ((k : Nat) : Int).toNat (max y e) := by
  rw [apRow_3 hD hy hi hk hn]; congr 1; omega
theorem apRow_4' (hD : d i k = e) (hi : ¬0 < i) (hk : ¬0 < k) (hn : k < n) (he : 0 ≤ e) :
    tab n (apRow d i (k + 1)) = (tab n (apRow d i k)).set ((k : Nat) : Int).toNat (max 0 e) := by
  rw [apRow_4 hD hi hk hn]; congr 1; omega
end
theorem anyL {xs : List PtR} {k : Nat} {x : PtR} (h : xs[k]? = some x) (hp : ptR x = false) : xs.any (fun p => !ptR p) = true := List.any_eq_true.2 ⟨x, List.mem_of_getElem? h, by simp [hp]⟩
theorem anyN {xs : List PtR} (h : ∀ y ∈ xs, ptR y = true) : xs.any (fun p => !ptR p) = false := List.any_eq_false.2 fun y hy => by simp [h y hy]
theorem allL {xs : List PtR} {k : Nat} {x : PtR} (h : xs[k]? = some x) (hP : ∀ y ∈ xs.take k, ptR y = true) (hx : ptR x = true) : ∀ y ∈ xs.take (k + 1), ptR y = true := fun y hy => by
  rw [take_succ_get h] at hy
  rcases List.mem_append.1 hy with h1 | h1
  · exact hP y h1
  · simp at h1; subst h1; exact hx
/-- k places from each end exchanged. -/
def Rv {α : Type} (xs : List α) (k : Nat) (zs : List α) : Prop := zs.length = xs.length ∧ ∀ j, j < xs.length → zs[j]? = xs[if j < k ∨ xs.length - 1 - j < k then xs.length - 1 - j else j]?
theorem Rv.start {α : Type} (xs : List α) : Rv xs 0 xs := ⟨rfl, fun j _ => by rw [if_neg (by omega)]⟩
theorem Rv.step {α : Type} {xs zs : List α} {k : Nat} {x y : α} (h : Rv xs k zs) (hx : zs[k]? = some x) (hy : zs[xs.length - 1 - k]? = some y) (hk : k < xs.length - 1 - k) : Rv xs (k + 1) ((zs.set k y).set (xs.length - 1 - k) x) := by
  refine ⟨by simp [h.1], fun j hj => ?_⟩
  have h1 := h.2 k (by omega)
  have h2 := h.2 (xs.length - 1 - k) (by omega)
  rw [hx, if_neg (by omega)] at h1
  rw [hy, if_neg (by omega)] at h2
  have h3 := h.2 j hj
  rw [List.getElem?_set, List.getElem?_set]
  by_cases e1 : xs.length - 1 - k = j
  · rw [if_pos e1, if_pos (by rw [List.length_set, h.1]; exact e1 ▸ hj), if_pos (by omega), show xs.length - 1 - j = k by omega]; exact h1
  · rw [if_neg e1]
    by_cases e2 : k = j
    · rw [if_pos e2, if_pos (by rw [h.1]; omega), if_pos (by omega), ← e2]; exact h2
    · rw [if_neg e2, h3]
      by_cases e3 : j < k ∨ xs.length - 1 - j < k
      · rw [if_pos e3, if_pos (by omega)]
      · rw [if_neg e3, if_neg (by omega)]
theorem Rv.stop {α : Type} {xs zs : List α} {k : Nat} (h : Rv xs k zs) (hk : xs.length ≤ 2 * k + 1) : zs = xs.reverse := by
  refine List.ext_getElem? fun j => ?_
  by_cases hj : j < xs.length
  · rw [h.2 j hj, List.getElem?_reverse hj]
    by_cases e : j < k ∨ xs.length - 1 - j < k
    · rw [if_pos e]
    · rw [if_neg e]; congr 1; omega
  · rw [List.getElem?_eq_none (by rw [h.1]; omega), List.getElem?_eq_none (by rw [List.length_reverse]; omega)]
theorem apR_snd (l m : List PtR) : (apR l m).2 = apE l m := by
  by_cases h : apE l m = 0
  · rw [apR_0 h, h]
  · rw [apR_e h]
end Go.Proofs.Ytbbhcffkleplnaa
