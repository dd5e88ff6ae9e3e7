/-
  Where somebody was at a second; samples each so many seconds; what lies between two seconds. No program stands here.
-/
import Derived.Test.YtogcclagmobkiaaNearM
import Derived.Test.YtogcclagmobkiaaPartM
namespace Go.Proofs.Ytogcclagmobkiaa
set_option linter.unusedVariables false
def btw (p q n d : Int) : Int := p + nearV (q - p) n d
def amidV (p q : SmpR) (t : Int) : SmpR := ⟨t, btw p.x q.x (t - p.at_) (q.at_ - p.at_), btw p.y q.y (t - p.at_) (q.at_ - p.at_), btw p.z q.z (t - p.at_) (q.at_ - p.at_), p.pulse, p.power, p.steps⟩
theorem btw_bd {p q n d L : Int} (hn : 0 ≤ n) (hd : 1 ≤ d) (h : n ≤ d) (hp : -L ≤ p ∧ p ≤ L) (hq : -L ≤ q ∧ q ≤ L) : -L ≤ btw p q n d ∧ btw p q n d ≤ L := by
  have h1 := nearV_bd (a := q - p) hn hd h
  unfold btw
  by_cases h2 : 0 ≤ q - p
  · have := h1.1 h2; omega
  · have := h1.2 (by omega); omega
/-- The sample of a second. -/
def whereL (t : Int) : Option SmpR → List SmpR → SmpR
  | p, [] => ⟨0, 0, 0, 0, 0, 0, 0⟩
  | p, b :: r => if t = b.at_ then b else if b.at_ < t then whereL t (some b) r else match p with | none => b | some a => amidV a b t
def whereV (ss : List SmpR) (t : Int) : SmpR := whereL t none ss
theorem whereL_cons (t : Int) (p : Option SmpR) (b : SmpR) (r : List SmpR) : whereL t p (b :: r) = if t = b.at_ then b else if b.at_ < t then whereL t (some b) r else match p with | none => b | some a => amidV a b t := by cases p <;> rfl
theorem where_next {t : Int} {xs : List SmpR} {k : Nat} {b R : SmpR} (hP : R = whereL t (ahead xs k) (xs.drop k)) (hb : xs[k]? = some b) (h : b.at_ < t) : R = whereL t (ahead xs (k + 1)) (xs.drop (k + 1)) := by
  rw [hP, drop_cons_get hb, whereL_cons, if_neg (by omega), if_pos h, ahead_succ hb]
theorem where_skip {t : Int} {xs : List SmpR} : ∀ (k : Nat), k ≤ xs.length → (∀ j b, j < k → xs[j]? = some b → b.at_ < t) → whereV xs t = whereL t (ahead xs k) (xs.drop k)
  | 0, _, _ => rfl
  | k + 1, hk, h => by
    have hb : xs[k]? = some (xs[k]'(by omega)) := List.getElem?_eq_getElem _
    exact where_next (where_skip k (by omega) (fun j b hj => h j b (by omega))) hb (h k _ (by omega) hb)
theorem where_hit {t : Int} {xs : List SmpR} {k : Nat} {b R : SmpR} (hP : R = whereL t (ahead xs k) (xs.drop k)) (hb : xs[k]? = some b) (h : t = b.at_) : R = b := by
  rw [hP, drop_cons_get hb, whereL_cons, if_pos h]
theorem where_seg {t : Int} {xs : List SmpR} {k : Nat} {a b R : SmpR} (hP : R = whereL t (ahead xs k) (xs.drop k)) (hk : 0 < k) (ha : xs[k - 1]? = some a) (hb : xs[k]? = some b) (h : t < b.at_) : R = amidV a b t := by
  rw [hP, drop_cons_get hb, whereL_cons, if_neg (by omega), if_neg (by omega), ahead_pos hk ha]
section
variable {st : Int} {ss : List SmpR} (hok : SmpOk st ss)
include hok
theorem at_up {i : Nat} {p : SmpR} (hp : ss[i]? = some p) : ∀ (d : Nat) (q : SmpR), ss[i + d]? = some q → p.at_ ≤ q.at_ ∧ (0 < d → p.at_ < q.at_)
  | 0, q, hq => by rw [Nat.add_zero, hp] at hq; cases hq; omega
  | d + 1, q, hq => by
    have hlt := (List.getElem?_eq_some_iff.1 hq).1
    have h1 : ss[i + d]? = some (ss[i + d]'(by omega)) := List.getElem?_eq_getElem _
    have h2 := (at_up hp d _ h1).1
    have h3 := hok.rise (i + d) _ q h1 hq
    omega
/-- From a place at which the second is not past. -/
theorem where_place {t : Int} {k : Nat} (hk : k ≤ ss.length) (h : k = 0 ∨ ∃ a, ss[k - 1]? = some a ∧ a.at_ < t) : whereV ss t = whereL t (ahead ss k) (ss.drop k) := by
  refine where_skip k hk fun j b hj hb => ?_
  rcases h with h | ⟨a, ha, hat⟩
  · omega
  · have := (at_up hok hb (k - 1 - j) a (by rw [show j + (k - 1 - j) = k - 1 by omega]; exact ha)).1
    omega
/-- The sample of a second that is there is a right one, but for its order. -/
theorem whereV_bd {t : Int} (h0 : 0 ≤ t) (h1 : t ≤ spanL ss) (hn : 0 < ss.length) : (whereV ss t).at_ = t ∧ (-100000000 ≤ (whereV ss t).x ∧ (whereV ss t).x ≤ 100000000) ∧ (-100000000 ≤ (whereV ss t).y ∧ (whereV ss t).y ≤ 100000000) ∧ (-100000 ≤ (whereV ss t).z ∧ (whereV ss t).z ≤ 100000) := by
  have key : ∀ (m k : Nat), k + m = ss.length → (k = 0 ∨ ∃ a, ss[k - 1]? = some a ∧ a.at_ < t) → ∃ k b, ss[k]? = some b ∧ t ≤ b.at_ ∧ (k = 0 ∨ ∃ a, ss[k - 1]? = some a ∧ a.at_ < t) := by
    intro m
    induction m with
    | zero =>
      intro k hk h
      rcases h with h | ⟨a, ha, hat⟩
      · omega
      · have := spanL_get ha (by have := (List.getElem?_eq_some_iff.1 ha).1; omega)
        omega
    | succ m ih =>
      intro k hk h
      have hb : ss[k]? = some (ss[k]'(by omega)) := List.getElem?_eq_getElem _
      by_cases h2 : t ≤ (ss[k]'(by omega)).at_
      · exact ⟨k, _, hb, h2, h⟩
      · exact ih (k + 1) (by omega) (.inr ⟨_, by rw [Nat.add_sub_cancel]; exact hb, by omega⟩)
  obtain ⟨k, b, hb, htb, hk⟩ := key ss.length 0 (by omega) (.inl rfl)
  have hP := where_place hok (k := k) (by have := (List.getElem?_eq_some_iff.1 hb).1; omega) hk
  have hbb := hok.bd b (List.mem_of_getElem? hb)
  by_cases h2 : t = b.at_
  · rw [where_hit hP hb h2]
    exact ⟨h2.symm, hbb.2.2.2.1, hbb.2.2.2.2.1, hbb.2.2.2.2.2.1⟩
  · rcases hk with hk | ⟨a, ha, hat⟩
    · subst hk
      have := hok.first b hb
      omega
    · by_cases hk0 : k = 0
      · subst hk0
        have := hok.first b hb
        omega
      · rw [where_seg hP (by omega) ha hb (by omega)]
        have hab := hok.bd a (List.mem_of_getElem? ha)
        have hn1 : 0 ≤ t - a.at_ := by omega
        have hd1 : 1 ≤ b.at_ - a.at_ := by omega
        have hnd : t - a.at_ ≤ b.at_ - a.at_ := by omega
        exact ⟨rfl, btw_bd hn1 hd1 hnd hab.2.2.2.1 hbb.2.2.2.1, btw_bd hn1 hd1 hnd hab.2.2.2.2.1 hbb.2.2.2.2.1, btw_bd hn1 hd1 hnd hab.2.2.2.2.2.1 hbb.2.2.2.2.2.1⟩
end
def zeroS : SmpR := ⟨0, 0, 0, 0, 0, 0, 0⟩
def atR (a : ActD) (t : Int) : SmpR × Int := if chkA a ≠ 0 then (zeroS, chkA a) else if a.ss.length = 0 then (zeroS, 13) else if ¬(0 ≤ t ∧ t ≤ spanL a.ss) then (zeroS, 9) else (whereV a.ss t, 0)
theorem atR_e {a : ActD} {t : Int} (h : chkA a ≠ 0) : atR a t = (zeroS, chkA a) := if_pos h
theorem atR_13 {a : ActD} {t : Int} (h : chkA a = 0) (h1 : a.ss.length = 0) : atR a t = (zeroS, 13) := by unfold atR; rw [if_neg (by simp [h]), if_pos h1]
theorem atR_9 {a : ActD} {t : Int} (h : chkA a = 0) (h1 : a.ss.length ≠ 0) (h2 : ¬(0 ≤ t ∧ t ≤ spanL a.ss)) : atR a t = (zeroS, 9) := by unfold atR; rw [if_neg (by simp [h]), if_neg h1, if_pos h2]
theorem atR_0 {a : ActD} {t : Int} (h : chkA a = 0) (h1 : a.ss.length ≠ 0) (h2 : 0 ≤ t ∧ t ≤ spanL a.ss) : atR a t = (whereV a.ss t, 0) := by unfold atR; rw [if_neg (by simp [h]), if_neg h1, if_neg (fun h3 => h3 h2)]
/-- The first k samples of those each so many seconds. -/
def reL (ss : List SmpR) (step : Int) (k : Nat) : List SmpR := (List.range k).map fun (i : Nat) => whereV ss ((i : Int) * step)
theorem reL_succ (ss : List SmpR) (step : Int) (k : Nat) : reL ss step (k + 1) = reL ss step k ++ [whereV ss ((k : Int) * step)] := by unfold reL; rw [List.range_succ, List.map_append]; rfl
theorem reL_len (ss : List SmpR) (step : Int) (k : Nat) : (reL ss step k).length = k := by simp [reL]
/-- How many lie ahead of the end. -/
def reN (ss : List SmpR) (step : Int) : Nat := ((spanL ss + step - 1) / step).toNat
theorem reN_iff {ss : List SmpR} {step : Int} (hs : 1 ≤ step) (h0 : 0 ≤ spanL ss) (k : Nat) : (k : Int) * step < spanL ss ↔ k < reN ss step := by
  unfold reN
  have h1 : 0 ≤ (spanL ss + step - 1) / step := Int.ediv_nonneg (by omega) (by omega)
  have h2 : ((k : Int) + 1 ≤ (spanL ss + step - 1) / step) ↔ ((k : Int) + 1) * step ≤ spanL ss + step - 1 := Int.le_ediv_iff_mul_le (by omega)
  rw [Int.add_mul, Int.one_mul] at h2
  omega
def resD (a : ActD) (step : Int) : ActD := if a.ss.length = 0 then a else ⟨a.name, a.sport, a.start, reL a.ss step (reN a.ss step) ++ [whereV a.ss (spanL a.ss)], a.ls, a.ts⟩
def resR (a : ActD) (step : Int) : ActD × Int :=
  if chkA a ≠ 0 then (noA, chkA a) else if ¬(1 ≤ step ∧ step ≤ 1000000) then (noA, 9) else if 0 < a.ss.length ∧ 20000 < (spanL a.ss + step - 1) / step + 1 then (noA, 3) else (resD a step, 0)
theorem resR_e {a : ActD} {t : Int} (h : chkA a ≠ 0) : resR a t = (noA, chkA a) := if_pos h
theorem resR_9 {a : ActD} {t : Int} (h : chkA a = 0) (h1 : ¬(1 ≤ t ∧ t ≤ 1000000)) : resR a t = (noA, 9) := by unfold resR; rw [if_neg (by simp [h]), if_pos h1]
theorem resR_3 {a : ActD} {t : Int} (h : chkA a = 0) (h1 : 1 ≤ t ∧ t ≤ 1000000) (h2 : 0 < a.ss.length ∧ 20000 < (spanL a.ss + t - 1) / t + 1) : resR a t = (noA, 3) := by unfold resR; rw [if_neg (by simp [h]), if_neg (fun h3 => h3 h1), if_pos h2]
theorem resR_0 {a : ActD} {t : Int} (h : chkA a = 0) (h1 : 1 ≤ t ∧ t ≤ 1000000) (h2 : ¬(0 < a.ss.length ∧ 20000 < (spanL a.ss + t - 1) / t + 1)) : resR a t = (resD a t, 0) := by unfold resR; rw [if_neg (by simp [h]), if_neg (fun h3 => h3 h1), if_neg h2]
/-- The samples between two seconds. -/
def innL (f t : Int) (l : List SmpR) : List SmpR := l.filter fun x => decide (f < x.at_) && decide (x.at_ < t)
theorem innL_yes {f t : Int} {l : List SmpR} {k : Nat} {x : SmpR} (h : l[k]? = some x) (hx : f < x.at_ ∧ x.at_ < t) : innL f t (l.take (k + 1)) = innL f t (l.take k) ++ [x] := by
  unfold innL; rw [take_succ_get h, List.filter_append]; simp [hx.1, hx.2]
theorem innL_no {f t : Int} {l : List SmpR} {k : Nat} {x : SmpR} (h : l[k]? = some x) (hx : ¬(f < x.at_ ∧ x.at_ < t)) : innL f t (l.take (k + 1)) = innL f t (l.take k) := by
  unfold innL; rw [take_succ_get h, List.filter_append]
  have : (decide (f < x.at_) && decide (x.at_ < t)) = false := by
    rw [← Bool.not_eq_true, Bool.and_eq_true, decide_eq_true_eq, decide_eq_true_eq]; exact hx
  simp [this]
theorem innL_len (f t : Int) (l : List SmpR) : (innL f t l).length ≤ l.length := List.length_filter_le _ _
def cutL (ss : List SmpR) (f t : Int) : List SmpR := (whereV ss f :: innL f t ss) ++ [whereV ss t]
def cutR (a : ActD) (f t : Int) : ActD × Int :=
  if chkA a ≠ 0 then (noA, chkA a) else if a.ss.length = 0 then (noA, 13) else if f < 0 ∨ t ≤ f ∨ spanL a.ss < t then (noA, 9) else partR a (cutL a.ss f t) f
theorem cutR_e {a : ActD} {f t : Int} (h : chkA a ≠ 0) : cutR a f t = (noA, chkA a) := if_pos h
theorem cutR_13 {a : ActD} {f t : Int} (h : chkA a = 0) (h1 : a.ss.length = 0) : cutR a f t = (noA, 13) := by unfold cutR; rw [if_neg (by simp [h]), if_pos h1]
theorem cutR_9 {a : ActD} {f t : Int} (h : chkA a = 0) (h1 : a.ss.length ≠ 0) (h2 : f < 0 ∨ t ≤ f ∨ spanL a.ss < t) : cutR a f t = (noA, 9) := by unfold cutR; rw [if_neg (by simp [h]), if_neg h1, if_pos h2]
theorem cutR_0 {a : ActD} {f t : Int} (h : chkA a = 0) (h1 : a.ss.length ≠ 0) (h2 : ¬(f < 0 ∨ t ≤ f ∨ spanL a.ss < t)) : cutR a f t = partR a (cutL a.ss f t) f := by unfold cutR; rw [if_neg (by simp [h]), if_neg h1, if_neg h2]
end Go.Proofs.Ytogcclagmobkiaa
