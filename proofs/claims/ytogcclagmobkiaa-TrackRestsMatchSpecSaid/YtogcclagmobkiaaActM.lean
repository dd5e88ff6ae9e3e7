/-
  Activities as plain data, and what makes one right. No program stands here.
-/
import Derived.Test.YtogcclagmobkiaaLists
import Derived.Test.YtogcclagmobkiaaHz
namespace Go.Proofs.Ytogcclagmobkiaa
open Hx
set_option linter.unusedVariables false
structure SmpR where
  at_ : Int
  x : Int
  y : Int
  z : Int
  pulse : Int
  power : Int
  steps : Int
structure LapR where
  from_ : Int
  to : Int
  name : ByteArray
/-- What is wrong with the first element with which something is wrong; f sees the element ahead, too. -/
def chkE {α : Type} (f : Option α → α → Int) : Option α → List α → Int
  | _, [] => 0
  | p, x :: r => if f p x ≠ 0 then f p x else chkE f (some x) r
section
variable {α : Type} {f : Option α → α → Int} {xs : List α} {k : Nat} {x : α} {p : Option α} {R c : Int}
theorem chkE_cons (p : Option α) (x : α) (r : List α) : chkE f p (x :: r) = if f p x ≠ 0 then f p x else chkE f (some x) r := rfl
theorem chkE_bad (hP : R = chkE f (ahead xs k) (xs.drop k)) (hx : xs[k]? = some x) (h : f (ahead xs k) x = c) (hc : c ≠ 0) : R = c := by
  rw [hP, drop_cons_get hx, chkE_cons, h, if_pos hc]
theorem chkE_next (hP : R = chkE f (ahead xs k) (xs.drop k)) (hx : xs[k]? = some x) (h : f (ahead xs k) x = 0) : R = chkE f (ahead xs (k + 1)) (xs.drop (k + 1)) := by
  rw [hP, drop_cons_get hx, chkE_cons, h, if_neg (by simp), ahead_succ hx]
theorem chkE_end (hP : R = chkE f (ahead xs k) (xs.drop k)) (hk : xs.length ≤ k) : R = 0 := by rw [hP, List.drop_eq_nil_of_le hk]; rfl
theorem chkE_all : ∀ (k : Nat) (xs : List α) (p : Option α), chkE f p xs = 0 → ∀ x, xs[k]? = some x → f (if k = 0 then p else xs[k - 1]?) x = 0
  | _, [], _, _, x, hx => by simp at hx
  | 0, y :: r, p, h, x, hx => by
    simp at hx; subst hx
    rw [chkE_cons] at h
    by_cases h1 : f p y ≠ 0
    · rw [if_pos h1] at h; exact absurd h h1
    · simpa using h1
  | k + 1, y :: r, p, h, x, hx => by
    rw [chkE_cons] at h
    by_cases h1 : f p y ≠ 0
    · rw [if_pos h1] at h; exact absurd h h1
    · rw [if_neg h1] at h
      have := chkE_all k r (some y) h x (by simpa using hx)
      cases k with
      | zero => simpa using this
      | succ k => simpa using this
theorem chkE_ok (h : chkE f none xs = 0) (hx : xs[k]? = some x) : f (ahead xs k) x = 0 := chkE_all k xs none h x hx
end
theorem chkE_start {α : Type} (f : Option α → α → Int) (xs : List α) : chkE f none xs = chkE f (ahead xs 0) (xs.drop 0) := rfl
theorem ahead_none {α : Type} {xs : List α} {k : Nat} (h : (k : Int) = 0) : ahead xs k = none := by
  have : k = 0 := by omega
  subst this; rfl
def nameC (c : Int) : Bool := (decide (97 ≤ c) && decide (c ≤ 122)) || (decide (65 ≤ c) && decide (c ≤ 90)) || (decide (48 ≤ c) && decide (c ≤ 57)) || decide (c = 45) || decide (c = 95) || decide (c = 46)
theorem nameC_iff {c : Int} : nameC c = true ↔ ((97 ≤ c ∧ c ≤ 122) ∨ (65 ≤ c ∧ c ≤ 90) ∨ (48 ≤ c ∧ c ≤ 57) ∨ c = 45 ∨ c = 95 ∨ c = 46) := by
  unfold nameC
  simp only [Bool.or_eq_true, Bool.and_eq_true, decide_eq_true_eq]
  constructor <;> intro h <;> omega
theorem nameC_not {c : Int} : nameC c = false ↔ ¬((97 ≤ c ∧ c ≤ 122) ∨ (65 ≤ c ∧ c ≤ 90) ∨ (48 ≤ c ∧ c ≤ 57) ∨ c = 45 ∨ c = 95 ∨ c = 46) := by rw [← nameC_iff]; simp
theorem nn_f {c : Int} (h : (97 ≤ c ∧ c ≤ 122) ∨ (65 ≤ c ∧ c ≤ 90) ∨ (48 ≤ c ∧ c ≤ 57) ∨ c = 45 ∨ c = 95 ∨ c = 46) : false = !nameC c := by rw [nameC_iff.2 h]; rfl
theorem nn_d {c : Int} (h : ¬(97 ≤ c ∧ c ≤ 122) ∧ ¬(65 ≤ c ∧ c ≤ 90) ∧ ¬(48 ≤ c ∧ c ≤ 57) ∧ c ≠ 45 ∧ c ≠ 95) : decide (c ≠ 46) = !nameC c := by
  by_cases h1 : c = 46
  · rw [nameC_iff.2 (by omega), decide_eq_false (by omega)]; rfl
  · rw [nameC_not.2 (by omega), decide_eq_true h1]; rfl
theorem nn_e {c : Int} (h : ¬(97 ≤ c ∧ c ≤ 122) ∧ ¬(65 ≤ c ∧ c ≤ 90) ∧ ¬(48 ≤ c ∧ c ≤ 57) ∧ c ≠ 45 ∧ c ≠ 95) : (!decide (c = 46)) = !nameC c := by
  by_cases h1 : c = 46
  · rw [nameC_iff.2 (by omega), decide_eq_true h1]
  · rw [nameC_not.2 (by omega), decide_eq_false h1]
theorem up_to {P : Nat → Prop} {k : Nat} (hP : ∀ i, i < k → P i) (h : P k) : ∀ i, i < k + 1 → P i := fun i hi => by
  by_cases h1 : i < k
  · exact hP i h1
  · rw [show i = k by omega]; exact h
def bytesAll (p : Int → Bool) (s : ByteArray) : Bool := (List.range s.size).all fun i => p (byteAt s i)
theorem bytesAll_iff {p : Int → Bool} {s : ByteArray} : bytesAll p s = true ↔ ∀ i, i < s.size → p (byteAt s i) = true := by simp [bytesAll]
theorem bytesAll_not {p : Int → Bool} {s : ByteArray} {k : Nat} (hk : k < s.size) (h : p (byteAt s k) = false) : bytesAll p s = false := by
  cases hb : bytesAll p s with
  | false => rfl
  | true => rw [bytesAll_iff.1 hb k hk] at h; cases h
def nameB (s : ByteArray) : Bool := bytesAll nameC s && (decide (1 ≤ s.size) && decide (s.size ≤ 60))
def titleB (s : ByteArray) : Bool := bytesAll (fun c => inB c 32 126) s && decide (s.size ≤ 60)
def sLe (a b : ByteArray) : Bool := sLt a b || sEq a b
def smpIn (x : SmpR) : Bool := inB x.x (-100000000) 100000000 && inB x.y (-100000000) 100000000 && inB x.z (-100000) 100000 && (inB x.pulse (-1) 300 && inB x.power (-1) 3000 && inB x.steps (-1) 300)
def ordS : Option SmpR → SmpR → Bool
  | none, x => decide (x.at_ ≠ 0)
  | some y, x => decide (x.at_ ≤ y.at_)
def fS (st : Int) (p : Option SmpR) (x : SmpR) : Int := if ordS p x = true then 10 else if 1000000 < x.at_ ∨ 86399999999 < st + x.at_ ∨ smpIn x = false then 9 else 0
def ordL : Option LapR → LapR → Bool
  | none, _ => false
  | some y, x => decide (x.from_ < y.to)
def fL (sp : Int) (p : Option LapR) (x : LapR) : Int := if x.from_ < 0 ∨ x.to ≤ x.from_ ∨ sp < x.to then 9 else if ordL p x = true then 10 else if titleB x.name = false then 8 else 0
def ordT : Option ByteArray → ByteArray → Bool
  | none, _ => false
  | some y, x => sLe x y
def fT (p : Option ByteArray) (x : ByteArray) : Int := if nameB x = false then 8 else if ordT p x = true then 10 else 0
def spanL (ss : List SmpR) : Int := match ss[ss.length - 1]? with | some x => x.at_ | none => 0
theorem spanL_get {ss : List SmpR} {k : Nat} {x : SmpR} (h : ss[k]? = some x) (hk : k + 1 = ss.length) : spanL ss = x.at_ := by
  unfold spanL; rw [show ss.length - 1 = k by omega, h]
theorem spanL_nil {ss : List SmpR} (h : ss.length = 0) : spanL ss = 0 := by
  have := List.eq_nil_of_length_eq_zero h
  subst this; rfl
/-- An activity's data. -/
structure ActD where
  name : ByteArray
  sport : Int
  start : Int
  ss : List SmpR
  ls : List LapR
  ts : List ByteArray
def chkA (a : ActD) : Int :=
  if nameB a.name = false then 8 else if inB a.sport 1 5 = false then 7 else if inB a.start 0 86399999999 = false then 9
  else if 20000 < a.ss.length ∨ 200 < a.ls.length ∨ 20 < a.ts.length then 3
  else if chkE (fS a.start) none a.ss ≠ 0 then chkE (fS a.start) none a.ss
  else if chkE (fL (spanL a.ss)) none a.ls ≠ 0 then chkE (fL (spanL a.ss)) none a.ls else chkE fT none a.ts
section
variable {a : ActD}
theorem chkA_8 (h : nameB a.name = false) : chkA a = 8 := if_pos h
theorem chkA_7 (h : nameB a.name = true) (h2 : inB a.sport 1 5 = false) : chkA a = 7 := by unfold chkA; rw [if_neg (by rw [h]; simp), if_pos h2]
theorem chkA_9 (h : nameB a.name = true) (h2 : inB a.sport 1 5 = true) (h3 : inB a.start 0 86399999999 = false) : chkA a = 9 := by unfold chkA; rw [if_neg (by rw [h]; simp), if_neg (by rw [h2]; simp), if_pos h3]
theorem chkA_3 (h : nameB a.name = true) (h2 : inB a.sport 1 5 = true) (h3 : inB a.start 0 86399999999 = true) (h4 : 20000 < a.ss.length ∨ 200 < a.ls.length ∨ 20 < a.ts.length) : chkA a = 3 := by
  unfold chkA; rw [if_neg (by rw [h]; simp), if_neg (by rw [h2]; simp), if_neg (by rw [h3]; simp), if_pos h4]
/-- The numbers of an activity are right. -/
def headA (a : ActD) : Prop := nameB a.name = true ∧ inB a.sport 1 5 = true ∧ inB a.start 0 86399999999 = true ∧ a.ss.length ≤ 20000 ∧ a.ls.length ≤ 200 ∧ a.ts.length ≤ 20
theorem chkA_head (h : headA a) : chkA a = if chkE (fS a.start) none a.ss ≠ 0 then chkE (fS a.start) none a.ss
  else if chkE (fL (spanL a.ss)) none a.ls ≠ 0 then chkE (fL (spanL a.ss)) none a.ls else chkE fT none a.ts := by
  obtain ⟨h1, h2, h3, h4, h5, h6⟩ := h
  unfold chkA; rw [if_neg (by rw [h1]; simp), if_neg (by rw [h2]; simp), if_neg (by rw [h3]; simp), if_neg (by omega)]
theorem chkA_s (h : headA a) (h2 : chkE (fS a.start) none a.ss ≠ 0) : chkA a = chkE (fS a.start) none a.ss := by rw [chkA_head h, if_pos h2]
theorem chkA_l (h : headA a) (h2 : chkE (fS a.start) none a.ss = 0) (h3 : chkE (fL (spanL a.ss)) none a.ls ≠ 0) : chkA a = chkE (fL (spanL a.ss)) none a.ls := by rw [chkA_head h, if_neg (by omega), if_pos h3]
theorem chkA_t (h : headA a) (h2 : chkE (fS a.start) none a.ss = 0) (h3 : chkE (fL (spanL a.ss)) none a.ls = 0) : chkA a = chkE fT none a.ts := by rw [chkA_head h, if_neg (by omega), if_neg (by omega)]
end
/-- The samples of a right activity. -/
structure SmpOk (st : Int) (ss : List SmpR) : Prop where
  len : ss.length ≤ 20000
  first : ∀ x, ss[0]? = some x → x.at_ = 0
  rise : ∀ i x y, ss[i]? = some x → ss[i + 1]? = some y → x.at_ < y.at_
  bd : ∀ x ∈ ss, 0 ≤ x.at_ ∧ x.at_ ≤ 1000000 ∧ st + x.at_ ≤ 86399999999 ∧ (-100000000 ≤ x.x ∧ x.x ≤ 100000000) ∧ (-100000000 ≤ x.y ∧ x.y ≤ 100000000) ∧ (-100000 ≤ x.z ∧ x.z ≤ 100000) ∧ (-1 ≤ x.pulse ∧ x.pulse ≤ 300) ∧ (-1 ≤ x.power ∧ x.power ≤ 3000) ∧ (-1 ≤ x.steps ∧ x.steps ≤ 300)
theorem fS_zero {st : Int} {p : Option SmpR} {x : SmpR} (h : fS st p x = 0) : ordS p x = false ∧ x.at_ ≤ 1000000 ∧ st + x.at_ ≤ 86399999999 ∧ smpIn x = true := by
  unfold fS at h
  by_cases h1 : ordS p x = true
  · rw [if_pos h1] at h; omega
  · rw [if_neg h1] at h
    by_cases h2 : 1000000 < x.at_ ∨ 86399999999 < st + x.at_ ∨ smpIn x = false
    · rw [if_pos h2] at h; omega
    · refine ⟨by simpa using h1, by omega, by omega, ?_⟩
      cases h3 : smpIn x with
      | true => rfl
      | false => exact absurd (.inr (.inr h3)) h2
theorem smpIn_ok {x : SmpR} (h : smpIn x = true) : (-100000000 ≤ x.x ∧ x.x ≤ 100000000) ∧ (-100000000 ≤ x.y ∧ x.y ≤ 100000000) ∧ (-100000 ≤ x.z ∧ x.z ≤ 100000) ∧ (-1 ≤ x.pulse ∧ x.pulse ≤ 300) ∧ (-1 ≤ x.power ∧ x.power ≤ 3000) ∧ (-1 ≤ x.steps ∧ x.steps ≤ 300) := by
  unfold smpIn at h
  simp only [Bool.and_eq_true] at h
  exact ⟨inB_iff.1 h.1.1.1, inB_iff.1 h.1.1.2, inB_iff.1 h.1.2, inB_iff.1 h.2.1.1, inB_iff.1 h.2.1.2, inB_iff.1 h.2.2⟩
theorem chkE_pos {st : Int} {ss : List SmpR} (h : chkE (fS st) none ss = 0) : ∀ (k : Nat) (x : SmpR), ss[k]? = some x → 0 ≤ x.at_
  | 0, x, hx => by
    have := (fS_zero (chkE_ok h hx)).1
    simp only [ahead_zero, ordS, decide_eq_false_iff_not] at this
    omega
  | k + 1, x, hx => by
    have hlt : k < ss.length := by have := (List.getElem?_eq_some_iff.1 hx).1; omega
    have hy : ss[k]? = some (ss[k]'hlt) := List.getElem?_eq_getElem hlt
    have h1 := chkE_pos h k _ hy
    have h2 := (fS_zero (chkE_ok h hx)).1
    rw [ahead_succ hy] at h2
    simp only [ordS, decide_eq_false_iff_not] at h2
    omega
theorem smpOk {st : Int} {ss : List SmpR} (hl : ss.length ≤ 20000) (h : chkE (fS st) none ss = 0) : SmpOk st ss := by
  refine ⟨hl, fun x hx => ?_, fun i x y hx hy => ?_, fun x hx => ?_⟩
  · have := (fS_zero (chkE_ok h hx)).1
    simp only [ahead_zero, ordS, decide_eq_false_iff_not] at this
    omega
  · have := (fS_zero (chkE_ok h hy)).1
    rw [ahead_succ hx] at this
    simp only [ordS, decide_eq_false_iff_not] at this
    omega
  · obtain ⟨k, hk⟩ := List.getElem?_of_mem hx
    have h1 := fS_zero (chkE_ok h hk)
    exact ⟨chkE_pos h k x hk, h1.2.1, h1.2.2.1, smpIn_ok h1.2.2.2⟩
/-- What is known of a right activity. -/
structure GoodA (a : ActD) : Prop where
  head : headA a
  s : chkE (fS a.start) none a.ss = 0
  l : chkE (fL (spanL a.ss)) none a.ls = 0
  t : chkE fT none a.ts = 0
theorem goodA {a : ActD} (h : chkA a = 0) : GoodA a := by
  have hh : headA a := by
    unfold chkA at h
    by_cases h1 : nameB a.name = false
    · rw [if_pos h1] at h; omega
    · rw [if_neg h1] at h
      by_cases h2 : inB a.sport 1 5 = false
      · rw [if_pos h2] at h; omega
      · rw [if_neg h2] at h
        by_cases h3 : inB a.start 0 86399999999 = false
        · rw [if_pos h3] at h; omega
        · rw [if_neg h3] at h
          by_cases h4 : 20000 < a.ss.length ∨ 200 < a.ls.length ∨ 20 < a.ts.length
          · rw [if_pos h4] at h; omega
          · exact ⟨by simpa using h1, by simpa using h2, by simpa using h3, by omega, by omega, by omega⟩
  rw [chkA_head hh] at h
  by_cases h1 : chkE (fS a.start) none a.ss ≠ 0
  · rw [if_pos h1] at h; exact absurd h h1
  · rw [if_neg h1] at h
    by_cases h2 : chkE (fL (spanL a.ss)) none a.ls ≠ 0
    · rw [if_pos h2] at h; exact absurd h h2
    · rw [if_neg h2] at h
      exact ⟨hh, by omega, by omega, h⟩
theorem GoodA.chk {a : ActD} (h : GoodA a) : chkA a = 0 := by rw [chkA_t h.head h.s h.l, h.t]
theorem GoodA.smp {a : ActD} (h : GoodA a) : SmpOk a.start a.ss := smpOk h.head.2.2.2.1 h.s
end Go.Proofs.Ytogcclagmobkiaa
