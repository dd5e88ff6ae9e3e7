/-
  Activities as plain data, and what makes one right. No program stands here.
-/
import Derived.Sort.Statements
import Derived.MapKept
import Derived.Maps.RangeRun
import Derived.Test.YtjflbnbofedlkaaXmA


namespace Go.Proofs.Ytjflbnbofedlkaa
open Hx
set_option linter.unusedVariables false
structure SmpR where
  at_ : Int
  x : Int
  y : Int
  z : Int
  pulse : Int
  power : Int
  steps : Int
structure LapR where
  from_ : Int
  to : Int
  name : ByteArray
/-- What is wrong with the first element with which something is wrong; f sees the element ahead, too. -/
def chkE {α : Type} (f : Option α → α → Int) : Option α → List α → Int
  | _, [] => 0
  | p, x :: r => if f p x ≠ 0 then f p x else chkE f (some x) r
section
variable {α : Type} {f : Option α → α → Int} {xs : List α} {k : Nat} {x : α} {p : Option α} {R c : Int}
theorem chkE_cons (p : Option α) (x : α) (r : List α) : chkE f p (x :: r) = if f p x ≠ 0 then f p x else chkE f (some x) r := rfl
theorem chkE_bad (hP : R = chkE f (ahead xs k) (xs.drop k)) (hx : xs[k]? = some x) (h : f (ahead xs k) x = c) (hc : c ≠ 0) : R = c := by
  rw [hP, drop_cons_get hx, chkE_cons, h, if_pos hc]
theorem chkE_next (hP : R = chkE f (ahead xs k) (xs.drop k)) (hx : xs[k]? = some x) (h : f (ahead xs k) x = 0) : R = chkE f (ahead xs (k + 1)) (xs.drop (k + 1)) := by
  rw [hP, drop_cons_get hx, chkE_cons, h, if_neg (by simp), ahead_succ hx]
theorem chkE_end (hP : R = chkE f (ahead xs k) (xs.drop k)) (hk : xs.length ≤ k) : R = 0 := by rw [hP, List.drop_eq_nil_of_le hk]; rfl
theorem chkE_all : ∀ (k : Nat) (xs : List α) (p : Option α), chkE f p xs = 0 → ∀ x, xs[k]? = some x → f (if k = 0 then p else xs[k - 1]?) x = 0
  | _, [], _, _, x, hx => by simp at hx
  | 0, y :: r, p, h, x, hx => by
    simp at hx; subst hx
    rw [chkE_cons] at h
    by_cases h1 : f p y ≠ 0
    · rw [if_pos h1] at h; exact absurd h h1
    · simpa using h1
  | k + 1, y :: r, p, h, x, hx => by
    rw [chkE_cons] at h
    by_cases h1 : f p y ≠ 0
    · rw [if_pos h1] at h; exact absurd h h1
    · rw [if_neg h1] at h
      have := chkE_all k r (some y) h x (by simpa using hx)
      cases k with
      | zero => simpa using this
      | succ k => simpa using this
theorem chkE_ok (h : chkE f none xs = 0) (hx : xs[k]? = some x) : f (ahead xs k) x = 0 := chkE_all k xs none h x hx
end
theorem chkE_start {α : Type} (f : Option α → α → Int) (xs : List α) : chkE f none xs = chkE f (ahead xs 0) (xs.drop 0) := rfl
theorem ahead_none {α : Type} {xs : List α} {k : Nat} (h : (k : Int) = 0) : ahead xs k = none := by
  have : k = 0 := by omega
  subst this; rfl
def nameC (c : Int) : Bool := (decide (97 ≤ c) && decide (c ≤ 122)) || (decide (65 ≤ c) && decide (c ≤ 90)) || (decide (48 ≤ c) && decide (c ≤ 57)) || decide (c = 45) || decide (c = 95) || decide (c = 46)
theorem nameC_iff {c : Int} : nameC c = true ↔ ((97 ≤ c ∧ c ≤ 122) ∨ (65 ≤ c ∧ c ≤ 90) ∨ (48 ≤ c ∧ c ≤ 57) ∨ c = 45 ∨ c = 95 ∨ c = 46) := by
  unfold nameC
  simp only [Bool.or_eq_true, Bool.and_eq_true, decide_eq_true_eq]
  constructor <;> intro h <;> omega
theorem nameC_not {c : Int} : nameC c = false ↔ ¬((97 ≤ c ∧ c ≤ 122) ∨ (65 ≤ c ∧ c ≤ 90) ∨ (48 ≤ c ∧ c ≤ 57) ∨ c = 45 ∨ c = 95 ∨ c = 46) := by rw [← nameC_iff]; simp
theorem nn_f {c : Int} (h : (97 ≤ c ∧ c ≤ 122) ∨ (65 ≤ c ∧ c ≤ 90) ∨ (48 ≤ c ∧ c ≤ 57) ∨ c = 45 ∨ c = 95 ∨ c = 46) : false = !nameC c := by rw [nameC_iff.2 h]; rfl
theorem nn_d {c : Int} (h : ¬(97 ≤ c ∧ c ≤ 122) ∧ ¬(65 ≤ c ∧ c ≤ 90) ∧ ¬(48 ≤ c ∧ c ≤ 57) ∧ c ≠ 45 ∧ c ≠ 95) : decide (c ≠ 46) = !nameC c := by
  by_cases h1 : c = 46
  · rw [nameC_iff.2 (by omega), decide_eq_false (by omega)]; rfl
  · rw [nameC_not.2 (by omega), decide_eq_true h1]; rfl
theorem up_to {P : Nat → Prop} {k : Nat} (hP : ∀ i, i < k → P i) (h : P k) : ∀ i, i < k + 1 → P i := fun i hi => by
  by_cases h1 : i < k
  · exact hP i h1
  · rw [show i = k by omega]; exact h
def bytesAll (p : Int → Bool) (s : ByteArray) : Bool := (List.range s.size).all fun i => p (byteAt s i)
theorem bytesAll_iff {p : Int → Bool} {s : ByteArray} : bytesAll p s = true ↔ ∀ i, i < s.size → p (byteAt s i) = true := by simp [bytesAll]
theorem bytesAll_not {p : Int → Bool} {s : ByteArray} {k : Nat} (hk : k < s.size) (h : p (byteAt s k) = false) : bytesAll p s = false := by
  cases hb : bytesAll p s with
  | false => rfl
  | true => rw [bytesAll_iff.1 hb k hk] at h; cases h
def nameB (s : ByteArray) : Bool := bytesAll nameC s && (decide (1 ≤ s.size) && decide (s.size ≤ 60))
def titleB (s : ByteArray) : Bool := bytesAll (fun c => inB c 32 126) s && decide (s.size ≤ 60)
def sLe (a b : ByteArray) : Bool := sLt a b || sEq a b
def smpIn (x : SmpR) : Bool := inB x.x (-100000000) 100000000 && inB x.y (-100000000) 100000000 && inB x.z (-100000) 100000 && (inB x.pulse (-1) 300 && inB x.power (-1) 3000 && inB x.steps (-1) 300)
def ordS : Option SmpR → SmpR → Bool
  | none, x => decide (x.at_ ≠ 0)
  | some y, x => decide (x.at_ ≤ y.at_)
def fS (st : Int) (p : Option SmpR) (x : SmpR) : Int := if ordS p x = true then 10 else if 1000000 < x.at_ ∨ 86399999999 < st + x.at_ ∨ smpIn x = false then 9 else 0
def ordL : Option LapR → LapR → Bool
  | none, _ => false
  | some y, x => decide (x.from_ < y.to)
def fL (sp : Int) (p : Option LapR) (x : LapR) : Int := if x.from_ < 0 ∨ x.to ≤ x.from_ ∨ sp < x.to then 9 else if ordL p x = true then 10 else if titleB x.name = false then 8 else 0
def ordT : Option ByteArray → ByteArray → Bool
  | none, _ => false
  | some y, x => sLe x y
def fT (p : Option ByteArray) (x : ByteArray) : Int := if nameB x = false then 8 else if ordT p x = true then 10 else 0
def spanL (ss : List SmpR) : Int := match ss[ss.length - 1]? with | some x => x.at_ | none => 0
theorem spanL_get {ss : List SmpR} {k : Nat} {x : SmpR} (h : ss[k]? = some x) (hk : k + 1 = ss.length) : spanL ss = x.at_ := by
  unfold spanL; rw [show ss.length - 1 = k by omega, h]
theorem spanL_nil {ss : List SmpR} (h : ss.length = 0) : spanL ss = 0 := by
  have := List.eq_nil_of_length_eq_zero h
  subst this; rfl
/-- An activity's data. -/
structure ActD where
  name : ByteArray
  sport : Int
  start : Int
  ss : List SmpR
  ls : List LapR
  ts : List ByteArray
def chkA (a : ActD) : Int :=
  if nameB a.name = false then 8 else if inB a.sport 1 5 = false then 7 else if inB a.start 0 86399999999 = false then 9
  else if 20000 < a.ss.length ∨ 200 < a.ls.length ∨ 20 < a.ts.length then 3
  else if chkE (fS a.start) none a.ss ≠ 0 then chkE (fS a.start) none a.ss
  else if chkE (fL (spanL a.ss)) none a.ls ≠ 0 then chkE (fL (spanL a.ss)) none a.ls else chkE fT none a.ts
section
variable {a : ActD}
theorem chkA_8 (h : nameB a.name = false) : chkA a = 8 := if_pos h
theorem chkA_7 (h : nameB a.name = true) (h2 : inB a.sport 1 5 = false) : chkA a = 7 := by unfold chkA; rw [if_neg (by rw [h]; simp), if_pos h2]
theorem chkA_9 (h : nameB a.name = true) (h2 : inB a.sport 1 5 = true) (h3 : inB a.start 0 86399999999 = false) : chkA a = 9 := by unfold chkA; rw [if_neg (by rw [h]; simp), if_neg (by rw [h2]; simp), if_pos h3]
theorem chkA_3 (h : nameB a.name = true) (h2 : inB a.sport 1 5 = true) (h3 : inB a.start 0 86399999999 = true) (h4 : 20000 < a.ss.length ∨ 200 < a.ls.length ∨ 20 < a.ts.length) : chkA a = 3 := by
  unfold chkA; rw [if_neg (by rw [h]; simp), if_neg (by rw [h2]; simp), if_neg (by rw [h3]; simp), if_pos h4]
/-- The numbers of an activity are right. -/
def headA (a : ActD) : Prop := nameB a.name = true ∧ inB a.sport 1 5 = true ∧ inB a.start 0 86399999999 = true ∧ a.ss.length ≤ 20000 ∧ a.ls.length ≤ 200 ∧ a.ts.length ≤ 20
theorem chkA_head (h : headA a) : chkA a = if chkE (fS a.start) none a.ss ≠ 0 then chkE (fS a.start) none a.ss
  else if chkE (fL (spanL a.ss)) none a.ls ≠ 0 then chkE (fL (spanL a.ss)) none a.ls else chkE fT none a.ts := by
  obtain ⟨h1, h2, h3, h4, h5, h6⟩ := h
  unfold chkA; rw [if_neg (by rw [h1]; simp), if_neg (by rw [h2]; simp), if_neg (by rw [h3]; simp), if_neg (by omega)]
theorem chkA_s (h : headA a) (h2 : chkE (fS a.start) none a.ss ≠ 0) : chkA a = chkE (fS a.start) none a.ss := by rw [chkA_head h, if_pos h2]
theorem chkA_l (h : headA a) (h2 : chkE (fS a.start) none a.ss = 0) (h3 : chkE (fL (spanL a.ss)) none a.ls ≠ 0) : chkA a = chkE (fL (spanL a.ss)) none a.ls := by rw [chkA_head h, if_neg (by omega), if_pos h3]
theorem chkA_t (h : headA a) (h2 : chkE (fS a.start) none a.ss = 0) (h3 : chkE (fL (spanL a.ss)) none a.ls = 0) : chkA a = chkE fT none a.ts := by rw [chkA_head h, if_neg (by omega), if_neg (by omega)]
end
/-- The samples of a right activity. -/
structure SmpOk (st : Int) (ss : List SmpR) : Prop where
  len : ss.length ≤ 20000
  first : ∀ x, ss[0]? = some x → x.at_ = 0
  rise : ∀ i x y, ss[i]? = some x → ss[i + 1]? = some y → x.at_ < y.at_
  bd : ∀ x ∈ ss, 0 ≤ x.at_ ∧ x.at_ ≤ 1000000 ∧ st + x.at_ ≤ 86399999999 ∧ (-100000000 ≤ x.x ∧ x.x ≤ 100000000) ∧ (-100000000 ≤ x.y ∧ x.y ≤ 100000000) ∧ (-100000 ≤ x.z ∧ x.z ≤ 100000) ∧ (-1 ≤ x.pulse ∧ x.pulse ≤ 300) ∧ (-1 ≤ x.power ∧ x.power ≤ 3000) ∧ (-1 ≤ x.steps ∧ x.steps ≤ 300)
theorem fS_zero {st : Int} {p : Option SmpR} {x : SmpR} (h : fS st p x = 0) : ordS p x = false ∧ x.at_ ≤ 1000000 ∧ st + x.at_ ≤ 86399999999 ∧ smpIn x = true := by
  unfold fS at h
  by_cases h1 : ordS p x = true
  · rw [if_pos h1] at h; omega
  · rw [if_neg h1] at h
    by_cases h2 : 1000000 < x.at_ ∨ 86399999999 < st + x.at_ ∨ smpIn x = false
    · rw [if_pos h2] at h; omega
    · refine ⟨by simpa using h1, by omega, by omega, ?_⟩
      cases h3 : smpIn x with
      | true => rfl
      | false => exact absurd (.inr (.inr h3)) h2
theorem smpIn_ok {x : SmpR} (h : smpIn x = true) : (-100000000 ≤ x.x ∧ x.x ≤ 100000000) ∧ (-100000000 ≤ x.y ∧ x.y ≤ 100000000) ∧ (-100000 ≤ x.z ∧ x.z ≤ 100000) ∧ (-1 ≤ x.pulse ∧ x.pulse ≤ 300) ∧ (-1 ≤ x.power ∧ x.power ≤ 3000) ∧ (-1 ≤ x.steps ∧ x.steps ≤ 300) := by
  unfold smpIn at h
  simp only [Bool.and_eq_true] at h
  exact ⟨inB_iff.1 h.1.1.1, inB_iff.1 h.1.1.2, inB_iff.1 h.1.2, inB_iff.1 h.2.1.1, inB_iff.1 h.2.1.2, inB_iff.1 h.2.2⟩
theorem chkE_pos {st : Int} {ss : List SmpR} (h : chkE (fS st) none ss = 0) : ∀ (k : Nat) (x : SmpR), ss[k]? = some x → 0 ≤ x.at_
  | 0, x, hx => by
    have := (fS_zero (chkE_ok h hx)).1
    simp only [ahead_zero, ordS, decide_eq_false_iff_not] at this
    omega
  | k + 1, x, hx => by
    have hlt : k < ss.length := by have := (List.getElem?_eq_some_iff.1 hx).1; omega
    have hy : ss[k]? = some (ss[k]'hlt) := List.getElem?_eq_getElem hlt
    have h1 := chkE_pos h k _ hy
    have h2 := (fS_zero (chkE_ok h hx)).1
    rw [ahead_succ hy] at h2
    simp only [ordS, decide_eq_false_iff_not] at h2
    omega
theorem smpOk {st : Int} {ss : List SmpR} (hl : ss.length ≤ 20000) (h : chkE (fS st) none ss = 0) : SmpOk st ss := by
  refine ⟨hl, fun x hx => ?_, fun i x y hx hy => ?_, fun x hx => ?_⟩
  · have := (fS_zero (chkE_ok h hx)).1
    simp only [ahead_zero, ordS, decide_eq_false_iff_not] at this
    omega
  · have := (fS_zero (chkE_ok h hy)).1
    rw [ahead_succ hx] at this
    simp only [ordS, decide_eq_false_iff_not] at this
    omega
  · obtain ⟨k, hk⟩ := List.getElem?_of_mem hx
    have h1 := fS_zero (chkE_ok h hk)
    exact ⟨chkE_pos h k x hk, h1.2.1, h1.2.2.1, smpIn_ok h1.2.2.2⟩
/-- What is known of a right activity. -/
structure GoodA (a : ActD) : Prop where
  head : headA a
  s : chkE (fS a.start) none a.ss = 0
  l : chkE (fL (spanL a.ss)) none a.ls = 0
  t : chkE fT none a.ts = 0
theorem goodA {a : ActD} (h : chkA a = 0) : GoodA a := by
  have hh : headA a := by
    unfold chkA at h
    by_cases h1 : nameB a.name = false
    · rw [if_pos h1] at h; omega
    · rw [if_neg h1] at h
      by_cases h2 : inB a.sport 1 5 = false
      · rw [if_pos h2] at h; omega
      · rw [if_neg h2] at h
        by_cases h3 : inB a.start 0 86399999999 = false
        · rw [if_pos h3] at h; omega
        · rw [if_neg h3] at h
          by_cases h4 : 20000 < a.ss.length ∨ 200 < a.ls.length ∨ 20 < a.ts.length
          · rw [if_pos h4] at h; omega
          · exact ⟨by simpa using h1, by simpa using h2, by simpa using h3, by omega, by omega, by omega⟩
  rw [chkA_head hh] at h
  by_cases h1 : chkE (fS a.start) none a.ss ≠ 0
  · rw [if_pos h1] at h; exact absurd h h1
  · rw [if_neg h1] at h
    by_cases h2 : chkE (fL (spanL a.ss)) none a.ls ≠ 0
    · rw [if_pos h2] at h; exact absurd h h2
    · rw [if_neg h2] at h
      exact ⟨hh, by omega, by omega, h⟩
theorem GoodA.chk {a : ActD} (h : GoodA a) : chkA a = 0 := by rw [chkA_t h.head h.s h.l, h.t]
theorem GoodA.smp {a : ActD} (h : GoodA a) : SmpOk a.start a.ss := smpOk h.head.2.2.2.1 h.s
end Go.Proofs.Ytjflbnbofedlkaa

/-
  Segments. No program stands here.
-/

namespace Go.Proofs.Ytjflbnbofedlkaa
set_option linter.unusedVariables false
structure GateR where
  ax : Int
  ay : Int
  bx : Int
  by_ : Int
def ptB (x y : Int) : Bool := inB x (-100000000) 100000000 && inB y (-100000000) 100000000
def fG (_ : Option GateR) (g : GateR) : Int := if ptB g.ax g.ay = false ∨ ptB g.bx g.by_ = false then 9 else if g.ax = g.bx ∧ g.ay = g.by_ then 2 else 0
theorem fG_9 {p : Option GateR} {g : GateR} (h : ptB g.ax g.ay = false ∨ ptB g.bx g.by_ = false) : fG p g = 9 := if_pos h
theorem fG_2 {p : Option GateR} {g : GateR} (h : ptB g.ax g.ay = true) (h2 : ptB g.bx g.by_ = true) (h3 : g.ax = g.bx ∧ g.ay = g.by_) : fG p g = 2 := by unfold fG; rw [if_neg (by simp [h, h2]), if_pos h3]
theorem fG_0 {p : Option GateR} {g : GateR} (h : ptB g.ax g.ay = true) (h2 : ptB g.bx g.by_ = true) (h3 : ¬(g.ax = g.bx ∧ g.ay = g.by_)) : fG p g = 0 := by unfold fG; rw [if_neg (by simp [h, h2]), if_neg h3]
theorem fG_inv {p : Option GateR} {g : GateR} (h : fG p g = 0) : ptB g.ax g.ay = true ∧ ptB g.bx g.by_ = true ∧ ¬(g.ax = g.bx ∧ g.ay = g.by_) := by
  unfold fG at h
  by_cases h1 : ptB g.ax g.ay = false ∨ ptB g.bx g.by_ = false
  · rw [if_pos h1] at h; omega
  · rw [if_neg h1] at h
    by_cases h2 : g.ax = g.bx ∧ g.ay = g.by_
    · rw [if_pos h2] at h; omega
    · refine ⟨?_, ?_, h2⟩
      · cases h3 : ptB g.ax g.ay with
        | true => rfl
        | false => exact absurd (.inl h3) h1
      · cases h3 : ptB g.bx g.by_ with
        | true => rfl
        | false => exact absurd (.inr h3) h1
def chkSeg (nm : ByteArray) (gs : List GateR) : Int := if nameB nm = false then 8 else if inB gs.length 2 50 = false then 3 else chkE fG none gs
theorem chkSeg_8 {nm : ByteArray} {gs : List GateR} (h : nameB nm = false) : chkSeg nm gs = 8 := if_pos h
theorem chkSeg_3 {nm : ByteArray} {gs : List GateR} (h : nameB nm = true) (h2 : inB gs.length 2 50 = false) : chkSeg nm gs = 3 := by unfold chkSeg; rw [if_neg (by simp [h]), if_pos h2]
theorem chkSeg_g {nm : ByteArray} {gs : List GateR} (h : nameB nm = true) (h2 : inB gs.length 2 50 = true) : chkSeg nm gs = chkE fG none gs := by unfold chkSeg; rw [if_neg (by simp [h]), if_neg (by simp [h2])]
theorem chkE_zero {α : Type} {f : Option α → α → Int} {xs : List α} (h : ∀ x ∈ xs, ∀ p, f p x = 0) : chkE f none xs = 0 := by
  have key : ∀ (l : List α) (p : Option α), (∀ x ∈ l, ∀ p, f p x = 0) → chkE f p l = 0 := by
    intro l
    induction l with
    | nil => intro p _; rfl
    | cons x r ih =>
      intro p h
      rw [chkE_cons, h x (by simp) p, if_neg (by simp)]
      exact ih _ fun y hy => h y (by simp [hy])
  exact key xs none h
structure SegOk (nm : ByteArray) (gs : List GateR) : Prop where
  nm : nameB nm = true
  len : 2 ≤ gs.length ∧ gs.length ≤ 50
  g : ∀ x ∈ gs, (∀ p, fG p x = 0)
theorem segOk {nm : ByteArray} {gs : List GateR} (h : chkSeg nm gs = 0) : SegOk nm gs := by
  by_cases h1 : nameB nm = true
  · by_cases h2 : inB gs.length 2 50 = true
    · rw [chkSeg_g h1 h2] at h
      refine ⟨h1, by have := inB_iff.1 h2; omega, fun x hx p => ?_⟩
      obtain ⟨k, hk⟩ := List.getElem?_of_mem hx
      exact chkE_ok h hk
    · rw [chkSeg_3 h1 (by simpa using h2)] at h; omega
  · rw [chkSeg_8 (by simpa using h1)] at h; omega
theorem SegOk.chk {nm : ByteArray} {gs : List GateR} (h : SegOk nm gs) : chkSeg nm gs = 0 := by
  rw [chkSeg_g h.nm (inB_iff.2 (by have := h.len; omega))]
  exact chkE_zero h.g
def GateR.flip (g : GateR) : GateR := ⟨g.bx, g.by_, g.ax, g.ay⟩
def turnL (gs : List GateR) : List GateR := (gs.map GateR.flip).reverse
def turnR (nm : ByteArray) (gs : List GateR) : ByteArray × List GateR × Int := if chkSeg nm gs ≠ 0 then (ByteArray.empty, [], chkSeg nm gs) else (nm, turnL gs, 0)
/-- The first k of the gates, from the back. -/
def turnK (gs : List GateR) (k : Nat) : List GateR := (turnL gs).take k
/-- What Backward yields. -/
def backP (gs : List GateR) : List (Int × GateR) := (((List.range gs.length).map fun (i : Nat) => (i : Int)).zip gs).reverse
end Go.Proofs.Ytjflbnbofedlkaa

/-
  Tiles in order: plain part.
-/


namespace Go.Proofs.Ytjflbnbofedlkaa
set_option linter.unusedVariables false
set_option linter.unusedSimpArgs false
section
variable {α : Type} {lt : α → α → Bool}
/-- A total order, strict. -/
structure TotO (lt : α → α → Bool) : Prop where
  asym : ∀ a b, lt a b = true → lt b a = false
  trans : ∀ a b c, lt a b = true → lt b c = true → lt a c = true
  total : ∀ a b, lt a b = false → lt b a = false → a = b
def Srt (lt : α → α → Bool) (l : List α) : Prop := l.Pairwise fun a b => lt b a = false
theorem TotO.le_trans (h : TotO lt) {a b c : α} (h1 : lt b a = false) (h2 : lt c b = false) : lt c a = false := by
  cases h3 : lt c a with
  | false => rfl
  | true =>
    cases h4 : lt a b with
    | true => rw [h.trans c a b h3 h4] at h2; cases h2
    | false => have := h.total a b h4 h1; subst this; rw [h3] at h2; cases h2
/-- Lists in order that hold the same are the same. -/
theorem srt_unique (h : TotO lt) : ∀ {xs ys : List α}, Srt lt xs → Srt lt ys → xs.Perm ys → xs = ys
  | [], ys, _, _, hp => (List.nil_perm.1 hp).symm ▸ rfl
  | x :: xs, [], _, _, hp => by have := hp.length_eq; simp at this
  | x :: xs, y :: ys, hx, hy, hp => by
    have hx' := List.pairwise_cons.1 hx
    have hy' := List.pairwise_cons.1 hy
    have hxy : x = y := by
      rcases List.mem_cons.1 (hp.mem_iff.1 (List.mem_cons_self ..)) with h1 | h1
      · exact h1
      · rcases List.mem_cons.1 (hp.mem_iff.2 (List.mem_cons_self ..)) with h2 | h2
        · exact h2.symm
        · exact h.total x y (hy'.1 x h1) (hx'.1 y h2)
    subst hxy
    rw [srt_unique h hx'.2 hy'.2 (List.Perm.cons_inv hp)]
/-- What a merge has put out, and what is left. -/
structure MergeI (lt : α → α → Bool) (a b out ra rb : List α) : Prop where
  perm : (out ++ ra ++ rb).Perm (a ++ b)
  so : Srt lt out
  sa : Srt lt ra
  sb : Srt lt rb
  la : ∀ x ∈ out, ∀ y ∈ ra, lt y x = false
  lb : ∀ x ∈ out, ∀ y ∈ rb, lt y x = false
theorem MergeI.init {a b : List α} (ha : Srt lt a) (hb : Srt lt b) : MergeI lt a b [] a b := ⟨by simp, List.Pairwise.nil, ha, hb, fun x hx => by simp at hx, fun x hx => by simp at hx⟩
theorem MergeI.left (h : TotO lt) {a b out ra rb : List α} {x : α} (hm : MergeI lt a b out (x :: ra) rb) (hx : ∀ y, rb.head? = some y → lt y x = false) : MergeI lt a b (out ++ [x]) ra rb := by
  have hsa := List.pairwise_cons.1 hm.sa
  have hb : ∀ y ∈ rb, lt y x = false := fun y hy => by
    cases rb with
    | nil => simp at hy
    | cons z rb =>
      have h1 := hx z rfl
      rcases List.mem_cons.1 hy with rfl | hy
      · exact h1
      · exact h.le_trans h1 ((List.pairwise_cons.1 hm.sb).1 y hy)
  refine ⟨?_, ?_, hsa.2, hm.sb, fun u hu y hy => ?_, fun u hu y hy => ?_⟩
  · have := hm.perm
    simpa [List.append_assoc] using this
  · refine List.pairwise_append.2 ⟨hm.so, by simp, fun u hu v hv => ?_⟩
    simp at hv; subst hv
    exact hm.la u hu v (List.mem_cons_self ..)
  · rcases List.mem_append.1 hu with hu | hu
    · exact hm.la u hu y (List.mem_cons_of_mem _ hy)
    · simp at hu; subst hu; exact hsa.1 y hy
  · rcases List.mem_append.1 hu with hu | hu
    · exact hm.lb u hu y hy
    · simp at hu; subst hu; exact hb y hy
theorem MergeI.right (h : TotO lt) {a b out ra rb : List α} {x : α} (hm : MergeI lt a b out ra (x :: rb)) (hx : ∀ y, ra.head? = some y → lt y x = false) : MergeI lt a b (out ++ [x]) ra rb := by
  have hsb := List.pairwise_cons.1 hm.sb
  have ha : ∀ y ∈ ra, lt y x = false := fun y hy => by
    cases ra with
    | nil => simp at hy
    | cons z ra =>
      have h1 := hx z rfl
      rcases List.mem_cons.1 hy with rfl | hy
      · exact h1
      · exact h.le_trans h1 ((List.pairwise_cons.1 hm.sa).1 y hy)
  refine ⟨?_, ?_, hm.sa, hsb.2, fun u hu y hy => ?_, fun u hu y hy => ?_⟩
  · have h1 : (out ++ [x] ++ ra ++ rb).Perm (out ++ ra ++ x :: rb) := by
      rw [List.append_assoc, List.append_assoc, List.append_assoc]
      refine List.Perm.append_left out ?_
      rw [List.singleton_append]
      exact List.perm_middle.symm
    exact h1.trans hm.perm
  · refine List.pairwise_append.2 ⟨hm.so, by simp, fun u hu v hv => ?_⟩
    simp at hv; subst hv
    exact hm.lb u hu v (List.mem_cons_self ..)
  · rcases List.mem_append.1 hu with hu | hu
    · exact hm.la u hu y hy
    · simp at hu; subst hu; exact ha y hy
  · rcases List.mem_append.1 hu with hu | hu
    · exact hm.lb u hu y (List.mem_cons_of_mem _ hy)
    · simp at hu; subst hu; exact hsb.1 y hy
def MrgC (lt : α → α → Bool) (L1 L2 : List α) (i j : Nat) (s : Bool) : Prop := (s = true → ∃ x, L1[i]? = some x ∧ ∀ y, (L2.drop j).head? = some y → lt y x = false) ∧ (s = false → ∃ x, L2[j]? = some x ∧ ∀ y, (L1.drop i).head? = some y → lt y x = false)
theorem mrg_A {L1 L2 : List α} {i j : Nat} (h1 : i < L1.length) (h2 : L2.length ≤ j) : MrgC lt L1 L2 i j true :=
  ⟨fun _ => ⟨L1[i], List.getElem?_eq_getElem h1, fun y hy => by rw [List.drop_eq_nil_of_le h2] at hy; cases hy⟩, fun h => by cases h⟩
theorem mrg_C {L1 L2 : List α} {i j : Nat} (h1 : L1.length ≤ i) (h2 : j < L2.length) : MrgC lt L1 L2 i j false :=
  ⟨fun h => (by cases h), fun _ => ⟨L2[j], List.getElem?_eq_getElem h2, fun y hy => by rw [List.drop_eq_nil_of_le h1] at hy; cases hy⟩⟩
/-- The front of the first comes ahead of that of the second. -/
theorem mrg_B (h : TotO lt) {L1 L2 : List α} {i j : Nat} {x y : α} (hx : L1[i]? = some x) (hy : L2[j]? = some y) : MrgC lt L1 L2 i j (lt x y) :=
  ⟨fun h1 => ⟨x, hx, fun z hz => by rw [List.head?_drop, hy] at hz; cases hz; exact h.asym _ _ h1⟩, fun h1 => ⟨y, hy, fun z hz => by rw [List.head?_drop, hx] at hz; cases hz; exact h1⟩⟩
theorem drop_of {L : List α} {i : Nat} {x : α} (h : L[i]? = some x) : L.drop i = x :: L.drop (i + 1) := by
  obtain ⟨h1, rfl⟩ := List.getElem?_eq_some_iff.1 h
  exact List.drop_eq_getElem_cons h1
theorem MergeI.stepL (h : TotO lt) {a b L1 L2 out : List α} {i j : Nat} {x : α} (hm : MergeI lt a b out (L1.drop i) (L2.drop j)) (hc : MrgC lt L1 L2 i j true) (hx : L1[i]? = some x) : MergeI lt a b (out ++ [x]) (L1.drop (i + 1)) (L2.drop j) := by
  obtain ⟨x', hx', h1⟩ := hc.1 rfl
  rw [hx] at hx'; cases hx'
  rw [drop_of hx] at hm
  exact hm.left h h1
theorem MergeI.stepR (h : TotO lt) {a b L1 L2 out : List α} {i j : Nat} {x : α} (hm : MergeI lt a b out (L1.drop i) (L2.drop j)) (hc : MrgC lt L1 L2 i j false) (hx : L2[j]? = some x) : MergeI lt a b (out ++ [x]) (L1.drop i) (L2.drop (j + 1)) := by
  obtain ⟨x', hx', h1⟩ := hc.2 rfl
  rw [hx] at hx'; cases hx'
  rw [drop_of hx] at hm
  exact hm.right h h1
theorem srt_small {l : List α} (h : l.length < 2) : Srt lt l := by
  cases l with
  | nil => exact List.Pairwise.nil
  | cons x r =>
    cases r with
    | nil => exact List.pairwise_singleton _ _
    | cons y r => simp at h; omega
/-- The list in order. -/
def sortL (lt : α → α → Bool) (l : List α) : List α := l.mergeSort fun x y => !lt y x
theorem sortL_perm (l : List α) : (sortL lt l).Perm l := List.mergeSort_perm l _
theorem sortL_srt (h : TotO lt) (l : List α) : Srt lt (sortL lt l) := by
  have := List.pairwise_mergeSort (le := fun x y => !lt y x) (fun a b c h1 h2 => by
    simp only [Bool.not_eq_true'] at h1 h2 ⊢
    exact h.le_trans h1 h2) (fun a b => by
    simp only [Bool.or_eq_true, Bool.not_eq_true']
    cases h1 : lt b a with
    | false => exact .inl rfl
    | true => exact .inr (h.asym b a h1)) l
  refine this.imp fun {a b} h1 => ?_
  simpa using h1
theorem sortL_of (h : TotO lt) {l r : List α} (hs : Srt lt r) (hp : r.Perm l) : r = sortL lt l := srt_unique h hs (sortL_srt h l) (hp.trans (sortL_perm l).symm)
theorem sortL_len (l : List α) : (sortL lt l).length = l.length := (sortL_perm l).length_eq
end
theorem merge_end {α : Type} {lt : α → α → Bool} (h : TotO lt) {P1 P2 xs L1 L2 out : List α} {i j : Nat} (hcat : P1 ++ P2 = xs) (h1 : L1 = sortL lt P1) (h2 : L2 = sortL lt P2) (hm : MergeI lt L1 L2 out (L1.drop i) (L2.drop j)) (hi : L1.length ≤ i) (hj : L2.length ≤ j) : out = sortL lt xs := by
  have hp := hm.perm
  rw [List.drop_eq_nil_of_le hi, List.drop_eq_nil_of_le hj, List.append_nil, List.append_nil] at hp
  refine sortL_of h hm.so (hp.trans ?_)
  rw [h1, h2, ← hcat]
  exact (sortL_perm P1).append (sortL_perm P2)
/-! #### tiles -/
abbrev TileR := Int × Int
def tlt (a b : TileR) : Bool := decide (a.1 < b.1) || (decide (a.1 = b.1) && decide (a.2 < b.2))
theorem tlt_iff {a b : TileR} : tlt a b = true ↔ a.1 < b.1 ∨ a.1 = b.1 ∧ a.2 < b.2 := by unfold tlt; simp
theorem tlt_no {a b : TileR} : tlt a b = false ↔ ¬(a.1 < b.1 ∨ a.1 = b.1 ∧ a.2 < b.2) := by rw [← tlt_iff]; simp
theorem tlt_tot : TotO tlt := by
  refine ⟨fun a b h => ?_, fun a b c h1 h2 => ?_, fun a b h1 h2 => ?_⟩
  · rw [tlt_iff] at h; rw [tlt_no]; omega
  · rw [tlt_iff] at *; omega
  · rw [tlt_no] at *
    exact Prod.ext (by omega) (by omega)
/-! #### rounded down -/
/-! #### lists of tiles that are right -/
def ordTi (p : Option TileR) (x : TileR) : Bool := match p with | none => false | some y => !tlt y x
def fTi (p : Option TileR) (x : TileR) : Int := if ptB x.1 x.2 = false then 9 else if ordTi p x = true then 10 else 0
def chkT (l : List TileR) : Int := if l.length > 100000 then 3 else chkE fTi none l
theorem chkT_3 {l : List TileR} (h : l.length > 100000) : chkT l = 3 := if_pos h
theorem chkT_g {l : List TileR} (h : ¬l.length > 100000) : chkT l = chkE fTi none l := if_neg h
theorem fTi_9 {p : Option TileR} {x : TileR} (h : ptB x.1 x.2 = false) : fTi p x = 9 := if_pos h
theorem fTi_10 {p : Option TileR} {x : TileR} (h : ptB x.1 x.2 = true) (h2 : ordTi p x = true) : fTi p x = 10 := by unfold fTi; rw [if_neg (by rw [h]; simp), if_pos h2]
theorem fTi_0 {p : Option TileR} {x : TileR} (h : ptB x.1 x.2 = true) (h2 : ordTi p x = false) : fTi p x = 0 := by unfold fTi; rw [if_neg (by rw [h]; simp), if_neg (by rw [h2]; simp)]
theorem fTi_inv {p : Option TileR} {x : TileR} (h : fTi p x = 0) : ptB x.1 x.2 = true ∧ ordTi p x = false := by
  unfold fTi at h
  cases h1 : ptB x.1 x.2 with
  | false => rw [h1, if_pos rfl] at h; omega
  | true =>
    rw [h1, if_neg (by simp)] at h
    cases h2 : ordTi p x with
    | false => exact ⟨rfl, rfl⟩
    | true => rw [h2, if_pos rfl] at h; omega
theorem ordTi_0 {xs : List TileR} {k : Nat} {x : TileR} (hk : (k : Int) = 0) : ordTi (ahead xs k) x = false := by rw [ahead_none hk]; rfl
theorem ordTi_1 {xs : List TileR} {k : Nat} {x y : TileR} (hk : (0 : Int) < k) (hy : xs[((k : Int) - 1).toNat]? = some y) : ordTi (ahead xs k) x = !tlt y x := by rw [ahead_pred hk hy]; rfl
end Go.Proofs.Ytjflbnbofedlkaa

/-
  Regions that draw their order, whose head only reads (calls too) and whose tail writes; pointers that are not nil.
-/

namespace Go.Proofs.Ytjflbnbofedlkaa.Hx
open Go Go.RowKit
set_option linter.unusedVariables false
set_option linter.unusedSimpArgs false
set_option linter.unusedSectionVars false
section
variable {P : Program} {ops : Array Oper} {md : Region.Mode} {C : World → Prop}
def wpAnyM (P : Program) (md : Region.Mode) (ops : Array Oper) (C : World → Prop) (n : Nat) (L : Array Bool → Act → Prop) : Nat → Array Bool → Act → Prop
  | 0, listed, a => L listed a
  | f + 1, listed, a =>
    Region.ready md ops listed ≠ [] ∧ ∀ i ∈ Region.ready md ops listed, i < n ∧ qOp P ops C i (wpAnyM P md ops C n L f (listed.setIfInBounds i true)) a
end
section
variable {P : Program} {N : Fr} {B : Nat} {w0 : World} {Q : Exit → Act → World → Prop} {al : AL} {H : HL}
end
end Go.Proofs.Ytjflbnbofedlkaa.Hx

/-
  More rules: maps with keys of any kind; their iterators.
-/



namespace Go.Proofs.Ytjflbnbofedlkaa.Hx
open Go Go.RowKit Go.MapKept
set_option linter.unusedVariables false
set_option linter.unusedSimpArgs false
set_option linter.unusedSectionVars false
section
variable {α β : Type} [DecidableEq α]
/-- The place of a key. -/
def kIdx : List α → α → Option Nat
  | [], _ => none
  | a :: r, k => if a = k then some 0 else (kIdx r k).map (· + 1)
/-- What a map has for a key; put; taken away. -/
def pO : List (α × β) → α → Option β
  | [], _ => none
  | (a, b) :: r, k => if a = k then some b else pO r k
def pS : List (α × β) → α → β → List (α × β)
  | [], k, v => [(k, v)]
  | (a, b) :: r, k, v => if a = k then (a, v) :: r else (a, b) :: pS r k v
def pD : List (α × β) → α → List (α × β)
  | [], _ => []
  | (a, b) :: r, k => if a = k then r else (a, b) :: pD r k
def pKeys (D : List (α × β)) : List α := D.map (·.1)
theorem pO_none {k : α} : ∀ {D : List (α × β)}, pO D k = none ↔ k ∉ pKeys D
  | [] => by simp [pO, pKeys]
  | (a, b) :: r => by
    rw [pO]
    by_cases h : a = k
    · rw [if_pos h]; simp [pKeys, h]
    · rw [if_neg h, pO_none (D := r)]; simp [pKeys, Ne.symm h]
theorem pO_pS (v : β) (k j : α) : ∀ D : List (α × β), pO (pS D k v) j = if k = j then some v else pO D j
  | [] => by simp [pS, pO]
  | (a, b) :: r => by
    rw [pS]
    by_cases h : a = k
    · subst h; rw [if_pos rfl, pO, pO]
      by_cases h2 : a = j
      · rw [if_pos h2, if_pos h2]
      · rw [if_neg h2, if_neg h2, if_neg h2]
    · rw [if_neg h, pO, pO, pO_pS v k j r]
      by_cases h2 : a = j
      · subst h2; rw [if_pos rfl, if_neg (fun e => h e.symm), if_pos rfl]
      · rw [if_neg h2, if_neg h2]
theorem pKeys_pS (k : α) (v : β) : ∀ D : List (α × β), pKeys (pS D k v) = if k ∈ pKeys D then pKeys D else pKeys D ++ [k]
  | [] => by simp [pS, pKeys]
  | (a, b) :: r => by
    rw [pS]
    by_cases h : a = k
    · rw [if_pos h]; simp [pKeys, h]
    · have ih := pKeys_pS k v r
      rw [if_neg h]
      show a :: pKeys (pS r k v) = if k ∈ a :: pKeys r then a :: pKeys r else a :: pKeys r ++ [k]
      rw [ih]
      by_cases h2 : k ∈ pKeys r
      · rw [if_pos h2, if_pos (List.mem_cons_of_mem _ h2)]
      · rw [if_neg h2, if_neg (by simp [h2, Ne.symm h])]; rfl
theorem nodup_pS {D : List (α × β)} {k : α} {v : β} (h : (pKeys D).Nodup) : (pKeys (pS D k v)).Nodup := by
  rw [pKeys_pS]
  split
  · exact h
  · rename_i hk
    exact List.nodup_append.2 ⟨h, by simp, fun a ha b hb => by simp at hb; subst hb; intro e; subst e; exact hk ha⟩
theorem pD_sub (k : α) : ∀ D : List (α × β), (pD D k).Sublist D
  | [] => List.Sublist.refl _
  | (a, b) :: r => by
    rw [pD]
    by_cases h : a = k
    · rw [if_pos h]; exact List.sublist_cons_self _ _
    · rw [if_neg h]; exact (pD_sub k r).cons_cons _
theorem nodup_pD {D : List (α × β)} {k : α} (h : (pKeys D).Nodup) : (pKeys (pD D k)).Nodup := h.sublist ((pD_sub k D).map _)
theorem pO_pD (k j : α) : ∀ {D : List (α × β)}, (pKeys D).Nodup → pO (pD D k) j = if k = j then none else pO D j
  | [], _ => by simp [pD, pO]
  | (a, b) :: r, hn => by
    have hn' := List.nodup_cons.1 (show (a :: pKeys r).Nodup from hn)
    rw [pD]
    by_cases h : a = k
    · subst h; rw [if_pos rfl]
      by_cases h2 : a = j
      · subst h2; rw [if_pos rfl]; exact pO_none.2 hn'.1
      · rw [if_neg h2, pO, if_neg h2]
    · rw [if_neg h, pO, pO, pO_pD k j hn'.2]
      by_cases h2 : a = j
      · subst h2; rw [if_pos rfl, if_neg (fun e => h e.symm), if_pos rfl]
      · rw [if_neg h2, if_neg h2]
theorem pS_none {k : α} : ∀ {D : List (α × β)}, kIdx (pKeys D) k = none → (∀ v, pS D k v = D ++ [(k, v)]) ∧ pD D k = D ∧ pO D k = none
  | [], _ => by simp [pS, pD, pO]
  | (a, b) :: r, h => by
    rw [pKeys, List.map_cons, kIdx] at h
    by_cases ha : a = k
    · rw [if_pos ha] at h; cases h
    · rw [if_neg ha, Option.map_eq_none_iff] at h
      obtain ⟨h1, h2, h3⟩ := pS_none (D := r) h
      refine ⟨fun v => by rw [pS, if_neg ha, h1 v]; rfl, by rw [pD, if_neg ha, h2], by rw [pO, if_neg ha, h3]⟩
theorem pS_some {k : α} : ∀ {D : List (α × β)} {j : Nat}, kIdx (pKeys D) k = some j → (∀ v, pS D k v = D.set j (k, v)) ∧ pD D k = D.eraseIdx j ∧ ∃ b, pO D k = some b ∧ D[j]? = some (k, b)
  | [], j, h => by simp [pKeys, kIdx] at h
  | (a, b) :: r, j, h => by
    rw [pKeys, List.map_cons, kIdx] at h
    by_cases ha : a = k
    · rw [if_pos ha] at h; cases h
      subst ha
      refine ⟨fun v => by rw [pS, if_pos rfl]; rfl, by rw [pD, if_pos rfl]; rfl, b, by rw [pO, if_pos rfl], by simp⟩
    · rw [if_neg ha] at h
      obtain ⟨i, hi, rfl⟩ := Option.map_eq_some_iff.1 h
      obtain ⟨h1, h2, b', h3, h4⟩ := pS_some (D := r) hi
      refine ⟨fun v => by rw [pS, if_neg ha, h1 v]; rfl, by rw [pD, if_neg ha, h2]; rfl, b', by rw [pO, if_neg ha, h3], by simpa using h4⟩
def pEnc (K : α → Value) (V : β → Value) (D : List (α × β)) : List (Value × Value) := D.map fun e => (K e.1, V e.2)
end
/-- Keys of a type. -/
structure KeyT (P : Program) (kt : TypeId) {α : Type} [DecidableEq α] (K : α → Value) : Prop where
  chk : ∀ e a w, (Instr.checkKey e 10000 kt (K a)).run P w = .ok () w
  bits : ∀ a, Instr.sameBits 10000 (K a) (K a) = true
  find : ∀ (k : α) (l : List MapEntry) (ks : List α) w, l.map (·.key) = ks.map K → (Instr.findKey kt (K k) l).run P w = .ok ((kIdx ks k).bind fun j => l[j]?.map fun e => (j, e.val)) w
/-- Keys that are compared by what they are made of. -/
theorem KeyT.agg {P : Program} {kt : TypeId} {α : Type} [DecidableEq α] {K : α → Value} {d : TypeDesc} (hk : P.underlying kt = some d) (hnow : ∀ a b, Instr.sameNow d (K a) (K b) = none) (chk : ∀ e a w, (Instr.checkKey e 10000 kt (K a)).run P w = .ok () w) (bits : ∀ a, Instr.sameBits 10000 (K a) (K a) = true)
    (heq : ∀ a b w, (Op.equal kt (K a) (K b)).run P w = .ok (decide (a = b)) w) : KeyT P kt K := by
  refine ⟨chk, bits, fun k l ks w hl => ?_⟩
  have ask : ∀ (l : List MapEntry) (ks : List α) (i : Nat), l.map (·.key) = ks.map K → (Instr.findAsking kt (K k) l i).run P w = .ok ((kIdx ks k).bind fun j => l[j]?.map fun e => (i + j, e.val)) w := by
    intro l
    induction l with
    | nil =>
      intro ks i h
      cases ks with
      | nil => rfl
      | cons a r => simp at h
    | cons e l ih =>
      intro ks i h
      cases ks with
      | nil => simp at h
      | cons a r =>
        rw [List.map_cons, List.map_cons, List.cons.injEq] at h
        have hh := heq k a w
        simp only [Instr.findAsking, Sem.run_bind, h.1, hh, Result.andThen_ok]
        rw [kIdx]
        by_cases ha : a = k
        · subst ha; simp
        · rw [if_neg ha]
          have : decide (k = a) = false := decide_eq_false (Ne.symm ha)
          rw [this]
          simp only [Bool.false_eq_true, if_false]
          rw [ih r (i + 1) h.2]
          cases kIdx r k with
          | none => rfl
          | some j => simp [Nat.add_assoc, Nat.add_comm 1 j]
  cases l with
  | nil =>
    have : ks = [] := by cases ks with
      | nil => rfl
      | cons a r => simp at hl
    subst this
    simp [Instr.findKey, run_underlying hk, Result.andThen, Instr.findNow, kIdx]
  | cons e l =>
    cases ks with
    | nil => simp at hl
    | cons a r =>
      have h1 : e.key = K a := by simp at hl; exact hl.1
      have h2 : Instr.findNow d (K k) (e :: l) 0 = none := by rw [Instr.findNow, h1, hnow]
      have h3 := ask (e :: l) (a :: r) 0 hl
      simp only [Nat.zero_add] at h3
      simp only [Instr.findKey, Sem.run_bind, run_underlying hk, Result.andThen_ok, h2]
      exact h3
/-- Keys of a basic type. -/
theorem KeyT.basic {P : Program} {kt : TypeId} {α : Type} [DecidableEq α] {K : α → Value} {d : TypeDesc} (hk : P.underlying kt = some d) (hkey : ∀ a, IsKey d (K a)) (hinj : ∀ a b, K a = K b → a = b) : KeyT P kt K := by
  refine ⟨fun e a w => run_checkKey hk (hkey a) e 9999, fun a => sameBits_self (hkey a) _, fun k l ks w hl => ?_⟩
  have now : ∀ (l : List MapEntry) (ks : List α) (i : Nat), l.map (·.key) = ks.map K → Instr.findNow d (K k) l i = some ((kIdx ks k).bind fun j => l[j]?.map fun e => (i + j, e.val)) := by
    intro l
    induction l with
    | nil =>
      intro ks i h
      cases ks with
      | nil => rfl
      | cons a r => simp at h
    | cons e l ih =>
      intro ks i h
      cases ks with
      | nil => simp at h
      | cons a r =>
        rw [List.map_cons, List.map_cons, List.cons.injEq] at h
        obtain ⟨q, hq, hiff⟩ := sameNow_of_keys (hkey k) (hkey a)
        rw [Instr.findNow, h.1, hq, kIdx]
        cases q with
        | true =>
          have : a = k := hinj _ _ (hiff.1 rfl).symm
          rw [if_pos this]; simp
        | false =>
          have : a ≠ k := fun he => by subst he; have := hiff.2 rfl; cases this
          rw [if_neg this]
          show Instr.findNow d (K k) l (i + 1) = _
          rw [ih r (i + 1) h.2]
          cases kIdx r k with
          | none => rfl
          | some j => simp [Nat.add_assoc, Nat.add_comm 1 j]
  have h3 := now l ks 0 hl
  simp only [Nat.zero_add] at h3
  exact run_findKey hk h3
/-- A map's type. -/
structure MapK (P : Program) (t : TypeId) {α β : Type} [DecidableEq α] (K : α → Value) (V : β → Value) (z : β) : Prop where
  ty : ∃ kt et, P.underlying t = some (.map kt et) ∧ KeyT P kt K ∧ ∀ w, (zeroValue et).run P w = .ok (V z) w
/-- A map's object, by its entries. -/
def MapO (es : List (Value × Value)) (o : Obj) : Prop := ∃ ents clock, o = .map ents clock ∧ ents.toList.map (fun e => (e.key, e.val)) = es ∧ (∀ x ∈ ents.toList, x.born < clock) ∧ (ents.toList.map (·.born)).Nodup
/-- The same, while it is gone through: the entries' numbers too. -/
def MapB (es : List (Value × Value)) (bs : List Nat) (clock : Nat) (o : Obj) : Prop := ∃ ents, o = .map ents clock ∧ ents.toList.map (fun e => (e.key, e.val)) = es ∧ ents.toList.map (·.born) = bs
/-- The same, with the number of the entry at a place. -/
def MapE (es : List (Value × Value)) (j : Nat) (st : Nat) (o : Obj) : Prop := ∃ ents clock, o = .map ents clock ∧ ents.toList.map (fun e => (e.key, e.val)) = es ∧ (∀ x ∈ ents.toList, x.born < clock) ∧ (ents.toList.map (·.born)).Nodup ∧ (ents.toList.map (·.born))[j]? = some st
/-- An iterator that has gone to these places. -/
def IterO (b : Nat) (bs : List Nat) (clock : Nat) (js : List Nat) (o : Obj) : Prop := ∃ seen, o = .mapIter (some b) clock seen clock ∧ (seen.toList = js.map fun j => bs.getD j 0) ∧ ∀ j ∈ js, j < bs.length
theorem MapO.known {es : List (Value × Value)} {o : Obj} (h : MapO es o) : Obj.known o = true := by obtain ⟨_, _, rfl, _⟩ := h; rfl
/-- An object that was there before. -/
def Ob (C : Nat) (w : World) (b : Nat) (f : Obj → Prop) : Prop := b < C ∧ ∃ o, w.heap[b]? = some o ∧ f o
theorem Ob.below {C b : Nat} {w w' : World} {f : Obj → Prop} (h : Ob C w b f) (hb : Below C w w') : Ob C w' b f := by
  obtain ⟨h1, o, h2, h3⟩ := h
  exact ⟨h1, o, by rw [hb.block b h1]; exact h2, h3⟩
theorem Ob.at {B b : Nat} {w0 w : World} {f : Obj → Prop} (h : Ob B w0 b f) (hb : Below B w0 w) (hB : B ≤ w.heap.size) : Ob w.heap.size w b f :=
  ⟨by have := h.1; omega, (h.below hb).2⟩
theorem Sat.ob {B id b : Nat} {w : World} {H : HL} {f : Obj → Prop} (h : Sat B w H) (hH : look H id = some (.ob b f)) : Ob w.heap.size w b f := by
  obtain ⟨_, o, h1, h2, _⟩ := h.ok _ _ hH
  exact ⟨(Array.getElem?_eq_some_iff.1 h1).1, o, h1, h2⟩
section
variable {α β : Type} {K : α → Value} {V : β → Value}
theorem ents_keys {l : List MapEntry} {D : List (α × β)} (h : l.map (fun e => (e.key, e.val)) = pEnc K V D) : l.map (·.key) = (pKeys D).map K := by
  have := congrArg (List.map Prod.fst) h
  unfold pEnc pKeys at *
  simpa [List.map_map, Function.comp_def] using this
theorem ents_at {l : List MapEntry} {D : List (α × β)} (h : l.map (fun e => (e.key, e.val)) = pEnc K V D) {j : Nat} {k : α} {b : β} (hj : D[j]? = some (k, b)) : ∃ e, l[j]? = some e ∧ e.key = K k ∧ e.val = V b := by
  have h1 : (l.map (fun e => (e.key, e.val)))[j]? = some (K k, V b) := by rw [h, pEnc, List.getElem?_map, hj]; rfl
  rw [List.getElem?_map] at h1
  obtain ⟨e, he, h2⟩ := Option.map_eq_some_iff.1 h1
  rw [Prod.mk.injEq] at h2
  exact ⟨e, he, h2.1, h2.2⟩
theorem ents_len {l : List MapEntry} {D : List (α × β)} (h : l.map (fun e => (e.key, e.val)) = pEnc K V D) : l.length = D.length := by
  have := congrArg List.length h
  simpa [pEnc] using this
end
section
variable {α β : Type} [DecidableEq α] {K : α → Value} {V : β → Value}
/-- What a look-up finds. -/
theorem found {P : Program} {kt : TypeId} (hK : KeyT P kt K) {l : List MapEntry} {D : List (α × β)} (h : l.map (fun e => (e.key, e.val)) = pEnc K V D) (k : α) (w : World) :
    (Instr.findKey kt (K k) l).run P w = .ok ((kIdx (pKeys D) k).bind fun j => (pO D k).map fun b => (j, V b)) w := by
  rw [hK.find k l (pKeys D) w (ents_keys h)]
  cases hj : kIdx (pKeys D) k with
  | none => rfl
  | some j =>
    obtain ⟨_, _, b, h3, h4⟩ := pS_some hj
    obtain ⟨e, he, _, hv⟩ := ents_at h h4
    simp [he, hv, h3]
theorem look_run {P : Program} {t : TypeId} {z : β} (hT : MapK P t K V z) {b clock : Nat} {ents : Array MapEntry} {D : List (α × β)} {w : World} (hb : w.heap[b]? = some (.map ents clock)) (he : ents.toList.map (fun e => (e.key, e.val)) = pEnc K V D) (k : α) (c : Bool) :
    (Instr.lookup t (.map (some b)) (K k) c).run P w = .ok (if c then .tuple #[V ((pO D k).getD z), .bool (pO D k).isSome] else V ((pO D k).getD z)) w := by
  obtain ⟨kt, et, hm, hK, hz⟩ := hT
  have hf := found (P := P) hK he k w
  simp only [Instr.lookup, Sem.run_bind, run_underlying hm, Result.andThen_ok, MapKept.run_getObj_map hb, Sem.run_pure, hK.chk, hf]
  cases hj : kIdx (pKeys D) k with
  | none =>
    have := (pS_none hj).2.2
    simp [hz w, this, Sem.run_pure]
  | some j =>
    obtain ⟨_, _, v, h3, _⟩ := pS_some hj
    simp [h3, Sem.run_pure]
/-- What a write makes of the entries. -/
theorem set_run {P : Program} {t : TypeId} {z : β} (hT : MapK P t K V z) {b clock : Nat} {ents : Array MapEntry} {D : List (α × β)} {w : World} (hb : w.heap[b]? = some (.map ents clock)) (he : ents.toList.map (fun e => (e.key, e.val)) = pEnc K V D) (hc : ∀ x ∈ ents.toList, x.born < clock) (hn : (ents.toList.map (·.born)).Nodup) (k : α) (v : β) :
    ∃ o, (Instr.mapUpdate t (.map (some b)) (K k) (V v)).run P w = .ok () { w with heap := w.heap.setIfInBounds b o } ∧ MapO (pEnc K V (pS D k v)) o := by
  obtain ⟨kt, et, hm, hK, hz⟩ := hT
  have hf := found (P := P) hK he k w
  simp only [Instr.mapUpdate, Sem.run_bind, run_underlying hm, Result.andThen_ok, MapKept.run_getObj_map hb, hK.chk, hf]
  cases hj : kIdx (pKeys D) k with
  | none =>
    obtain ⟨h1, _, h3⟩ := pS_none hj
    refine ⟨_, run_setObj_map _ hb, _, _, rfl, ?_, ?_, ?_⟩
    · rw [h1 v]; simp [pEnc] at he ⊢; exact he
    · intro x hx
      simp at hx
      rcases hx with hx | rfl
      · have := hc x (by simpa using hx); omega
      · exact Nat.lt_succ_self _
    · simp only [Array.toList_push, List.map_append, List.map_cons, List.map_nil]
      refine List.nodup_append.2 ⟨hn, by simp, fun x hx y hy => ?_⟩
      simp at hy; subst hy
      obtain ⟨e, he', rfl⟩ := List.mem_map.1 hx
      have := hc e he'; omega
  | some j =>
    obtain ⟨h1, _, b', h3, h4⟩ := pS_some hj
    obtain ⟨e, he1, he2, he3⟩ := ents_at he h4
    rw [Array.getElem?_toList] at he1
    simp only [h3, Option.map_some, Option.bind_some, he1, Option.getD_some, he2]
    have hkb : (Instr.keyThatStays (K k) (K k)).run P w = .ok (K k) w := by simp [Instr.keyThatStays, hK.bits k]
    simp only [Sem.run_bind, hkb, Result.andThen_ok]
    have hmap : ∀ (l : List MapEntry) (D : List (α × β)) (j : Nat), l.map (fun e => (e.key, e.val)) = pEnc K V D → (l.modify j fun e => { key := K k, val := V v, born := e.born }).map (fun e => (e.key, e.val)) = pEnc K V (D.set j (k, v)) ∧ (l.modify j fun e => { key := K k, val := V v, born := e.born }).map (·.born) = l.map (·.born) := by
      intro l
      induction l with
      | nil => intro D j h; cases D with
        | nil => simp [pEnc]
        | cons d D => simp [pEnc] at h
      | cons e l ih =>
        intro D j h
        cases D with
        | nil => simp [pEnc] at h
        | cons d D =>
          simp only [pEnc, List.map_cons, List.cons.injEq] at h
          cases j with
          | zero => simp [pEnc]; exact h.2
          | succ j =>
            have := ih D j h.2
            simp only [pEnc] at this
            simp only [List.modify_succ_cons, List.map_cons, List.set_cons_succ, pEnc, this.1, this.2, h.1]
            refine ⟨?_, ?_⟩ <;> first | trivial | rfl
    have hm2 := hmap ents.toList D j he
    refine ⟨_, run_setObj_map _ hb, _, _, rfl, ?_, ?_, ?_⟩
    · rw [h1 v, Array.toList_modify]; exact hm2.1
    · intro x hx
      have hx2 : x.born ∈ (ents.modify j fun e => { key := K k, val := V v, born := e.born }).toList.map (·.born) := List.mem_map_of_mem hx
      rw [Array.toList_modify, hm2.2] at hx2
      obtain ⟨y, hy, e⟩ := List.mem_map.1 hx2
      rw [← e]; exact hc y hy
    · rw [Array.toList_modify, hm2.2]; exact hn
theorem del_run {P : Program} {t tk : TypeId} {z : β} (hT : MapK P t K V z) {b clock : Nat} {ents : Array MapEntry} {D : List (α × β)} {w : World} (hb : w.heap[b]? = some (.map ents clock)) (he : ents.toList.map (fun e => (e.key, e.val)) = pEnc K V D) (hc : ∀ x ∈ ents.toList, x.born < clock) (hn : (ents.toList.map (·.born)).Nodup) (k : α) (ty : TypeId) :
    ∃ o, (Builtin.delete_ #[t, tk] ty #[.map (some b), K k]).run P w = .ok (.tuple #[]) { w with heap := w.heap.setIfInBounds b o } ∧ MapO (pEnc K V (pD D k)) o := by
  obtain ⟨kt, et, hm, hK, hz⟩ := hT
  have hf := found (P := P) hK he k w
  have hst : ∀ o : Obj, (setObj b o).run P w = .ok () { w with heap := w.heap.setIfInBounds b o } := fun o => run_setObj_map _ hb
  cases hj : kIdx (pKeys D) k with
  | none =>
    obtain ⟨_, h2, h3⟩ := pS_none hj
    rw [hj] at hf
    refine ⟨.map ents clock, ?_, ents, clock, rfl, by rw [h2]; exact he, hc, hn⟩
    simp [Builtin.delete_, run_underlying hm, MapKept.run_getObj_map hb, hK.chk, hf, hst, Result.andThen]
  | some j =>
    obtain ⟨_, h2, b', h3, h4⟩ := pS_some hj
    rw [hj, h3] at hf
    have hlt : j < ents.size := by
      have h5 := ents_len he
      have h6 := (List.getElem?_eq_some_iff.1 h4).1
      rw [Array.length_toList] at h5; omega
    refine ⟨.map (ents.eraseIdxIfInBounds j) clock, ?_, ents.eraseIdxIfInBounds j, clock, rfl, ?_, ?_, ?_⟩
    · simp [Builtin.delete_, run_underlying hm, MapKept.run_getObj_map hb, hK.chk, hf, hst, Result.andThen]
    · have : (ents.eraseIdxIfInBounds j).toList = ents.toList.eraseIdx j := by unfold Array.eraseIdxIfInBounds; rw [dif_pos hlt, Array.toList_eraseIdx]
      rw [this, ChangeMaps.map_eraseIdx, he, h2]
      unfold pEnc
      rw [ChangeMaps.map_eraseIdx]
    · have : (ents.eraseIdxIfInBounds j).toList = ents.toList.eraseIdx j := by unfold Array.eraseIdxIfInBounds; rw [dif_pos hlt, Array.toList_eraseIdx]
      rw [this]
      exact fun x hx => hc x ((List.eraseIdx_sublist _ _).subset hx)
    · have : (ents.eraseIdxIfInBounds j).toList = ents.toList.eraseIdx j := by unfold Array.eraseIdxIfInBounds; rw [dif_pos hlt, Array.toList_eraseIdx]
      rw [this]
      exact hn.sublist ((List.eraseIdx_sublist _ _).map _)
end
section
variable {P : Program} {N : Fr} {B : Nat} {w0 : World} {Q : Exit → Act → World → Prop} {al : AL} {H : HL} {ops rest : List Oper} {d : Nat} {ty : TypeId} {pos : String} {after : Array Edge}
variable {α β : Type} [DecidableEq α] {K : α → Value} {V : β → Value} {z : β}
theorem r_look {x ix : Operand} {t : TypeId} {b id : Nat} {D : List (α × β)} {k : α} {c : Bool} (hx : ev al x = some (.map (some b))) (hi : ev al ix = some (K k)) (hH : look H id = some (.ob b (MapO (pEnc K V D)))) (hT : MapK P t K V z) :
    Runs P N B w0 (.lookup t x ix c) ty al H (if c then .tuple #[V ((pO D k).getD z), .bool (pO D k).isSome] else V ((pO D k).getD z)) := fun a w hst => by
  obtain ⟨_, o, hb, ⟨ents, clock, rfl, he, _⟩, _⟩ := hst.sat.ok _ _ hH
  simp only [execOp, hst.regs.eval hx, hst.regs.eval hi, Sem.run_bind, look_run hT hb he k c, Result.andThen_ok, Sem.run_pure]
theorem r_look1 {x ix : Operand} {t : TypeId} {b id : Nat} {D : List (α × β)} {k : α} (hx : ev al x = some (.map (some b))) (hi : ev al ix = some (K k)) (hH : look H id = some (.ob b (MapO (pEnc K V D)))) (hT : MapK P t K V z) : Runs P N B w0 (.lookup t x ix false) ty al H (V ((pO D k).getD z)) := r_look (c := false) hx hi hH hT
theorem ol_mkmapO {t : TypeId} (id : Nat) (hd : Nat.blt d N.n = true) (k : ∀ b, OL P N B w0 ops rest Q ((d, .map (some b)) :: al) ((id, .ob b (MapO [])) :: H)) :
    OL P N B w0 ops ({ dst := some d, op := .makeMap t none, type := ty, pos, after, guard := none } :: rest) Q al H := by
  intro a w hst
  refine wpList_plain rfl fun K hK => ?_
  unfold Oper.wp
  simp only [execOp, Option.map_none, Instr.makeMap, Sem.run_bind, Sem.run_pure, Result.andThen_ok, run_newObj, Oper.upon_value]
  have hal : ({ w with heap := w.heap.push (.map #[] 0) } : World) = w.alloc (.map #[] 0) := rfl
  rw [hal]
  refine hK _ _ (k w.heap.size _ _ (hst.step (hst.regs.put (by simpa using hd) _) (hst.below.alloc hst.base _) ?_ (by have := hst.base; simp; omega) (Kd.alloc w _)))
  exact hst.sat.new id (e := .ob w.heap.size (MapO [])) ⟨hst.base, _, (heap_alloc w _).1, ⟨#[], 0, rfl, rfl, by simp, by simp⟩, rfl⟩ (fun k hk => (heap_alloc w _).2 k hk) (fun b hb => by simp only [Ent.own, Option.some.injEq] at hb; omega)
/-- A state whose one object was turned. -/
theorem ol_mkmapE {α β : Type} (K : α → Value) (V : β → Value) {t : TypeId} (id : Nat) (hd : Nat.blt d N.n = true) (k : ∀ b, OL P N B w0 ops rest Q ((d, .map (some b)) :: al) ((id, .ob b (MapO (pEnc K V []))) :: H)) :
    OL P N B w0 ops ({ dst := some d, op := .makeMap t none, type := ty, pos, after, guard := none } :: rest) Q al H := ol_mkmapO id hd k
theorem St.turnO {a a' : Act} {al' : AL} {w : World} {b id : Nat} {f g : Obj → Prop} {o o' : Obj} (hst : St N B w0 al H a w) (hr : Regs N al' a') (hH : look H id = some (.ob b f)) (ho : w.heap[b]? = some o) (hg : g o') (hk : Obj.known o' = true) (hC : N.c b) :
    St N B w0 al' ((id, .ob b g) :: H) a' { w with heap := w.heap.setIfInBounds b o' } := by
  obtain ⟨hB, o1, h1, _, hk1⟩ := hst.sat.ok _ _ hH
  rw [ho] at h1; cases h1
  have hlt := (Array.getElem?_eq_some_iff.1 ho).1
  refine hst.step hr (Below.setBlk hst.below hB _) ?_ (by simpa using hst.base) (Kd.one b (fun k _ hk => setBlk_other w b k _ hk) (fun o ho' => .inr ⟨hC, by rw [ho] at ho'; cases ho'; exact hk1⟩))
  exact hst.sat.turn hH (e' := .ob b g) ⟨hB, o', by simp [hlt], hg, hk⟩ (fun k _ hk => setBlk_other w b k _ (fun e => hk (by simp [Ent.own, e]))) (fun b' hb' => .inl hb')
theorem ol_mapset {m ky x : Operand} {t : TypeId} {b id : Nat} {D : List (α × β)} {k : α} {v : β} (hm : ev al m = some (.map (some b))) (hk : ev al ky = some (K k)) (hx : ev al x = some (V v)) (hH : look H id = some (.ob b (MapO (pEnc K V D)))) (hT : MapK P t K V z) (hC : N.c b)
    (kk : OL P N B w0 ops rest Q al ((id, .ob b (MapO (pEnc K V (pS D k v)))) :: H)) :
    OL P N B w0 ops ({ dst := none, op := .mapUpdate t m ky x, type := ty, pos, after, guard := none } :: rest) Q al H := by
  intro a w hst
  refine wpList_plain rfl fun K' hK' => ?_
  obtain ⟨_, o, hb, ⟨ents, clock, rfl, he, hc, hn⟩, _⟩ := hst.sat.ok _ _ hH
  obtain ⟨o', hrun, ho'⟩ := set_run hT hb he hc hn k v
  unfold Oper.wp
  simp only [execOp, hst.regs.eval hm, hst.regs.eval hk, hst.regs.eval hx, Sem.run_bind, hrun, Result.andThen_ok, Sem.run_pure, Oper.upon_skip]
  exact hK' _ _ (kk _ _ (hst.turnO hst.regs hH hb ho' ho'.known hC))
theorem ol_mapdel {m ky : Operand} {t tk : TypeId} {b id : Nat} {D : List (α × β)} {k : α} (hm : ev al m = some (.map (some b))) (hk : ev al ky = some (K k)) (hH : look H id = some (.ob b (MapO (pEnc K V D)))) (hT : MapK P t K V z) (hC : N.c b)
    (kk : OL P N B w0 ops rest Q al ((id, .ob b (MapO (pEnc K V (pD D k)))) :: H)) :
    OL P N B w0 ops ({ dst := none, op := .call { callee := .builtin .delete, args := #[m, ky], argTypes := #[t, tk] }, type := ty, pos, after, guard := none } :: rest) Q al H := by
  intro a w hst
  refine wpList_plain rfl fun K' hK' => ?_
  obtain ⟨_, o, hb, ⟨ents, clock, rfl, he, hc, hn⟩, _⟩ := hst.sat.ok _ _ hH
  obtain ⟨o', hrun, ho'⟩ := del_run (tk := tk) hT hb he hc hn k ty
  have hrun2 : (execOp a.eval { dst := none, op := .call { callee := .builtin .delete, args := #[m, ky], argTypes := #[t, tk] }, type := ty, pos, after, guard := none }).run P w = .ok (.value (.tuple #[])) { w with heap := w.heap.setIfInBounds b o' } := by
    simp [BigFrame.execOp_builtin, BigFrame.builtin_delete, hst.regs.eval hm, hst.regs.eval hk, hrun]
  unfold Oper.wp
  rw [hrun2, Oper.upon_value]
  exact hK' _ _ (kk _ _ (hst.turnO hst.regs hH hb ho' ho'.known hC))
/-! #### going through a map -/
end
section
variable {P : Program} {N : Fr} {B : Nat} {w0 : World} {al : AL} {H : HL} {ty : TypeId} {α β : Type} {K : α → Value} {V : β → Value}
end
end Go.Proofs.Ytjflbnbofedlkaa.Hx

/-
  Which tiles a way goes through. No program stands here.
-/


namespace Go.Proofs.Ytjflbnbofedlkaa
open Hx
set_option linter.unusedVariables false
set_option linter.unusedSimpArgs false
/-! #### what a range over a map has seen -/
structure Vis {α : Type} (L : List α) (js : List Nat) (ks : List α) : Prop where
  nd : js.Nodup
  at_ : js.map (fun j => L[j]?) = ks.map some
theorem Vis.nil {α : Type} (L : List α) : Vis L [] [] := ⟨List.nodup_nil, rfl⟩
section
variable {α : Type} {L ks : List α} {js : List Nat}
theorem Vis.step (h : Vis L js ks) {j : Nat} {k : α} (hj : j ∉ js) (hk : L[j]? = some k) : Vis L (js ++ [j]) (ks ++ [k]) := by
  refine ⟨?_, by rw [List.map_append, List.map_append, h.at_]; simp [hk]⟩
  refine List.nodup_append.2 ⟨h.nd, by simp, fun a ha b hb => ?_⟩
  simp at hb; subst hb
  intro he; subst he; exact hj ha
theorem Vis.len (h : Vis L js ks) : ks.length = js.length := by have := congrArg List.length h.at_; simpa using this.symm
theorem Vis.bd (h : Vis L js ks) {j : Nat} (hj : j ∈ js) : j < L.length := by
  have h1 : L[j]? ∈ js.map (fun j => L[j]?) := List.mem_map.2 ⟨j, hj, rfl⟩
  rw [h.at_] at h1
  obtain ⟨k, _, hk⟩ := List.mem_map.1 h1
  exact (List.getElem?_eq_some_iff.1 hk.symm).1
theorem Vis.le (h : Vis L js ks) : js.length ≤ L.length := by
  have := List.Nodup.length_le_of_subset (l₂ := List.range L.length) h.nd fun j hj => List.mem_range.2 (h.bd hj)
  simpa using this
theorem Vis.more (h : Vis L js ks) {j : Nat} (hj : j ∉ js) (hL : j < L.length) : js.length < L.length := by
  have := (h.step hj (List.getElem?_eq_getElem hL)).le
  rw [List.length_append, List.length_singleton] at this
  omega
theorem map_range_get (L : List α) : (List.range L.length).map (fun j => L[j]?) = L.map some := by
  apply List.ext_getElem?
  intro i
  rw [List.getElem?_map, List.getElem?_map]
  by_cases h : i < L.length
  · simp [h]
  · simp [h]
theorem Vis.all (h : Vis L js ks) (ha : ∀ j, j < L.length → j ∈ js) : ks.Perm L := by
  have hp : js.Perm (List.range L.length) := (List.perm_ext_iff_of_nodup h.nd List.nodup_range).2 fun j => ⟨fun hj => List.mem_range.2 (h.bd hj), fun hj => ha j (List.mem_range.1 hj)⟩
  have h1 := hp.map (fun j => L[j]?)
  rw [h.at_, map_range_get] at h1
  have h2 := h1.filterMap id
  simpa [List.filterMap_map] using h2
end
theorem sortL_perm_eq {α : Type} {lt : α → α → Bool} (h : TotO lt) {xs ys : List α} (hp : xs.Perm ys) : sortL lt xs = sortL lt ys :=
  sortL_of h (sortL_srt h xs) ((sortL_perm xs).trans hp)
/-! #### tiles that are added, until there are too many -/
abbrev TM := List (TileR × Bool)
def capC : TM → List TileR → TM
  | D, [] => D
  | D, t :: r => if D.length ≤ 100000 then capC (pS D t true) r else D
/-! #### a column, a step -/
def colT (x lo hi : Int) : List TileR := (List.range (hi + 1 - lo).toNat).map fun (i : Nat) => (x, lo + (i : Int))
def cellR (x y side : Int) : TileR := (x / side, y / side)
/-- dx times the heights at the two ends of what lies in a column. -/
def stFrom (px py qx qy side c : Int) : Int := py * (qx - px) + (qy - py) * (max px (c * side) - px)
def stTo (px py qx qy side c : Int) : Int := if c < qx / side then py * (qx - px) + (qy - py) * ((c + 1) * side - px) else qy * (qx - px)
def stLo (px py qx qy side c : Int) : Int := if qx - px = 0 then min py qy / side else min (stFrom px py qx qy side c) (stTo px py qx qy side c) / ((qx - px) * side)
def stHi (px py qx qy side c : Int) : Int :=
  if qx - px = 0 then max py qy / side
  else if c < qx / side ∧ 0 < qy - py ∧ (stTo px py qx qy side c).tmod ((qx - px) * side) = 0 then max (stFrom px py qx qy side c) (stTo px py qx qy side c) / ((qx - px) * side) - 1
  else max (stFrom px py qx qy side c) (stTo px py qx qy side c) / ((qx - px) * side)
/-- The columns from one on. -/
def colsT (px py qx qy side c : Int) : List TileR := (List.range (qx / side + 1 - c).toNat).flatMap fun (i : Nat) => colT (c + (i : Int)) (stLo px py qx qy side (c + (i : Int))) (stHi px py qx qy side (c + (i : Int)))
/-- The tiles of a step to the east. -/
def eastT (px py qx qy side : Int) : List TileR := colsT px py qx qy side (px / side)
/-- The tiles of a step. -/
def stepT (px py qx qy side : Int) : List TileR := if px > qx then eastT qx qy px py side else eastT px py qx qy side
/-! #### the two ways to tell a column's upper end -/
/-! #### how big the numbers are -/
theorem floor_mul {a s : Int} (hs : 0 < s) : a / s * s ≤ a ∧ a < a / s * s + s := by
  have h1 := Int.emod_add_mul_ediv a s
  have h2 := Int.emod_nonneg a (show s ≠ 0 by omega)
  have h3 := Int.emod_lt_of_pos a hs
  rw [Int.mul_comm] at h1
  omega
structure StB (px py qx qy side : Int) : Prop where
  bpx : -100000000 ≤ px ∧ px ≤ 100000000
  bpy : -100000000 ≤ py ∧ py ≤ 100000000
  bqx : -100000000 ≤ qx ∧ qx ≤ 100000000
  bqy : -100000000 ≤ qy ∧ qy ≤ 100000000
  bs : 1 ≤ side ∧ side ≤ 10000000
  le : px ≤ qx
theorem StB.col {px py qx qy side c : Int} (h : StB px py qx qy side) (h1 : px / side ≤ c) (h2 : c ≤ qx / side) : (-110000000 ≤ c * side ∧ c * side ≤ qx) ∧ (px < (c + 1) * side ∧ (c + 1) * side ≤ 110000000) ∧ c * side < (c + 1) * side := by
  have hs := h.bs
  have hp := h.bpx; have hq := h.bqx
  have a1 := floor_mul (a := px) (s := side) (by omega)
  have a2 := floor_mul (a := qx) (s := side) (by omega)
  have b1 := Int.mul_le_mul_of_nonneg_right h1 (show 0 ≤ side by omega)
  have b2 := Int.mul_le_mul_of_nonneg_right h2 (show 0 ≤ side by omega)
  have b3 : (c + 1) * side = c * side + side := by rw [Int.add_mul, Int.one_mul]
  omega
theorem mul_bd' {a b A B : Int} (ha : -A ≤ a ∧ a ≤ A) (hb : -B ≤ b ∧ b ≤ B) (hA : 0 ≤ A) : -(A * B) ≤ a * b ∧ a * b ≤ A * B := by
  have hB : 0 ≤ B := by omega
  have h1 : a.natAbs ≤ A.toNat := by omega
  have h2 : b.natAbs ≤ B.toNat := by omega
  have h3 := Nat.mul_le_mul h1 h2
  rw [← Int.natAbs_mul] at h3
  have h4 : ((A.toNat * B.toNat : Nat) : Int) = A * B := by rw [Int.natCast_mul, Int.toNat_of_nonneg hA, Int.toNat_of_nonneg hB]
  omega
structure StC (px py qx qy side c : Int) : Prop where
  h1 : -20000000000000000 ≤ py * (qx - px) ∧ py * (qx - px) ≤ 20000000000000000
  h2 : -20000000000000000 ≤ qy * (qx - px) ∧ qy * (qx - px) ≤ 20000000000000000
  h3 : -44000000000000000 ≤ (qy - py) * (max px (c * side) - px) ∧ (qy - py) * (max px (c * side) - px) ≤ 44000000000000000
  h4 : -44000000000000000 ≤ (qy - py) * ((c + 1) * side - px) ∧ (qy - py) * ((c + 1) * side - px) ≤ 44000000000000000
  h5 : 0 ≤ (qx - px) * side ∧ (qx - px) * side ≤ 2000000000000000
  h6 : 0 < qx - px → 0 < (qx - px) * side
theorem StB.all {px py qx qy side c : Int} (h : StB px py qx qy side) (h1 : px / side ≤ c) (h2 : c ≤ qx / side) : StC px py qx qy side c := by
  have hc := h.col h1 h2
  have h3 := h.bpx; have h4 := h.bpy; have h5 := h.bqx; have h6 := h.bqy; have h7 := h.bs; have h8 := h.le
  refine ⟨?_, ?_, ?_, ?_, ?_, ?_⟩
  · have := mul_bd' (a := py) (b := qx - px) (A := 100000000) (B := 200000000) (by omega) (by omega) (by omega); omega
  · have := mul_bd' (a := qy) (b := qx - px) (A := 100000000) (B := 200000000) (by omega) (by omega) (by omega); omega
  · have := mul_bd' (a := qy - py) (b := max px (c * side) - px) (A := 200000000) (B := 220000000) (by omega) (by omega) (by omega); omega
  · have := mul_bd' (a := qy - py) (b := (c + 1) * side - px) (A := 200000000) (B := 220000000) (by omega) (by omega) (by omega); omega
  · have h0 := Int.mul_nonneg (show 0 ≤ qx - px by omega) (show 0 ≤ side by omega)
    have := mul_bd' (a := qx - px) (b := side) (A := 200000000) (B := 10000000) (by omega) (by omega) (by omega); omega
  · intro hd; exact Int.mul_pos hd (by omega)
/-! #### an activity's tiles -/
def stN (ss : List SmpR) (side : Int) (i : Nat) : List TileR := match ss[i - 1]?, ss[i]? with | some p, some q => stepT p.x p.y q.x q.y side | _, _ => []
def tlN (ss : List SmpR) (side : Int) (k : Nat) : List TileR := (List.range k).flatMap (stN ss side)
def tilesR (a : ActD) (side : Int) : List TileR × Int :=
  if chkA a ≠ 0 then ([], chkA a) else if inB side 1 10000000 = false then ([], 9)
  else if (capC [] (tlN a.ss side a.ss.length)).length > 100000 then ([], 3)
  else (sortL tlt (pKeys (capC [] (tlN a.ss side a.ss.length))), 0)
/-! #### the upper end, as the program tells it -/
end Go.Proofs.Ytjflbnbofedlkaa

/-
  Whole roots; lengths and ways of steps. No program stands here.
-/

namespace Go.Proofs.Ytjflbnbofedlkaa
set_option linter.unusedVariables false
def IsRoot (n r : Int) : Prop := 0 ≤ r ∧ r * r ≤ n ∧ n < (r + 1) * (r + 1)
open Classical in
noncomputable def rootI (n : Int) : Int := if h : ∃ r, IsRoot n r then Classical.choose h else 0
/-- A power of two, at most the 32nd. -/
def PW (p : Int) : Prop := ∃ j : Nat, j ≤ 32 ∧ p = 2 ^ j
theorem PW.half {p : Int} (h : PW p) (h2 : 0 < p / 2) : ∃ q, PW q ∧ p = 2 * q ∧ 1 ≤ q := by
  obtain ⟨j, hj, rfl⟩ := h
  cases j with
  | zero => simp at h2
  | succ j => exact ⟨2 ^ j, ⟨j, by omega, rfl⟩, by rw [Int.pow_succ]; omega, Int.pow_pos (by omega)⟩
theorem PW.one {p : Int} (h : PW p) (h2 : ¬0 < p / 2) : p = 1 := by
  obtain ⟨j, hj, rfl⟩ := h
  cases j with
  | zero => rfl
  | succ j =>
    have : (0 : Int) < 2 ^ j := Int.pow_pos (by omega)
    rw [Int.pow_succ] at h2; omega
theorem PW.pos {p : Int} (h : PW p) : 1 ≤ p := by
  obtain ⟨j, hj, rfl⟩ := h
  have : (0 : Int) < 2 ^ j := Int.pow_pos (by omega)
  omega
/-! #### ways -/
def sqD (p q : SmpR) : Int := (q.x - p.x) * (q.x - p.x) + (q.y - p.y) * (q.y - p.y)
def PlaceOk (p : SmpR) : Prop := (-100000000 ≤ p.x ∧ p.x ≤ 100000000) ∧ (-100000000 ≤ p.y ∧ p.y ≤ 100000000)
noncomputable def lenD (p q : SmpR) : Int := rootI (sqD p q)
theorem SmpOk.place {st : Int} {ss : List SmpR} (h : SmpOk st ss) {x : SmpR} (hx : x ∈ ss) : PlaceOk x := ⟨(h.bd x hx).2.2.2.1, (h.bd x hx).2.2.2.2.1⟩
end Go.Proofs.Ytjflbnbofedlkaa

/-
  How far was gone up to each sample. No program stands here.
-/

namespace Go.Proofs.Ytjflbnbofedlkaa
set_option linter.unusedVariables false
def stepsL (ss : List SmpR) : List (SmpR × SmpR) := ss.zip ss.tail
theorem stepsL_len (ss : List SmpR) : (stepsL ss).length = ss.length - 1 := by unfold stepsL; rw [List.length_zip, List.length_tail]; omega
theorem stepsL_get {ss : List SmpR} {k : Nat} {x y : SmpR} (hx : ss[k]? = some x) (hy : ss[k + 1]? = some y) : (stepsL ss)[k]? = some (x, y) := by
  unfold stepsL
  rw [List.getElem?_zip_eq_some]
  exact ⟨hx, by rw [List.getElem?_tail]; exact hy⟩
theorem stepsL_inv {ss : List SmpR} {k : Nat} {p : SmpR × SmpR} (h : (stepsL ss)[k]? = some p) : ss[k]? = some p.1 ∧ ss[k + 1]? = some p.2 := by
  unfold stepsL at h
  rw [show p = (p.1, p.2) from rfl, List.getElem?_zip_eq_some, List.getElem?_tail] at h
  exact h
noncomputable def wayN (ss : List SmpR) (k : Nat) : Int := sI (fun p => lenD p.1 p.2) ((stepsL ss).take k)
noncomputable def runW (ss : List SmpR) (k : Nat) : List Int := (List.range k).map (wayN ss)
noncomputable def wayL (ss : List SmpR) : List Int := runW ss ss.length
/-- Ways: how far, and an error. -/
noncomputable def waysR (a : ActD) : List Int × Int := if chkA a ≠ 0 then ([], chkA a) else (wayL a.ss, 0)
end Go.Proofs.Ytjflbnbofedlkaa

/-
  Crossings. No program stands here.
-/


namespace Go.Proofs.Ytjflbnbofedlkaa
set_option linter.unusedVariables false
def side6 (ax ay bx by_ x y : Int) : Int := (bx - ax) * (y - ay) - (by_ - ay) * (x - ax)
theorem mul_ab {a b : Int} (ha : -200000000 ≤ a ∧ a ≤ 200000000) (hb : -200000000 ≤ b ∧ b ≤ 200000000) : -40000000000000000 ≤ a * b ∧ a * b ≤ 40000000000000000 := by
  by_cases h1 : 0 ≤ a
  · by_cases h2 : 0 ≤ b
    · have := mul_bd h1 ha.2 h2 hb.2; omega
    · have := mul_bd h1 ha.2 (show 0 ≤ -b by omega) (show -b ≤ 200000000 by omega)
      rw [Int.mul_neg] at this; omega
  · by_cases h2 : 0 ≤ b
    · have := mul_bd (show 0 ≤ -a by omega) (show -a ≤ 200000000 by omega) h2 hb.2
      rw [Int.neg_mul] at this; omega
    · have := mul_bd (show 0 ≤ -a by omega) (show -a ≤ 200000000 by omega) (show 0 ≤ -b by omega) (show -b ≤ 200000000 by omega)
      rw [Int.neg_mul_neg] at this; omega
def gSide (g : GateR) (p : SmpR) : Int := side6 g.ax g.ay g.bx g.by_ p.x p.y
def crB (g : GateR) (p q : SmpR) : Bool :=
  !(decide (0 ≤ gSide g p) || decide (gSide g q < 0)) && !(decide (0 < side6 p.x p.y q.x q.y g.ax g.ay) && decide (0 < side6 p.x p.y q.x q.y g.bx g.by_) || decide (side6 p.x p.y q.x q.y g.ax g.ay < 0) && decide (side6 p.x p.y q.x q.y g.bx g.by_ < 0))
structure PartR where
  num : Int
  den : Int
def partOf (g : GateR) (p q : SmpR) : PartR := if crB g p q = true then ⟨-gSide g p, gSide g q - gSide g p⟩ else ⟨0, 0⟩
theorem crB_pos {g : GateR} {p q : SmpR} (h : crB g p q = true) : gSide g p < 0 ∧ 0 ≤ gSide g q := by
  unfold crB at h
  rw [Bool.and_eq_true] at h
  have := h.1
  simp at this
  omega
def gIs (gs : List GateR) (p q : SmpR) (i : Nat) : Bool := match gs[i]? with | some g => crB g p q | none => false
/-- The gates that a step crosses, of the first k. -/
def gIdx (gs : List GateR) (p q : SmpR) (k : Nat) : List Int := ((List.range k).filter (gIs gs p q)).map fun (i : Nat) => (i : Int)
theorem gIdx_yes {gs : List GateR} {p q : SmpR} {k : Nat} {g : GateR} (hg : gs[k]? = some g) (h : crB g p q = true) : gIdx gs p q (k + 1) = gIdx gs p q k ++ [(k : Int)] := by
  unfold gIdx; rw [List.range_succ, List.filter_append, List.map_append]; simp [gIs, hg, h]
theorem gIdx_no {gs : List GateR} {p q : SmpR} {k : Nat} {g : GateR} (hg : gs[k]? = some g) (h : crB g p q = false) : gIdx gs p q (k + 1) = gIdx gs p q k := by
  unfold gIdx; rw [List.range_succ, List.filter_append, List.map_append]; simp [gIs, hg, h]
theorem gIdx_len (gs : List GateR) (p q : SmpR) (k : Nat) : (gIdx gs p q k).length ≤ k := by
  unfold gIdx
  rw [List.length_map]
  have := List.length_filter_le (gIs gs p q) (List.range k)
  rw [List.length_range] at this
  exact this
theorem gIdx_mem {gs : List GateR} {p q : SmpR} {k : Nat} {x : Int} (h : x ∈ gIdx gs p q k) : ∃ (i : Nat) (g : GateR), x = i ∧ i < k ∧ gs[i]? = some g ∧ crB g p q = true := by
  unfold gIdx at h
  obtain ⟨i, hi, rfl⟩ := List.mem_map.1 h
  rw [List.mem_filter, List.mem_range] at hi
  have h2 := hi.2
  unfold gIs at h2
  cases hg : gs[i]? with
  | none => rw [hg] at h2; cases h2
  | some g => rw [hg] at h2; exact ⟨i, g, rfl, hi.1, hg, h2⟩
structure CrossR where
  gate : Int
  step : Int
  at_ : Int
def crossOf (gs : List GateR) (p q : SmpR) (step : Nat) (i : Int) : CrossR := match gs[i.toNat]? with
  | some g => ⟨i, step, 1000 * p.at_ + (partOf g p q).num * (1000 * (q.at_ - p.at_)) / (partOf g p q).den⟩
  | none => ⟨i, step, 0⟩
/-- The crossings of the first k steps, where no step crosses two gates. -/
def crossN (gs : List GateR) (st : List (SmpR × SmpR)) : Nat → List CrossR
  | 0 => []
  | k + 1 => crossN gs st k ++ (match st[k]? with | some x => (gIdx gs x.1 x.2 gs.length).map (crossOf gs x.1 x.2 k) | none => [])
/-- No step crosses two gates, and the numbers are small. -/
structure Easy (gs : List GateR) (ss : List SmpR) : Prop where
  one : ∀ (k : Nat) (x : SmpR × SmpR), (stepsL ss)[k]? = some x → (gIdx gs x.1 x.2 gs.length).length ≤ 1
  few : (stepsL ss).length ≤ 1
  num : ∀ (k : Nat) (x : SmpR × SmpR) (g : GateR), (stepsL ss)[k]? = some x → g ∈ gs → crB g x.1 x.2 = true → -gSide g x.1 ≤ 10000 ∧ gSide g x.2 - gSide g x.1 ≤ 10000 ∧ 0 ≤ x.2.at_ - x.1.at_ ∧ x.2.at_ - x.1.at_ ≤ 10000 ∧ 0 ≤ x.1.at_ ∧ x.1.at_ ≤ 1000000
end Go.Proofs.Ytjflbnbofedlkaa

/-
  A list by a function. No program stands here.
-/

namespace Go.Proofs.Ytjflbnbofedlkaa
set_option linter.unusedVariables false
set_option linter.unusedSimpArgs false
/-- A list by a function. -/
def tab (n : Nat) (f : Nat → Int) : List Int := (List.range n).map f
@[simp] theorem tab_len (n : Nat) (f : Nat → Int) : (tab n f).length = n := by simp [tab]
theorem tab_get {n : Nat} {f : Nat → Int} {k : Nat} {x : Int} (h : (tab n f)[k]? = some x) : k < n ∧ x = f k := by
  have hk := (List.getElem?_eq_some_iff.1 h).1
  rw [tab_len] at hk
  refine ⟨hk, ?_⟩
  simp [tab, hk] at h
  exact h.symm
theorem tab_set {n : Nat} {f g : Nat → Int} {k : Nat} {x : Int} (hk : k < n) (hx : g k = x) (hg : ∀ j, j ≠ k → j < n → g j = f j) : (tab n f).set k x = tab n g := by
  apply List.ext_getElem (by simp)
  intro i h1 h2
  rw [List.getElem_set]
  rw [tab_len] at h2
  split
  · rename_i h; subst h; simp [tab, hx]
  · rename_i h; simp [tab]; exact (hg i (fun e => h e.symm) h2).symm
end Go.Proofs.Ytjflbnbofedlkaa

/-
  A sort that is stable: plain part.
-/

namespace Go.Proofs.Ytjflbnbofedlkaa
set_option linter.unusedVariables false
set_option linter.unusedSimpArgs false
def swF (f : Nat → Int) (a b n : Nat) : Nat → Int := fun x => if a ≤ x ∧ x < a + n then f (x - a + b) else if b ≤ x ∧ x < b + n then f (x - b + a) else f x
def rotF (f : Nat → Int) (a m b : Nat) : Nat → Int := fun x => if a ≤ x ∧ x < a + (b - m) then f (x - a + m) else if a + (b - m) ≤ x ∧ x < b then f (x - (b - m)) else f x
/-- Two places exchanged. -/
def sw2 (f : Nat → Int) (i j : Nat) : Nat → Int := fun x => if x = i then f j else if x = j then f i else f x
theorem swF_zero (f : Nat → Int) (a b : Nat) : swF f a b 0 = f := by
  funext x; unfold swF; rw [if_neg (by omega), if_neg (by omega)]
theorem swF_succ {f : Nat → Int} {a b n : Nat} (h : a + n < b) : swF f a b (n + 1) = sw2 (swF f a b n) (a + n) (b + n) := by
  funext x
  simp only [swF, sw2]
  repeat' split
  all_goals first | (exfalso; omega) | (congr 1; omega) | rfl
theorem tab_sw2 {N i j : Nat} (f : Nat → Int) (hi : i < N) (hj : j < N) : ((tab N f).set i (f j)).set j (f i) = tab N (sw2 f i j) := by
  rw [tab_set (g := fun x => if x = i then f j else f x) hi (by simp) (fun x hx _ => by simp [hx])]
  refine tab_set hj ?_ fun x hx _ => ?_
  · simp only [sw2]; split
    · rename_i h; rw [h]
    · rfl
  · simp only [sw2]; split
    · rfl
    · first
        | rfl
        | rw [if_neg hx]
theorem rot_gt {g : Nat → Int} {m i j : Nat} (hj : 0 < j) (h : j < i) (hm : i ≤ m) : rotF (swF g (m - i) m j) (m - (i - j)) m (m + j) = rotF g (m - i) m (m + j) := by
  funext x
  simp only [swF, rotF]
  repeat' split
  all_goals first | (exfalso; omega) | (congr 1; omega) | rfl
theorem rot_lt {g : Nat → Int} {m i j : Nat} (hi : 0 < i) (h : i < j) (hm : i ≤ m) : rotF (swF g (m - i) (m + j - i) i) (m - i) m (m + (j - i)) = rotF g (m - i) m (m + j) := by
  funext x
  simp only [swF, rotF]
  repeat' split
  all_goals first | (exfalso; omega) | (congr 1; omega) | rfl
theorem rot_eq {g : Nat → Int} {m i : Nat} (hm : i ≤ m) : swF g (m - i) m i = rotF g (m - i) m (m + i) := by
  funext x
  simp only [swF, rotF]
  repeat' split
  all_goals first | (exfalso; omega) | (congr 1; omega) | rfl
section
variable (lt : Int → Int → Bool)
/-- Ahead: less, or as great with a smaller number. -/
def RR (x y : Int) : Prop := lt x y = true ∨ (lt y x = false ∧ x < y)
def SoR (f : Nat → Int) (a b : Nat) : Prop := ∀ i j, a ≤ i → i < j → j < b → RR lt (f i) (f j)
def SaS (f g : Nat → Int) (a b : Nat) : Prop := (∀ x, a ≤ x → x < b → ∃ y, a ≤ y ∧ y < b ∧ f x = g y) ∧ (∀ x, a ≤ x → x < b → ∃ y, a ≤ y ∧ y < b ∧ g x = f y)
/-- A strict weak order. -/
structure Swo : Prop where
  asym : ∀ x y, lt x y = true → lt y x = false
  trans : ∀ x y z, lt x y = true → lt y z = true → lt x z = true
  inc : ∀ x y z, lt x y = false → lt y z = false → lt x z = false
variable {lt}
theorem RR.trans (h : Swo lt) {x y z : Int} (h1 : RR lt x y) (h2 : RR lt y z) : RR lt x z := by
  rcases h1 with h1 | ⟨h1, h1'⟩
  · rcases h2 with h2 | ⟨h2, h2'⟩
    · exact .inl (h.trans _ _ _ h1 h2)
    · left
      cases hz : lt x z with
      | true => rfl
      | false => have := h.inc _ _ _ hz h2; rw [h1] at this; cases this
  · rcases h2 with h2 | ⟨h2, h2'⟩
    · left
      cases hz : lt x z with
      | true => rfl
      | false => have := h.inc _ _ _ h1 hz; rw [h2] at this; cases this
    · exact .inr ⟨h.inc _ _ _ h2 h1, by omega⟩
theorem RR.irr (h : Swo lt) {x : Int} (h1 : RR lt x x) : False := by
  rcases h1 with h1 | ⟨_, h1⟩
  · have := h.asym _ _ h1; rw [h1] at this; cases this
  · omega
theorem SaS.refl (f : Nat → Int) (a b : Nat) : SaS f f a b := ⟨fun x h1 h2 => ⟨x, h1, h2, rfl⟩, fun x h1 h2 => ⟨x, h1, h2, rfl⟩⟩
theorem SaS.trans {f g k : Nat → Int} {a b : Nat} (h1 : SaS f g a b) (h2 : SaS g k a b) : SaS f k a b :=
  ⟨fun x p q => by obtain ⟨y, a1, a2, a3⟩ := h1.1 x p q; obtain ⟨z, b1, b2, b3⟩ := h2.1 y a1 a2; exact ⟨z, b1, b2, a3.trans b3⟩,
   fun x p q => by obtain ⟨y, a1, a2, a3⟩ := h2.2 x p q; obtain ⟨z, b1, b2, b3⟩ := h1.2 y a1 a2; exact ⟨z, b1, b2, a3.trans b3⟩⟩
theorem SaS.sw2 {f : Nat → Int} {a b i j : Nat} (hi : a ≤ i ∧ i < b) (hj : a ≤ j ∧ j < b) : SaS f (sw2 f i j) a b := by
  have key : ∀ x, Go.Proofs.Ytjflbnbofedlkaa.sw2 f i j (if x = i then j else if x = j then i else x) = f x := fun x => by
    unfold Go.Proofs.Ytjflbnbofedlkaa.sw2
    repeat' split
    all_goals first | (congr 1; omega) | (exfalso; omega) | rfl
  refine ⟨fun x p q => ⟨if x = i then j else if x = j then i else x, ?_, ?_, (key x).symm⟩, fun x p q => ⟨if x = i then j else if x = j then i else x, ?_, ?_, ?_⟩⟩
  · repeat' split
    all_goals omega
  · repeat' split
    all_goals omega
  · repeat' split
    all_goals omega
  · repeat' split
    all_goals omega
  · unfold Go.Proofs.Ytjflbnbofedlkaa.sw2
    repeat' split
    all_goals first | (congr 1; omega) | (exfalso; omega) | rfl
theorem SaS.rot {f : Nat → Int} {a m b : Nat} (h1 : a ≤ m) (h2 : m ≤ b) : SaS f (rotF f a m b) a b := by
  refine ⟨fun x p q => ?_, fun x p q => ?_⟩
  · by_cases h : x < m
    · refine ⟨x + (b - m), by omega, by omega, ?_⟩
      simp only [rotF]; rw [if_neg (by omega), if_pos (by omega)]; congr 1; omega
    · refine ⟨x - m + a, by omega, by omega, ?_⟩
      simp only [rotF]; rw [if_pos (by omega)]; congr 1; omega
  · simp only [rotF]
    split
    · exact ⟨x - a + m, by omega, by omega, rfl⟩
    · rw [if_pos (by omega)]; exact ⟨x - (b - m), by omega, by omega, rfl⟩
theorem SaS.widen {f g : Nat → Int} {a b c d : Nat} (h : SaS f g a b) (hc : c ≤ a) (hd : b ≤ d) (hab : a ≤ b) (ho : ∀ x, x < a ∨ b ≤ x → g x = f x) : SaS f g c d := by
  refine ⟨fun x p q => ?_, fun x p q => ?_⟩
  · by_cases hx : a ≤ x ∧ x < b
    · obtain ⟨y, h1, h2, h3⟩ := h.1 x hx.1 hx.2; exact ⟨y, by omega, by omega, h3⟩
    · exact ⟨x, p, q, (ho x (by omega)).symm⟩
  · by_cases hx : a ≤ x ∧ x < b
    · obtain ⟨y, h1, h2, h3⟩ := h.2 x hx.1 hx.2; exact ⟨y, by omega, by omega, h3⟩
    · exact ⟨x, p, q, ho x (by omega)⟩
theorem SaS.join {f g : Nat → Int} {a m b : Nat} (h1 : SaS f g a m) (h2 : SaS f g m b) (ha : a ≤ m) (hb : m ≤ b) : SaS f g a b := by
  refine ⟨fun x p q => ?_, fun x p q => ?_⟩
  · by_cases hx : x < m
    · obtain ⟨y, q1, q2, q3⟩ := h1.1 x p hx; exact ⟨y, q1, by omega, q3⟩
    · obtain ⟨y, q1, q2, q3⟩ := h2.1 x (by omega) q; exact ⟨y, by omega, q2, q3⟩
  · by_cases hx : x < m
    · obtain ⟨y, q1, q2, q3⟩ := h1.2 x p hx; exact ⟨y, q1, by omega, q3⟩
    · obtain ⟨y, q1, q2, q3⟩ := h2.2 x (by omega) q; exact ⟨y, by omega, q2, q3⟩
/-! #### the rows of an insertion -/
/-- The element at j goes to the front; all others are in order, and those behind it come behind it. -/
structure InsI (lt : Int → Int → Bool) (f g : Nat → Int) (a i j : Nat) : Prop where
  so : ∀ x y, a ≤ x → x < y → y ≤ i → x ≠ j → y ≠ j → RR lt (g x) (g y)
  be : ∀ y, j < y → y ≤ i → RR lt (g j) (g y)
  nu : ∀ x, a ≤ x → x ≤ i → x ≠ j → g x < g j
  sa : SaS f g a (i + 1)
  out : ∀ x, x < a ∨ i < x → g x = f x
theorem InsI.start {f : Nat → Int} {a i : Nat} (h : SoR lt f a i) (hu : ∀ x, a ≤ x → x < i → f x < f i) : InsI lt f f a i i :=
  ⟨fun x y h1 h2 h3 h4 h5 => h x y h1 h2 (by omega), fun y h1 h2 => by omega, fun x h1 h2 h3 => hu x h1 (by omega), SaS.refl _ _ _, fun _ _ => rfl⟩
theorem InsI.step {f g : Nat → Int} {a i j : Nat} (h : InsI lt f g a i j) (hj : a < j) (hji : j ≤ i) (hl : lt (g j) (g (j - 1)) = true) : InsI lt f (sw2 g j (j - 1)) a i (j - 1) := by
  have e1 : sw2 g j (j - 1) (j - 1) = g j := by unfold sw2; rw [if_neg (by omega), if_pos rfl]
  have e2 : sw2 g j (j - 1) j = g (j - 1) := by unfold sw2; rw [if_pos rfl]
  have e3 : ∀ x, x ≠ j → x ≠ j - 1 → sw2 g j (j - 1) x = g x := fun x h1 h2 => by unfold sw2; rw [if_neg h1, if_neg h2]
  refine ⟨fun x y h1 h2 h3 h4 h5 => ?_, fun y h1 h2 => ?_, fun x h1 h2 h3 => ?_, h.sa.trans (SaS.sw2 ⟨by omega, by omega⟩ ⟨by omega, by omega⟩), fun x hx => ?_⟩
  · by_cases hx : x = j
    · subst hx; rw [e2, e3 y (by omega) h5]; exact h.so _ _ (by omega) (by omega) h3 (by omega) (by omega)
    · by_cases hy : y = j
      · subst hy; rw [e2, e3 x hx h4]; exact h.so _ _ h1 (by omega) (by omega) hx (by omega)
      · rw [e3 x hx h4, e3 y hy h5]; exact h.so _ _ h1 h2 h3 hx hy
  · rw [e1]
    by_cases hy : y = j
    · subst hy; rw [e2]; exact .inl hl
    · rw [e3 y hy (by omega)]; exact h.be y (by omega) h2
  · rw [e1]
    by_cases hx : x = j
    · subst hx; rw [e2]; exact h.nu _ (by omega) (by omega) (by omega)
    · rw [e3 x hx h3]; exact h.nu x h1 h2 hx
  · rw [e3 x (by omega) (by omega)]; exact h.out x hx
theorem InsI.stop {f g : Nat → Int} {a i j : Nat} (hw : Swo lt) (h : InsI lt f g a i j) (haj : a ≤ j) (hji : j ≤ i) (hl : j = a ∨ lt (g j) (g (j - 1)) = false) : SoR lt g a (i + 1) := by
  intro x y h1 h2 h3
  by_cases hy : y = j
  · subst hy
    rcases hl with hl | hl
    · omega
    · have h4 : RR lt (g (y - 1)) (g y) := .inr ⟨hl, h.nu _ (by omega) (by omega) (by omega)⟩
      by_cases hx : x = y - 1
      · subst hx; exact h4
      · exact RR.trans hw (h.so x (y - 1) h1 (by omega) (by omega) (by omega) (by omega)) h4
  · by_cases hx : x = j
    · subst hx; exact h.be y h2 (by omega)
    · exact h.so x y h1 h2 (by omega) hx hy
/-- A part that was sorted. -/
structure Blo (lt : Int → Int → Bool) (f g : Nat → Int) (a b : Nat) : Prop where
  so : SoR lt g a b
  sa : SaS f g a b
  out : ∀ x, x < a ∨ b ≤ x → g x = f x
/-- Both halves are sorted; the numbers of the left one are smaller. -/
structure MrgI (lt : Int → Int → Bool) (f : Nat → Int) (a m b : Nat) : Prop where
  l : SoR lt f a m
  r : SoR lt f m b
  nu : ∀ x y, a ≤ x → x < m → m ≤ y → y < b → f x < f y
theorem MrgI.cross {f : Nat → Int} {a m b x y : Nat} (h : MrgI lt f a m b) (h1 : a ≤ x) (h2 : x < m) (h3 : m ≤ y) (h4 : y < b) : (lt (f y) (f x) = false → RR lt (f x) (f y)) ∧ (lt (f y) (f x) = true → RR lt (f y) (f x)) :=
  ⟨fun hl => .inr ⟨hl, h.nu x y h1 h2 h3 h4⟩, fun hl => .inl hl⟩
/-- One element on the left: it moves behind those that are less. -/
def mvR (f : Nat → Int) (a k : Nat) : Nat → Int := fun x => if a ≤ x ∧ x < k then f (x + 1) else if x = k then f a else f x
def mvL (f : Nat → Int) (k b : Nat) : Nat → Int := fun x => if x = k then f b else if k < x ∧ x ≤ b then f (x - 1) else f x
theorem mvR_start (f : Nat → Int) (a : Nat) : mvR f a a = f := by
  funext x; unfold mvR; rw [if_neg (by omega)]; split
  · rename_i h; rw [h]
  · rfl
theorem mvR_step {f : Nat → Int} {a k : Nat} (h : a ≤ k) : sw2 (mvR f a k) k (k + 1) = mvR f a (k + 1) := by
  funext x
  simp only [sw2, mvR]
  repeat' split
  all_goals first | (exfalso; omega) | (congr 1; omega) | rfl | exact absurd trivial (by assumption)
theorem mvL_start (f : Nat → Int) (b : Nat) : mvL f b b = f := by
  funext x; unfold mvL; split
  · rename_i h; rw [h]
  · rw [if_neg (by omega)]
theorem mvL_step {f : Nat → Int} {k b : Nat} (h : k < b + 1) (h0 : 0 < k) : sw2 (mvL f k b) k (k - 1) = mvL f (k - 1) b := by
  funext x
  simp only [sw2, mvL]
  repeat' split
  all_goals first | (exfalso; omega) | (congr 1; omega) | rfl | exact absurd trivial (by assumption)
theorem mvR_blo {f : Nat → Int} {a b i : Nat} (hw : Swo lt) (h : MrgI lt f a (a + 1) b) (hi : a + 1 ≤ i) (hib : i ≤ b) (h1 : ∀ x, a + 1 ≤ x → x < i → lt (f x) (f a) = true) (h2 : ∀ x, i ≤ x → x < b → lt (f x) (f a) = false) : Blo lt f (mvR f a (i - 1)) a b := by
  refine ⟨fun x y p q r => ?_, ⟨fun x p q => ?_, fun x p q => ?_⟩, fun x hx => ?_⟩
  · have c1 : ∀ z, a + 1 ≤ z → z < i → RR lt (f z) (f a) := fun z z1 z2 => .inl (h1 z z1 z2)
    have c2 : ∀ z, i ≤ z → z < b → RR lt (f a) (f z) := fun z z1 z2 => (h.cross (Nat.le_refl _) (by omega) (by omega) z2).1 (h2 z z1 z2)
    unfold mvR
    by_cases hx : x < i - 1
    · rw [if_pos (by omega)]
      by_cases hy : y < i - 1
      · rw [if_pos (by omega)]; exact h.r _ _ (by omega) (by omega) (by omega)
      · rw [if_neg (by omega)]
        by_cases hy2 : y = i - 1
        · rw [if_pos hy2]; exact c1 _ (by omega) (by omega)
        · rw [if_neg hy2]; exact h.r _ _ (by omega) (by omega) (by omega)
    · rw [if_neg (by omega), if_neg (show ¬(a ≤ y ∧ y < i - 1) by omega), if_neg (show ¬y = i - 1 by omega)]
      by_cases hx2 : x = i - 1
      · rw [if_pos hx2]; exact c2 _ (by omega) (by omega)
      · rw [if_neg hx2]; exact h.r _ _ (by omega) (by omega) (by omega)
  · unfold mvR
    by_cases hx : x = a
    · exact ⟨i - 1, by omega, by omega, by rw [if_neg (by omega), if_pos rfl, hx]⟩
    · by_cases hx2 : x < i
      · exact ⟨x - 1, by omega, by omega, by rw [if_pos (by omega)]; congr 1; omega⟩
      · exact ⟨x, by omega, by omega, by rw [if_neg (by omega), if_neg (by omega)]⟩
  · unfold mvR
    split
    · exact ⟨x + 1, by omega, by omega, rfl⟩
    · split
      · exact ⟨a, by omega, by omega, rfl⟩
      · exact ⟨x, p, q, rfl⟩
  · unfold mvR; rw [if_neg (by omega), if_neg (by omega)]
theorem mvL_blo {f : Nat → Int} {a m i : Nat} (hw : Swo lt) (h : MrgI lt f a m (m + 1)) (hi : a ≤ i) (him : i ≤ m) (h1 : ∀ x, a ≤ x → x < i → lt (f m) (f x) = false) (h2 : ∀ x, i ≤ x → x < m → lt (f m) (f x) = true) : Blo lt f (mvL f i m) a (m + 1) := by
  refine ⟨fun x y p q r => ?_, ⟨fun x p q => ?_, fun x p q => ?_⟩, fun x hx => ?_⟩
  · have c1 : ∀ z, a ≤ z → z < i → RR lt (f z) (f m) := fun z z1 z2 => (h.cross z1 (by omega) (Nat.le_refl _) (by omega)).1 (h1 z z1 z2)
    have c2 : ∀ z, i ≤ z → z < m → RR lt (f m) (f z) := fun z z1 z2 => .inl (h2 z z1 z2)
    unfold mvL
    by_cases hx : x < i
    · rw [if_neg (by omega), if_neg (show ¬(i < x ∧ x ≤ m) by omega)]
      by_cases hy : y = i
      · rw [if_pos hy]; exact c1 _ p hx
      · rw [if_neg hy]
        by_cases hy2 : i < y ∧ y ≤ m
        · rw [if_pos hy2]; exact h.l _ _ p (by omega) (by omega)
        · rw [if_neg hy2]; exact h.l _ _ p q (by omega)
    · rw [if_neg (show ¬y = i by omega), if_pos (show i < y ∧ y ≤ m by omega)]
      by_cases hx2 : x = i
      · rw [if_pos hx2]; exact c2 _ (by omega) (by omega)
      · rw [if_neg hx2, if_pos (by omega)]; exact h.l _ _ (by omega) (by omega) (by omega)
  · unfold mvL
    by_cases hx : x = m
    · exact ⟨i, by omega, by omega, by rw [if_pos rfl, hx]⟩
    · by_cases hx2 : i ≤ x
      · exact ⟨x + 1, by omega, by omega, by rw [if_neg (by omega), if_pos (by omega)]; congr 1⟩
      · exact ⟨x, by omega, by omega, by rw [if_neg (by omega), if_neg (by omega)]⟩
  · unfold mvL
    split
    · exact ⟨m, by omega, by omega, rfl⟩
    · split
      · exact ⟨x - 1, by omega, by omega, rfl⟩
      · exact ⟨x, p, q, rfl⟩
  · unfold mvL; rw [if_neg (by omega), if_neg (by omega)]
/-- What the search for the place to turn finds. -/
structure Turn (lt : Int → Int → Bool) (f : Nat → Int) (a m b mid s e : Nat) : Prop where
  sz : s + e = mid + m
  rg : a ≤ s ∧ s ≤ m ∧ m ≤ e ∧ e ≤ b
  lo : a < s → e < b → lt (f e) (f (s - 1)) = false
  hi : s < m → m < e → lt (f (e - 1)) (f s) = true
theorem turn_parts {f : Nat → Int} {a m b mid s e : Nat} (hw : Swo lt) (h : MrgI lt f a m b) (ht : Turn lt f a m b mid s e) (hm : a ≤ mid ∧ mid ≤ b) :
    MrgI lt (rotF f s m e) a s mid ∧ MrgI lt (rotF f s m e) mid e b ∧ ∀ x y, a ≤ x → x < mid → mid ≤ y → y < b → RR lt (rotF f s m e x) (rotF f s m e y) := by
  obtain ⟨sz, ⟨r1, r2, r3, r4⟩, lo, hi⟩ := ht
  have a1 : ∀ x, x < s → rotF f s m e x = f x := fun x hx => by simp only [rotF]; rw [if_neg (by omega), if_neg (by omega)]
  have a2 : ∀ x, s ≤ x → x < mid → rotF f s m e x = f (x - s + m) := fun x h1 h2 => by simp only [rotF]; rw [if_pos (by omega)]
  have a3 : ∀ x, mid ≤ x → x < e → rotF f s m e x = f (x - (e - m)) := fun x h1 h2 => by simp only [rotF]; rw [if_neg (by omega), if_pos (by omega)]
  have a4 : ∀ x, e ≤ x → rotF f s m e x = f x := fun x hx => by simp only [rotF]; rw [if_neg (by omega), if_neg (by omega)]
  -- the four quarters
  have lr : ∀ x y, a ≤ x → x < s → e ≤ y → y < b → RR lt (f x) (f y) := fun x y h1 h2 h3 h4 => by
    have h5 := (h.cross (x := s - 1) (y := e) (by omega) (by omega) (by omega) (by omega)).1 (lo (by omega) (by omega))
    have h6 : RR lt (f x) (f e) := by
      by_cases hx : x = s - 1
      · subst hx; exact h5
      · exact RR.trans hw (h.l x (s - 1) h1 (by omega) (by omega)) h5
    by_cases hy : y = e
    · subst hy; exact h6
    · exact RR.trans hw h6 (h.r e y (by omega) (by omega) h4)
  have rl : ∀ x y, m ≤ x → x < e → s ≤ y → y < m → RR lt (f x) (f y) := fun x y h1 h2 h3 h4 => by
    have h5 : RR lt (f (e - 1)) (f s) := .inl (hi (by omega) (by omega))
    have h6 : RR lt (f x) (f s) := by
      by_cases hx : x = e - 1
      · subst hx; exact h5
      · exact RR.trans hw (h.r x (e - 1) h1 (by omega) (by omega)) h5
    by_cases hy : y = s
    · subst hy; exact h6
    · exact RR.trans hw h6 (h.l s y (by omega) (by omega) h4)
  refine ⟨⟨fun x y h1 h2 h3 => ?_, fun x y h1 h2 h3 => ?_, fun x y h1 h2 h3 h4 => ?_⟩, ⟨fun x y h1 h2 h3 => ?_, fun x y h1 h2 h3 => ?_, fun x y h1 h2 h3 h4 => ?_⟩, fun x y h1 h2 h3 h4 => ?_⟩
  · rw [a1 x (by omega), a1 y (by omega)]; exact h.l x y h1 h2 (by omega)
  · rw [a2 x h1 (by omega), a2 y (by omega) h3]; exact h.r _ _ (by omega) (by omega) (by omega)
  · rw [a1 x h2, a2 y h3 h4]; exact h.nu _ _ h1 (by omega) (by omega) (by omega)
  · rw [a3 x h1 (by omega), a3 y (by omega) h3]; exact h.l _ _ (by omega) (by omega) (by omega)
  · rw [a4 x h1, a4 y (by omega)]; exact h.r _ _ (by omega) (by omega) (by omega)
  · rw [a3 x h1 h2, a4 y h3]; exact h.nu _ _ (by omega) (by omega) (by omega) (by omega)
  · by_cases hx : x < s
    · rw [a1 x hx]
      by_cases hy : y < e
      · rw [a3 y h3 hy]; exact h.l _ _ h1 (by omega) (by omega)
      · rw [a4 y (by omega)]; exact lr x y h1 hx (by omega) h4
    · rw [a2 x (by omega) h2]
      by_cases hy : y < e
      · rw [a3 y h3 hy]; exact rl _ _ (by omega) (by omega) (by omega) (by omega)
      · rw [a4 y (by omega)]; exact h.r _ _ (by omega) (by omega) (by omega)
theorem Blo.one {f : Nat → Int} {a b : Nat} (h : SoR lt f a b) : Blo lt f f a b := ⟨h, SaS.refl _ _ _, fun _ _ => rfl⟩
/-- Both halves, sorted one by one. -/
theorem turn_blo {f g k : Nat → Int} {a m b mid s e : Nat} (hw : Swo lt) (h : MrgI lt f a m b) (ht : Turn lt f a m b mid s e) (hm : a ≤ mid ∧ mid ≤ b) (h1 : Blo lt (rotF f s m e) g a mid) (h2 : Blo lt g k mid b) : Blo lt f k a b := by
  obtain ⟨_, _, hx⟩ := turn_parts hw h ht hm
  have hr : SaS f (rotF f s m e) a b := (SaS.rot (f := f) ht.rg.2.1 ht.rg.2.2.1).widen (by have := ht.rg; omega) (by have := ht.rg; omega) (by have := ht.rg; omega) (fun x hx => by simp only [rotF]; rw [if_neg (by have := ht.sz; have := ht.rg; omega), if_neg (by have := ht.sz; have := ht.rg; omega)])
  have hg := h1.sa.widen (c := a) (d := b) (Nat.le_refl _) hm.2 hm.1 h1.out
  have hk := h2.sa.widen (c := a) (d := b) hm.1 (Nat.le_refl _) hm.2 h2.out
  refine ⟨fun x y p q r => ?_, hr.trans (hg.trans hk), fun x hx' => ?_⟩
  · by_cases hy : y < mid
    · rw [h2.out x (by omega), h2.out y (by omega)]; exact h1.so x y p q hy
    · by_cases hxm : mid ≤ x
      · exact h2.so x y hxm q r
      · rw [h2.out x (by omega)]
        obtain ⟨x', p1, p2, p3⟩ := h1.sa.2 x p (by omega)
        obtain ⟨y', q1, q2, q3⟩ := h2.sa.2 y (by omega) r
        rw [p3, q3, h1.out y' (by omega)]
        exact hx x' y' p1 p2 q1 q2
  · rw [h2.out x (by omega), h1.out x (by omega)]
    have := ht.rg
    simp only [rotF]; rw [if_neg (by have := ht.sz; omega), if_neg (by have := ht.sz; omega)]
end
/-- Two lists in one order, with the same elements, are one. -/
theorem sorted_one {R : Int → Int → Prop} (hi : ∀ x, ¬R x x) (ht : ∀ x y z, R x y → R y z → R x z) : ∀ (l k : List Int), l.Pairwise R → k.Pairwise R → (∀ x, x ∈ l ↔ x ∈ k) → l = k
  | [], [], _, _, _ => rfl
  | [], y :: k, _, _, h => by have := (h y).2 (by simp); simp at this
  | x :: l, [], _, _, h => by have := (h x).1 (by simp); simp at this
  | x :: l, y :: k, h1, h2, h => by
    rw [List.pairwise_cons] at h1 h2
    have hxy : x = y := by
      rcases List.mem_cons.1 ((h x).1 (by simp)) with h3 | h3
      · exact h3
      · rcases List.mem_cons.1 ((h y).2 (by simp)) with h4 | h4
        · exact h4.symm
        · exact absurd (ht _ _ _ (h1.1 y h4) (h2.1 x h3)) (hi x)
    subst hxy
    congr 1
    refine sorted_one hi ht l k h1.2 h2.2 fun z => ⟨fun hz => ?_, fun hz => ?_⟩
    · rcases List.mem_cons.1 ((h z).1 (by simp [hz])) with h3 | h3
      · subst h3; exact absurd (h1.1 z hz) (hi z)
      · exact h3
    · rcases List.mem_cons.1 ((h z).2 (by simp [hz])) with h3 | h3
      · subst h3; exact absurd (h2.1 z hz) (hi z)
      · exact h3
end Go.Proofs.Ytjflbnbofedlkaa

/-
  Crossings in the order of their parts: plain part.
-/


namespace Go.Proofs.Ytjflbnbofedlkaa
set_option linter.unusedVariables false
set_option linter.unusedSimpArgs false
def gPart (gs : List GateR) (p q : SmpR) (i : Int) : PartR := match gs[i.toNat]? with | some g => partOf g p q | none => ⟨0, 0⟩
def posI (n : Int) : Int := if n ≤ 0 then 1 else n
theorem posI_pos (n : Int) : 0 < posI n := by unfold posI; split <;> omega
theorem posI_eq {n : Int} (h : 0 < n) : posI n = n := by unfold posI; rw [if_neg (by omega)]
def ltG (gs : List GateR) (p q : SmpR) (i k : Int) : Bool := decide ((gPart gs p q i).num * posI (gPart gs p q k).den < (gPart gs p q k).num * posI (gPart gs p q i).den)
theorem frac_lt {a b c d e f : Int} (hb : 0 < b) (hd : 0 < d) (hf : 0 < f) (h1 : a * d < c * b) (h2 : c * f < e * d) : a * f < e * b := by
  have h3 := Int.mul_lt_mul_of_pos_right h1 hf
  have h4 := Int.mul_lt_mul_of_pos_right h2 hb
  rw [Int.mul_right_comm c f b] at h4
  have h5 : a * f * d < e * b * d := by
    rw [Int.mul_right_comm a f d, Int.mul_right_comm e b d]; omega
  exact Int.lt_of_mul_lt_mul_right h5 (Int.le_of_lt hd)
theorem frac_le {a b c d e f : Int} (hb : 0 < b) (hd : 0 < d) (hf : 0 < f) (h1 : a * d ≤ c * b) (h2 : c * f ≤ e * d) : a * f ≤ e * b := by
  have h3 := Int.mul_le_mul_of_nonneg_right h1 (Int.le_of_lt hf)
  have h4 := Int.mul_le_mul_of_nonneg_right h2 (Int.le_of_lt hb)
  rw [Int.mul_right_comm c f b] at h4
  have h5 : a * f * d ≤ e * b * d := by
    rw [Int.mul_right_comm a f d, Int.mul_right_comm e b d]; omega
  exact Int.le_of_mul_le_mul_right h5 hd
theorem ltG_swo (gs : List GateR) (p q : SmpR) : Swo (ltG gs p q) := by
  refine ⟨fun x y h => ?_, fun x y z h1 h2 => ?_, fun x y z h1 h2 => ?_⟩
  · unfold ltG at h ⊢
    rw [decide_eq_true_eq] at h
    rw [decide_eq_false_iff_not]
    omega
  · unfold ltG at h1 h2 ⊢
    rw [decide_eq_true_eq] at h1 h2 ⊢
    exact frac_lt (posI_pos _) (posI_pos _) (posI_pos _) h1 h2
  · unfold ltG at h1 h2 ⊢
    rw [decide_eq_false_iff_not] at h1 h2 ⊢
    have := frac_le (posI_pos (gPart gs p q z).den) (posI_pos (gPart gs p q y).den) (posI_pos (gPart gs p q x).den) (Int.not_lt.1 h2) (Int.not_lt.1 h1)
    omega
section
variable (lt : Int → Int → Bool)
def insR (x : Int) : List Int → List Int
  | [] => [x]
  | y :: l => if lt x y || (!lt y x && decide (x < y)) then x :: y :: l else y :: insR x l
def isR : List Int → List Int
  | [] => []
  | x :: l => insR lt x (isR l)
variable {lt}
theorem mem_insR {x z : Int} : ∀ {l : List Int}, z ∈ insR lt x l ↔ z = x ∨ z ∈ l
  | [] => by simp [insR]
  | y :: l => by
    unfold insR; split
    · simp
    · rw [List.mem_cons, mem_insR (l := l), List.mem_cons]
      constructor
      · rintro (h | h | h)
        · exact .inr (.inl h)
        · exact .inl h
        · exact .inr (.inr h)
      · rintro (h | h | h)
        · exact .inr (.inl h)
        · exact .inl h
        · exact .inr (.inr h)
theorem pair_insR (hw : Swo lt) {x : Int} : ∀ {l : List Int}, l.Pairwise (RR lt) → x ∉ l → (insR lt x l).Pairwise (RR lt)
  | [], _, _ => by simp [insR]
  | y :: l, h, hx => by
    unfold insR
    rw [List.pairwise_cons] at h
    split
    · rename_i hc
      have hr : RR lt x y := by
        rw [Bool.or_eq_true, Bool.and_eq_true, Bool.not_eq_true', decide_eq_true_eq] at hc
        exact hc
      refine List.pairwise_cons.2 ⟨fun z hz => ?_, List.pairwise_cons.2 h⟩
      rcases List.mem_cons.1 hz with rfl | hz
      · exact hr
      · exact hr.trans hw (h.1 z hz)
    · rename_i hc
      have hr : RR lt y x := by
        rw [Bool.or_eq_true, Bool.and_eq_true, Bool.not_eq_true', decide_eq_true_eq] at hc
        unfold RR
        cases h1 : lt y x with
        | true => exact .inl rfl
        | false =>
          cases h2 : lt x y with
          | true => exact absurd (.inl h2) hc
          | false =>
            refine .inr ⟨rfl, ?_⟩
            have : x ≠ y := fun e => hx (by rw [e]; simp)
            have : ¬x < y := fun h3 => hc (.inr ⟨h1, h3⟩)
            omega
      refine List.pairwise_cons.2 ⟨fun z hz => ?_, pair_insR hw h.2 fun hm => hx (List.mem_cons_of_mem _ hm)⟩
      rcases mem_insR.1 hz with rfl | hz
      · exact hr
      · exact h.1 z hz
theorem mem_isR {z : Int} : ∀ {l : List Int}, z ∈ isR lt l ↔ z ∈ l
  | [] => by simp [isR]
  | x :: l => by rw [isR, mem_insR, mem_isR, List.mem_cons]
theorem pair_isR (hw : Swo lt) : ∀ {l : List Int}, l.Nodup → (isR lt l).Pairwise (RR lt)
  | [], _ => by simp [isR]
  | x :: l, h => by
    rw [List.nodup_cons] at h
    rw [isR]
    exact pair_insR hw (pair_isR hw h.2) fun hm => h.1 (mem_isR.1 hm)
theorem len_insR {x : Int} : ∀ {l : List Int}, (insR lt x l).length = l.length + 1
  | [] => rfl
  | y :: l => by
    unfold insR; split
    · simp
    · rw [List.length_cons, len_insR, List.length_cons]
theorem len_isR : ∀ {l : List Int}, (isR lt l).length = l.length
  | [] => rfl
  | x :: l => by rw [isR, len_insR, len_isR, List.length_cons]
end
theorem gIdx_up (gs : List GateR) (p q : SmpR) (k : Nat) : (gIdx gs p q k).Pairwise (· < ·) := by
  unfold gIdx
  rw [List.pairwise_map]
  exact (List.pairwise_lt_range.filter _).imp (fun h => by omega)
theorem up_nodup {l : List Int} (h : l.Pairwise (· < ·)) : l.Nodup := h.imp fun h => by omega
/-- The gates that a step crosses, in the order of their parts. -/
def gOrd (gs : List GateR) (p q : SmpR) (k : Nat) : List Int := isR (ltG gs p q) (gIdx gs p q k)
theorem gOrd_mem {gs : List GateR} {p q : SmpR} {k : Nat} {x : Int} : x ∈ gOrd gs p q k ↔ x ∈ gIdx gs p q k := mem_isR
theorem gOrd_pair (gs : List GateR) (p q : SmpR) (k : Nat) : (gOrd gs p q k).Pairwise (RR (ltG gs p q)) := pair_isR (ltG_swo gs p q) (up_nodup (gIdx_up gs p q k))
theorem gOrd_len (gs : List GateR) (p q : SmpR) (k : Nat) : (gOrd gs p q k).length = (gIdx gs p q k).length := len_isR
theorem gOrd_one {gs : List GateR} {p q : SmpR} {k : Nat} {l : List Int} (h : l.Pairwise (RR (ltG gs p q))) (hm : ∀ x, x ∈ l ↔ x ∈ gIdx gs p q k) : l = gOrd gs p q k :=
  sorted_one (fun x hx => RR.irr (ltG_swo gs p q) hx) (fun x y z => RR.trans (ltG_swo gs p q)) _ _ h (gOrd_pair gs p q k) fun x => (hm x).trans gOrd_mem.symm
theorem tab_mem {n : Nat} {f : Nat → Int} {x : Int} : x ∈ tab n f ↔ ∃ i, i < n ∧ f i = x := by simp [tab]
theorem tab_pair {lt : Int → Int → Bool} {n : Nat} {f : Nat → Int} (h : SoR lt f 0 n) : (tab n f).Pairwise (RR lt) := by
  unfold tab
  rw [List.pairwise_map]
  refine List.pairwise_iff_getElem.2 fun i j hi hj hij => ?_
  simp only [List.getElem_range]
  rw [List.length_range] at hj
  exact h i j (Nat.zero_le _) hij hj
theorem tab_of (l : List Int) : ∃ f : Nat → Int, l = tab l.length f ∧ ∀ (i : Nat) x, l[i]? = some x → f i = x := by
  refine ⟨fun i => l.getD i 0, ?_, fun i x h => by simp [List.getD, h]⟩
  apply List.ext_getElem (by simp)
  intro i h1 h2
  simp [tab, List.getD, h1]
theorem SaS.mem {f g : Nat → Int} {n : Nat} (h : SaS f g 0 n) (x : Int) : x ∈ tab n f ↔ x ∈ tab n g := by
  rw [tab_mem, tab_mem]
  constructor
  · rintro ⟨i, hi, rfl⟩; obtain ⟨y, _, h2, h3⟩ := h.1 i (Nat.zero_le _) hi; exact ⟨y, h2, h3.symm⟩
  · rintro ⟨i, hi, rfl⟩; obtain ⟨y, _, h2, h3⟩ := h.2 i (Nat.zero_le _) hi; exact ⟨y, h2, h3.symm⟩
/-- The crossings of the first k steps. -/
def crossS (gs : List GateR) (st : List (SmpR × SmpR)) : Nat → List CrossR
  | 0 => []
  | k + 1 => crossS gs st k ++ (match st[k]? with | some x => (gOrd gs x.1 x.2 gs.length).map (crossOf gs x.1 x.2 k) | none => [])
theorem crossS_succ {gs : List GateR} {st : List (SmpR × SmpR)} {k : Nat} {x : SmpR × SmpR} (h : st[k]? = some x) : crossS gs st (k + 1) = crossS gs st k ++ (gOrd gs x.1 x.2 gs.length).map (crossOf gs x.1 x.2 k) := by rw [crossS, h]
theorem gPart_at {gs : List GateR} {p q : SmpR} {i : Nat} {g : GateR} (h : gs[i]? = some g) : gPart gs p q (i : Int) = partOf g p q := by unfold gPart; rw [Int.toNat_natCast, h]
end Go.Proofs.Ytjflbnbofedlkaa

/-
  Contracts of functions of package slices, at int.
-/


namespace Go.Proofs.Ytjflbnbofedlkaa
open Go Go.RowKit Hx
set_option linter.unusedVariables false
set_option linter.unusedSimpArgs false

def maxV : List Int → Int
  | [] => 0
  | x :: r => r.foldl max x
def idxI (ys : List Int) (v : Int) : Int := match ys.findIdx? (· == v) with | some i => i | none => -1
end Go.Proofs.Ytjflbnbofedlkaa

/-
  More rules: an append of a whole slice to none.
-/


namespace Go.Proofs.Ytjflbnbofedlkaa.Hx
open Go Go.RowKit
set_option linter.unusedVariables false
set_option linter.unusedSimpArgs false
section
variable {P : Program} {N : Fr} {B : Nat} {w0 : World} {Q : Exit → Act → World → Prop} {al : AL} {H : HL} {ops rest : List Oper} {d : Nat} {ty : TypeId} {pos : String} {after : Array Edge}
theorem r_append_nn {s x : Operand} {t e : TypeId} {size bytes c : Nat} (hs : ev al s = some (.slice none 0 0)) (hx : ev al x = some (.slice none 0 c)) (hT : RowT P t e size bytes) :
    Runs P N B w0 (.call { callee := .builtin .append, args := #[s, x], argTypes := #[t, t] }) ty al H (.slice none 0 0) := fun a w hst => by
  obtain ⟨hu, i, z, hi, hz, hsz, hby, hzz, hpos⟩ := hT
  simp [BigFrame.execOp_builtin, BigFrame.builtin_append, hst.regs.eval hs, hst.regs.eval hx, Builtin.append_, run_underlying hu, sizeOf, typeInfo, hi, Builtin.lenOf, Builtin.firstCells]
/-- A loop, its rounds one by one. -/
theorem wp_seq_cutM {x y : Code} {σ : Type} (I : σ → Prop) (M : σ → AL) (L : AL) (G : σ → HL) (G0 : HL) (hL : Sub L al) (hh0 : SubH G0 H)
    (hx : ∀ K : Act → World → Prop, (∀ s al' H', I s → Sub (M s) al' → Sub L al' → SubH (G s) H' → SubH G0 H' → KP N B w0 K al' H') → WP P N B w0 x (Exit.then K Q) al H)
    (hy : ∀ s, I s → WP P N B w0 y Q (M s ++ L) (G s ++ G0)) : WP P N B w0 (.seq x y) Q al H :=
  wp_seq_cut I (fun s => M s ++ L) (fun s => G s ++ G0) (fun K hK => hx K fun s al' H' h1 h2 h3 h4 h5 => (hK s h1).sub (sub_app h2 h3) (subH_app h4 h5)) hy
theorem look_shadow {β : Type} (id : Nat) (x y : β) (H : List (Nat × β)) (j : Nat) : look ((id, x) :: (id, y) :: H) j = look ((id, x) :: H) j := by
  by_cases h : id = j
  · subst h; rw [look_cons_eq, look_cons_eq]
  · rw [look_cons_ne _ _ h, look_cons_ne _ _ h, look_cons_ne _ _ h]
theorem Sat.shadow {w : World} {id : Nat} {x y : Ent} (h : Sat B w ((id, x) :: (id, y) :: H)) : Sat B w ((id, x) :: H) :=
  ⟨fun i e he => h.ok i e (by rw [look_shadow]; exact he), fun i j e f hij he hf => h.apart i j e f hij (by rw [look_shadow]; exact he) (by rw [look_shadow]; exact hf)⟩
/-- What H' tells, H tells under other numbers. -/
def Keyed (H : HL) (ks : List (Nat × Nat)) (H' : HL) : Prop := ∀ j e, look H' j = some e → ∃ i, (i, j) ∈ ks ∧ look H i = some e
theorem Sat.keys {w : World} {H' : HL} (h : Sat B w H) (ks : List (Nat × Nat)) (hk : Keyed H ks H') (hd : ∀ p ∈ ks, ∀ q ∈ ks, p.1 = q.1 → p.2 = q.2) : Sat B w H' :=
  ⟨fun j e he => by obtain ⟨i, _, h2⟩ := hk j e he; exact h.ok i e h2, fun j j' e f hj he hf => by
    obtain ⟨i, a1, a2⟩ := hk j e he
    obtain ⟨i', b1, b2⟩ := hk j' f hf
    exact h.apart i i' e f (fun hii => hj (hd _ a1 _ b1 hii)) a2 b2⟩
theorem ol_appendN {s x : Operand} {m c : Nat} {ad : Option Addr} {t e : TypeId} {size bytes : Nat} {α : Type} (E : Enc α) {ys : List α} (id : Nat) (hs : ev al s = some (.slice none 0 0)) (hx : ev al x = some (.slice ad m c)) (hl : Rd E B w0 ad m c ys)
    (hz : size = E.size) (hT : RowT P t e size bytes) (hb : m ≤ 9223372036854775807 ∧ m * bytes ≤ 140737488355328) (hd : Nat.blt d N.n = true)
    (k : ∀ a' cap', OL P N B w0 ops rest Q ((d, .slice a' m cap') :: al) ((id, .row a' m cap' (E.enc ys) e size) :: H)) :
    OL P N B w0 ops ({ dst := some d, op := .call { callee := .builtin .append, args := #[s, x], argTypes := #[t, t] }, type := ty, pos, after, guard := none } :: rest) Q al H := by
  have hlen := hl.len
  cases ad with
  | none =>
    have hm : m = 0 := by
      cases m with
      | zero => rfl
      | succ m => have := hl.isSome (by omega); simp at this
    subst hm
    have hys : ys = [] := List.eq_nil_of_length_eq_zero hlen
    subst hys
    exact ol_r (r_append_nn hs hx hT) hd (ol_nilrow id e size (k none 0))
  | some p =>
    refine ol_nilrow id e size ?_
    refine ol_append (id := id) (news := E.enc ys) hs (look_cons_eq ..) hx hT (by rw [Enc.enc_len, hlen, hz]) (E.ones_enc ys) (fun w1 hb1 hs1 hB1 => ⟨p, rfl, (hl.below hb1).flat rfl⟩) (by simpa using hb) hd fun a' c' => ?_
    have h := k a' c'
    simp only [Nat.zero_add, List.nil_append]
    exact fun a w hst => h a w (hst.step hst.regs hst.below (Sat.shadow hst.sat) hst.base (Kd.refl _ _))
end
end Go.Proofs.Ytjflbnbofedlkaa.Hx

/-
  The stable sort of Go's library, over a row of ints of the caller's: walked. (Printed by gen_stab.py.)
-/



namespace Go.Proofs.Ytjflbnbofedlkaa
open Go Go.RowKit Hx
set_option linter.unusedVariables false
set_option linter.unusedSimpArgs false
set_option maxRecDepth 8000
def ltC (cf : Int → Int → Int) (x y : Int) : Bool := decide (cf x y < 0)
theorem ltC_t {cf : Int → Int → Int} {x y : Int} (h : cf x y < 0) : ltC cf x y = true := decide_eq_true h
theorem ltC_f {cf : Int → Int → Int} {x y : Int} (h : ¬cf x y < 0) : ltC cf x y = false := decide_eq_false h
theorem tab_eq {n : Nat} {f : Nat → Int} {k : Nat} {x : Int} (h : (tab n f)[k]? = some x) : f k = x := (tab_get h).2.symm
theorem sw_row {n i j : Nat} {f : Nat → Int} {x y : Int} {u v : Int} (hu : u.toNat = i) (hv : v.toNat = j) (hx : ∃ k, k = j ∧ (tab n f)[k]? = some x) (hy : ∃ k, k = i ∧ (tab n f)[k]? = some y) : ((tab n f).set u.toNat x).set v.toNat y = tab n (sw2 f i j) := by
  obtain ⟨_, rfl, hx⟩ := hx
  obtain ⟨_, rfl, hy⟩ := hy
  have h1 := tab_get hx
  have h2 := tab_get hy
  rw [hu, hv, h1.2, h2.2]
  exact tab_sw2 f h2.1 h1.1
theorem r_subT {P : Program} {N : Fr} {B : Nat} {w0 : World} {al : AL} {H : HL} {ty : TypeId} {x y : Operand} {t t' : TypeId} {m l : Int} (v : Nat) (hx : ev al x = some (.int .i64 m)) (hy : ev al y = some (.int .i64 l)) (h : m - l = v) (hv : v ≤ 1000000000000) : Runs P N B w0 (.binOp .sub t x y t') ty al H (.int .i64 (v : Int)) := by
  have h2 := r_sub (P := P) (N := N) (B := B) (w0 := w0) (H := H) (ty := ty) (t := t) (t' := t') hx hy (by omega)
  rw [h] at h2; exact h2
theorem r_addT {P : Program} {N : Fr} {B : Nat} {w0 : World} {al : AL} {H : HL} {ty : TypeId} {x y : Operand} {t t' : TypeId} {m l : Int} (v : Nat) (hx : ev al x = some (.int .i64 m)) (hy : ev al y = some (.int .i64 l)) (h : m + l = v) (hv : v ≤ 1000000000000) : Runs P N B w0 (.binOp .add t x y t') ty al H (.int .i64 (v : Int)) := by
  have h2 := r_add (P := P) (N := N) (B := B) (w0 := w0) (H := H) (ty := ty) (t := t) (t' := t') hx hy (by omega)
  rw [h] at h2; exact h2
theorem r_mulT {P : Program} {N : Fr} {B : Nat} {w0 : World} {al : AL} {H : HL} {ty : TypeId} {x y : Operand} {t t' : TypeId} {m l : Int} (v : Nat) (hx : ev al x = some (.int .i64 m)) (hy : ev al y = some (.int .i64 l)) (h : m * l = v) (hv : v ≤ 1000000000000) : Runs P N B w0 (.binOp .mul t x y t') ty al H (.int .i64 (v : Int)) := by
  have h2 := r_mul (P := P) (N := N) (B := B) (w0 := w0) (H := H) (ty := ty) (t := t) (t' := t') hx hy (by omega)
  rw [h] at h2; exact h2
theorem rotF_id1 (f : Nat → Int) (m b : Nat) : rotF f m m b = f := by
  funext x
  simp only [rotF]
  repeat' split
  all_goals first | (exfalso; omega) | (congr 1; omega) | rfl
theorem rotF_id2 (f : Nat → Int) (a m : Nat) : rotF f a m m = f := by
  funext x
  simp only [rotF]
  repeat' split
  all_goals first | (exfalso; omega) | (congr 1; omega) | rfl
theorem RR.lt_left {lt : Int → Int → Bool} (hw : Swo lt) {x h p : Int} (h1 : RR lt x h) (h2 : lt h p = true) : lt x p = true := by
  rcases h1 with h1 | ⟨h1, _⟩
  · exact hw.trans _ _ _ h1 h2
  · cases h3 : lt x p with
    | true => rfl
    | false => have := hw.inc _ _ _ h1 h3; rw [h2] at this; cases this
theorem RR.lt_right {lt : Int → Int → Bool} (hw : Swo lt) {x h m : Int} (h1 : RR lt x h) (h2 : lt m x = true) : lt m h = true := by
  rcases h1 with h1 | ⟨h1, _⟩
  · exact hw.trans _ _ _ h2 h1
  · cases h3 : lt m h with
    | true => rfl
    | false => have := hw.inc _ _ _ h3 h1; rw [h2] at this; cases this
theorem good_of {Good : Int → Prop} {f g : Nat → Int} {n : Nat} (h : ∀ i, i < n → Good (f i)) (hs : SaS f g 0 n) : ∀ i, i < n → Good (g i) := fun i hi => by
  obtain ⟨y, _, h2, h3⟩ := hs.2 i (Nat.zero_le _) hi
  rw [h3]; exact h y h2
theorem Blo.all {lt : Int → Int → Bool} {f g : Nat → Int} {a b n : Nat} (h : Blo lt f g a b) (hab : a ≤ b) (hb : b ≤ n) : SaS f g 0 n := h.sa.widen (Nat.zero_le _) hb hab h.out
/-- Blocks of a size are sorted, each with what it held. -/
def Blks (lt : Int → Int → Bool) (f F : Nat → Int) (s n : Nat) : Prop := ∀ p, s ∣ p → p < n → SoR lt F p (min (p + s) n) ∧ SaS f F p (min (p + s) n)

theorem swapRange_w (cf : Int → Int → Int) (Good : Int → Prop) (B : Nat) (cb : Nat) (a : Option Addr) (n c : Nat) (e1 e2 e3 e4 e5 e6 e7 e8 e9 e10 : Ent) (f : Nat → Int) (p q m : Nat) (w : World) (hB : B ≤ w.heap.size) (hn : n ≤ 1000000) (h1 : p + m ≤ q) (h2 : q + m ≤ n) (hs : Sat B w [(5000, .row a n c (encI.enc (tab n f)) 3 1), (5001, e1), (5002, e2), (5003, e3), (5004, e4), (5005, e5), (5006, e6), (5007, e7), (5008, e8), (5009, e9), (5010, e10)]) :
    Calls Try.prog 157 #[.slice a n c, .int .i64 p, .int .i64 q, .int .i64 m, .func (.func 104) #[] #[.pointer (some ⟨cb, 0, none⟩)]] w fun e w' => ∃ g, e = .returned (.tuple #[]) ∧ Below B w w' ∧ Sat B w' [(5000, .row a n c (encI.enc (tab n g)) 3 1), (5001, e1), (5002, e2), (5003, e3), (5004, e4), (5005, e5), (5006, e6), (5007, e7), (5008, e8), (5009, e9), (5010, e10)] ∧ B ≤ w'.heap.size ∧ Kd (fun _ => False) w w' ∧ g = swF f p q m := by

  refine enterQ (N := 38) (C := fun _ => False) (H := [(5000, .row a n c (encI.enc (tab n f)) 3 1), (5001, e1), (5002, e2), (5003, e3), (5004, e4), (5005, e5), (5006, e6), (5007, e7), (5008, e8), (5009, e9), (5010, e10)]) (B := B) (args := [_, _, _, _, _]) Try.func157 rfl rfl rfl (hB) (hs) fun Q hQ => ?_
  refine wp_seq' fun K1 hK1 => ?_
  refine wp_reg ?_
  refine ol_r (r_assign rfl) rfl ?_
  refine ol_nil (to_k0 (fun _ _ h => h) (hK1 _ _ _ _ _ ?_))
  clear hK1
  refine wp_block' ?_
  apply wp_loopM (σ := Nat) (fun s => s ≤ m) (fun s => [(10, .int .i64 s)]) [(0, _), (1, _), (2, _), (3, _)] (fun s => [(5000, .row a n c (encI.enc (tab n (swF f p q s))) 3 1)]) [(5001, _), (5002, _), (5003, _), (5004, _), (5005, _), (5006, _), (5007, _), (5008, _), (5009, _), (5010, _)] (fun s => m - s) (0)
  ·try dsimp only
   exact Nat.zero_le _
  ·exact (sub_cons rfl sub_nil)
  ·exact (sub_cons rfl (sub_cons rfl (sub_cons rfl (sub_cons rfl sub_nil))))
  ·exact (subH_row rfl (by rw [swF_zero]) subH_nil)
  ·exact (subH_same rfl (subH_same rfl (subH_same rfl (subH_same rfl (subH_same rfl (subH_same rfl (subH_same rfl (subH_same rfl (subH_same rfl (subH_same rfl subH_nil))))))))))
  ·rintro k hk
   have hFl := tab_len n (swF f p q k)
   intro K2 hK2
   refine wp_seq' fun K3 hK3 => ?_
   refine wp_seq' fun K4 hK4 => ?_
   refine wp_reg ?_
   refine ol_r (r_move rfl) rfl ?_
   refine ol_r (r_move rfl) rfl ?_
   refine ol_r (r_lss rfl rfl) rfl ?_
   refine ol_nil (to_k0 (fun _ _ h => h) (hK4 _ _ _ _ _ ?_))
   clear hK4
   refine wp_condD rfl (fun hc13 => ?_) (fun hc13 => ?_)
   ·refine wp_skip' (to_k0 (fun _ _ h => h) (hK3 _ _ _ _ _ ?_))
    clear hK3
    refine wp_seq' fun K5 hK5 => ?_
    refine wp_block' ?_
    refine wp_rega [(999, [(5001, _), (5002, _), (5003, _), (5004, _), (5005, _), (5006, _), (5007, _), (5008, _), (5009, _), (5010, _)]), (21, [(5000, _)])] (by kernel_rfl) ⟨.inr (subH_same rfl (subH_same rfl (subH_same rfl (subH_same rfl (subH_same rfl (subH_same rfl (subH_same rfl (subH_same rfl (subH_same rfl (subH_same rfl subH_nil)))))))))), ⟨.inr (subH_same rfl subH_nil), trivial⟩⟩ ?_
    refine aq_r 0 999 rfl (by kernel_rfl) (by kernel_rfl) (by kernel_rfl) (.head _) (by kernel_rfl) (by kernel_rfl) rfl (r_move rfl) ?_
    refine aq_r 1 999 rfl (by kernel_rfl) (by kernel_rfl) (by kernel_rfl) (.head _) (by kernel_rfl) (by kernel_rfl) rfl (r_move rfl) ?_
    refine aq_r 2 999 rfl (by kernel_rfl) (by kernel_rfl) (by kernel_rfl) (.head _) (by kernel_rfl) (by kernel_rfl) rfl (r_move rfl) ?_
    refine aq_r 3 999 rfl (by kernel_rfl) (by kernel_rfl) (by kernel_rfl) (.head _) (by kernel_rfl) (by kernel_rfl) rfl (r_add rfl rfl (by omega)) ?_
    refine aq_r 4 999 rfl (by kernel_rfl) (by kernel_rfl) (by kernel_rfl) (.head _) (by kernel_rfl) (by kernel_rfl) rfl (r_move rfl) ?_
    refine aq_r 5 999 rfl (by kernel_rfl) (by kernel_rfl) (by kernel_rfl) (.head _) (by kernel_rfl) (by kernel_rfl) rfl (r_move rfl) ?_
    refine aq_r 6 999 rfl (by kernel_rfl) (by kernel_rfl) (by kernel_rfl) (.head _) (by kernel_rfl) (by kernel_rfl) rfl (r_move rfl) ?_
    refine aq_r 7 999 rfl (by kernel_rfl) (by kernel_rfl) (by kernel_rfl) (.head _) (by kernel_rfl) (by kernel_rfl) rfl (r_add rfl rfl (by omega)) ?_
    refine aq_r 8 999 rfl (by kernel_rfl) (by kernel_rfl) (by kernel_rfl) (.head _) (by kernel_rfl) (by kernel_rfl) rfl (r_move rfl) ?_
    refine aq_r 9 999 rfl (by kernel_rfl) (by kernel_rfl) (by kernel_rfl) (.head _) (by kernel_rfl) (by kernel_rfl) rfl (r_move rfl) ?_
    refine aq_r 10 999 rfl (by kernel_rfl) (by kernel_rfl) (by kernel_rfl) (.head _) (by kernel_rfl) (by kernel_rfl) rfl (r_move rfl) ?_
    refine aq_r 11 999 rfl (by kernel_rfl) (by kernel_rfl) (by kernel_rfl) (.head _) (by kernel_rfl) (by kernel_rfl) rfl (r_add rfl rfl (by omega)) ?_
    refine aq_ixo 12 21 rfl (by kernel_rfl) (by kernel_rfl) (by kernel_rfl) (.tail _ (.head _)) (by kernel_rfl) (by kernel_rfl) rfl (id := 5000) encI _ rfl rfl rfl rfl sl150 (by omega) (by omega) fun x28 hx28 => ?_
    try simp only [Int.toNat_natCast] at hx28
    try simp only [Int.toNat_natCast] at hx28
    refine aq_r 13 21 rfl (by kernel_rfl) (by kernel_rfl) (by kernel_rfl) (.tail _ (.head _)) (by kernel_rfl) (by kernel_rfl) rfl (r_ldw rfl (fun w1 hb1 hs1 hB1 => show Loads _ _ _ _ (.int .i64 x28) from ld_own (id := 5000) hs1 rfl rfl ty3 hx28)) ?_
    refine aq_r 14 999 rfl (by kernel_rfl) (by kernel_rfl) (by kernel_rfl) (.head _) (by kernel_rfl) (by kernel_rfl) rfl (r_move rfl) ?_
    refine aq_r 15 999 rfl (by kernel_rfl) (by kernel_rfl) (by kernel_rfl) (.head _) (by kernel_rfl) (by kernel_rfl) rfl (r_move rfl) ?_
    refine aq_r 16 999 rfl (by kernel_rfl) (by kernel_rfl) (by kernel_rfl) (.head _) (by kernel_rfl) (by kernel_rfl) rfl (r_move rfl) ?_
    refine aq_r 17 999 rfl (by kernel_rfl) (by kernel_rfl) (by kernel_rfl) (.head _) (by kernel_rfl) (by kernel_rfl) rfl (r_add rfl rfl (by omega)) ?_
    refine aq_one (i := 18) (by kernel_rfl) rfl fun K6 hK6 => ?_
    refine ol_ixo (id := 5000) encI _ rfl rfl rfl rfl sl150 (by omega) rfl fun x34 hx34 => ?_
    try simp only [Int.toNat_natCast] at hx34
    try simp only [Int.toNat_natCast] at hx34
    refine ol_nil (to_k0 (fun _ _ h => h) (hK6 _ _ ⟨.inr (by repeat' first | exact subH_nil | refine subH_same rfl ?_ | (refine subH_blk rfl (by repeat' first | exact sub_nil | refine sub_cons rfl ?_) ?_)), ⟨.inr (by repeat' first | exact subH_nil | refine subH_same rfl ?_ | (refine subH_blk rfl (by repeat' first | exact sub_nil | refine sub_cons rfl ?_) ?_)), trivial⟩⟩ ?_))
    clear hK6
    refine aq_r 19 21 rfl (by kernel_rfl) (by kernel_rfl) (by kernel_rfl) (.tail _ (.head _)) (by kernel_rfl) (by kernel_rfl) rfl (r_ldw rfl (fun w1 hb1 hs1 hB1 => show Loads _ _ _ _ (.int .i64 x34) from ld_own (id := 5000) hs1 rfl rfl ty3 hx34)) ?_
    refine aq_ixo 20 21 rfl (by kernel_rfl) (by kernel_rfl) (by kernel_rfl) (.tail _ (.head _)) (by kernel_rfl) (by kernel_rfl) rfl (id := 5000) encI _ rfl rfl rfl rfl sl150 (by omega) (by omega) fun x36 hx36 => ?_
    try simp only [Int.toNat_natCast] at hx36
    try simp only [Int.toNat_natCast] at hx36
    refine aq_one (i := 21) (by kernel_rfl) rfl fun K7 hK7 => ?_
    refine ol_storeRow (id := 5000) _ _ _ rfl rfl rfl rfl sz3 (by omega) ?_
    refine ol_nil (to_k0 (fun _ _ h => h) (hK7 _ _ ⟨.inr (by repeat' first | exact subH_nil | refine subH_same rfl ?_ | (refine subH_blk rfl (by repeat' first | exact sub_nil | refine sub_cons rfl ?_) ?_)), ⟨.inl (by kernel_rfl), trivial⟩⟩ ?_))
    clear hK7
    refine aq_one (i := 22) (by kernel_rfl) rfl fun K8 hK8 => ?_
    refine ol_ixo (id := 5000) encI _ rfl rfl rfl rfl sl150 (by omega) rfl fun x37 hx37 => ?_
    try simp only [Int.toNat_natCast] at hx37
    try simp only [Int.toNat_natCast] at hx37
    refine ol_nil (to_k0 (fun _ _ h => h) (hK8 _ _ ⟨.inr (by repeat' first | exact subH_nil | refine subH_same rfl ?_ | (refine subH_blk rfl (by repeat' first | exact sub_nil | refine sub_cons rfl ?_) ?_)), ⟨.inl (by kernel_rfl), trivial⟩⟩ ?_))
    clear hK8
    refine aq_one (i := 23) (by kernel_rfl) rfl fun K9 hK9 => ?_
    refine ol_storeRow (id := 5000) _ _ _ rfl rfl rfl rfl sz3 (by omega) ?_
    refine ol_nil (to_k0 (fun _ _ h => h) (hK9 _ _ ⟨.inr (by repeat' first | exact subH_nil | refine subH_same rfl ?_ | (refine subH_blk rfl (by repeat' first | exact sub_nil | refine sub_cons rfl ?_) ?_)), ⟨.inl (by kernel_rfl), trivial⟩⟩ ?_))
    clear hK9
    refine aq_done (by kernel_rfl) ?_
    refine (to_k0 (fun _ _ h => h) (hK5 _ _ _ _ _ ?_))
    clear hK5
    refine wp_reg ?_
    refine ol_r (r_move rfl) rfl ?_
    refine ol_r (r_add rfl rfl (by omega)) rfl ?_
    refine ol_r (r_assign rfl) rfl ?_
    refine ol_nil (to_k0 (fun _ _ h => h) (hK2 (k + 1) _ _ ?_ ?_ (sub_cons rfl sub_nil) (sub_cons rfl (sub_cons rfl (sub_cons rfl (sub_cons rfl sub_nil)))) (by exact (subH_row rfl (by (rw [swF_succ (by omega), sw_row (i := p + k) (j := q + k) (by omega) (by omega) ⟨_, by omega, hx28⟩ ⟨_, by omega, hx34⟩])) subH_nil)) (subH_same rfl (subH_same rfl (subH_same rfl (subH_same rfl (subH_same rfl (subH_same rfl (subH_same rfl (subH_same rfl (subH_same rfl (subH_same rfl subH_nil))))))))))))
    ·try dsimp only
     omega
    ·try dsimp only
     omega
   ·refine wp_exit' (hQ.fall rvs0 (fun _ _ h => h) fun w hb hs hB hkd => ?_)
    obtain rfl : k = m := by omega
    exact ⟨_, rfl, hb, hs.sub (subH_same rfl (subH_same rfl (subH_same rfl (subH_same rfl (subH_same rfl (subH_same rfl (subH_same rfl (subH_same rfl (subH_same rfl (subH_same rfl (subH_same rfl subH_nil))))))))))), hB, hkd, rfl⟩

theorem rotate_w (cf : Int → Int → Int) (Good : Int → Prop) (B : Nat) (cb : Nat) (a : Option Addr) (n c : Nat) (e1 e2 e3 e4 e5 e6 e7 e8 e9 e10 : Ent) (f : Nat → Int) (p m q : Nat) (w : World) (hB : B ≤ w.heap.size) (hn : n ≤ 1000000) (h1 : p < m) (h2 : m < q) (h3 : q ≤ n) (hs : Sat B w [(5000, .row a n c (encI.enc (tab n f)) 3 1), (5001, e1), (5002, e2), (5003, e3), (5004, e4), (5005, e5), (5006, e6), (5007, e7), (5008, e8), (5009, e9), (5010, e10)]) :
    Calls Try.prog 156 #[.slice a n c, .int .i64 p, .int .i64 m, .int .i64 q, .func (.func 104) #[] #[.pointer (some ⟨cb, 0, none⟩)]] w fun e w' => ∃ g, e = .returned (.tuple #[]) ∧ Below B w w' ∧ Sat B w' [(5000, .row a n c (encI.enc (tab n g)) 3 1), (5001, e1), (5002, e2), (5003, e3), (5004, e4), (5005, e5), (5006, e6), (5007, e7), (5008, e8), (5009, e9), (5010, e10)] ∧ B ≤ w'.heap.size ∧ Kd (fun _ => False) w w' ∧ g = rotF f p m q := by

  refine enterQ (N := 58) (C := fun _ => False) (H := [(5000, .row a n c (encI.enc (tab n f)) 3 1), (5001, e1), (5002, e2), (5003, e3), (5004, e4), (5005, e5), (5006, e6), (5007, e7), (5008, e8), (5009, e9), (5010, e10)]) (B := B) (args := [_, _, _, _, _]) Try.func156 rfl rfl rfl (hB) (hs) fun Q hQ => ?_
  refine wp_seq' fun K1 hK1 => ?_
  refine wp_reg ?_
  refine ol_r (r_move rfl) rfl ?_
  refine ol_r (r_move rfl) rfl ?_
  refine ol_r (r_subT (m - p) rfl rfl (by omega) (by omega)) rfl ?_
  refine ol_r (r_assign rfl) rfl ?_
  refine ol_nil (to_k0 (fun _ _ h => h) (hK1 _ _ _ _ _ ?_))
  clear hK1
  refine wp_seq' fun K2 hK2 => ?_
  refine wp_reg ?_
  refine ol_r (r_move rfl) rfl ?_
  refine ol_r (r_move rfl) rfl ?_
  refine ol_r (r_subT (q - m) rfl rfl (by omega) (by omega)) rfl ?_
  refine ol_r (r_assign rfl) rfl ?_
  refine ol_nil (to_k0 (fun _ _ h => h) (hK2 _ _ _ _ _ ?_))
  clear hK2
  refine wp_seq' fun K3 hK3 => ?_
  refine wp_block' ?_
  apply wp_loopM (σ := Nat × Nat × (Nat → Int)) (fun s => 0 < s.1 ∧ 0 < s.2.1 ∧ s.1 ≤ m - p ∧ s.2.1 ≤ q - m ∧ rotF s.2.2 (m - s.1) m (m + s.2.1) = rotF f p m q) (fun s => [(10, .int .i64 s.1), (11, .int .i64 s.2.1)]) [(0, _), (2, _), (4, _)] (fun s => [(5000, .row a n c (encI.enc (tab n s.2.2)) 3 1)]) [(5001, _), (5002, _), (5003, _), (5004, _), (5005, _), (5006, _), (5007, _), (5008, _), (5009, _), (5010, _)] (fun s => s.1 + s.2.1) ((m - p, q - m, f))
  ·try dsimp only
   exact ⟨by omega, by omega, Nat.le_refl _, Nat.le_refl _, by rw [show m - (m - p) = p by omega, show m + (q - m) = q by omega]⟩
  ·exact (sub_cons rfl (sub_cons rfl sub_nil))
  ·exact (sub_cons rfl (sub_cons rfl (sub_cons rfl sub_nil)))
  ·exact (subH_row rfl (by rfl) subH_nil)
  ·exact (subH_same rfl (subH_same rfl (subH_same rfl (subH_same rfl (subH_same rfl (subH_same rfl (subH_same rfl (subH_same rfl (subH_same rfl (subH_same rfl subH_nil))))))))))
  ·rintro ⟨i, j, F⟩ ⟨hi, hj, hi2, hj2, hF⟩
   dsimp only at hi hj hi2 hj2 hF ⊢
   intro K4 hK4
   refine wp_seq' fun K5 hK5 => ?_
   refine wp_seq' fun K6 hK6 => ?_
   refine wp_reg ?_
   skip
   refine ol_r (r_move rfl) rfl ?_
   refine ol_r (r_move rfl) rfl ?_
   refine ol_r (r_neq rfl rfl) rfl ?_
   refine ol_nil (to_k0 (fun _ _ h => h) (hK6 _ _ _ _ _ ?_))
   clear hK6
   refine wp_condD rfl (fun hc20 => ?_) (fun hc20 => ?_)
   ·refine wp_skip' (to_k0 (fun _ _ h => h) (hK5 _ _ _ _ _ ?_))
    clear hK5
    refine wp_block' ?_
    refine wp_seq' fun K7 hK7 => ?_
    refine wp_reg ?_
    refine ol_r (r_move rfl) rfl ?_
    refine ol_r (r_move rfl) rfl ?_
    refine ol_r (r_gtr rfl rfl) rfl ?_
    refine ol_nil (to_k0 (fun _ _ h => h) (hK7 _ _ _ _ _ ?_))
    clear hK7
    refine wp_condD rfl (fun hc23 => ?_) (fun hc23 => ?_)
    ·refine wp_seq' fun K8 hK8 => ?_
     refine wp_reg ?_
     refine ol_r (r_move rfl) rfl ?_
     refine ol_r (r_move rfl) rfl ?_
     refine ol_r (r_move rfl) rfl ?_
     refine ol_r (r_subT (m - i) rfl rfl (by omega) (by omega)) rfl ?_
     refine ol_r (r_move rfl) rfl ?_
     refine ol_r (r_move rfl) rfl ?_
     refine ol_r (r_move rfl) rfl ?_
     refine ol_call rfl rfl cb157 rfl (fun w1 hb1 hs1 hB1 => ?_)
     refine Calls.mono (swapRange_w cf Good B cb a n c e1 e2 e3 e4 e5 e6 e7 e8 e9 e10 F (m - i) m j _ hB1 hn (by omega) (by omega) (hs1.sub (subH_same rfl (subH_same rfl (subH_same rfl (subH_same rfl (subH_same rfl (subH_same rfl (subH_same rfl (subH_same rfl (subH_same rfl (subH_same rfl (subH_same rfl subH_nil))))))))))))) ?_
     rintro e w2 ⟨g, rfl, hb2, hs2, hB2, hk2, hg⟩
     refine After.sat rfl hb1 hb2 hs2 hB2 (hk2.imp fun _ h => h.elim) ?_
     clear hk2 hs2 hb2 hB2 hB1 hs1 hb1 w2 w1
     refine ol_nil (to_k0 (fun _ _ h => h) (hK8 _ _ _ _ _ ?_))
     clear hK8
     refine wp_reg ?_
     refine ol_r (r_move rfl) rfl ?_
     refine ol_r (r_move rfl) rfl ?_
     refine ol_r (r_subT (i - j) rfl rfl (by omega) (by omega)) rfl ?_
     refine ol_r (r_assign rfl) rfl ?_
     refine ol_nil (to_k0 (fun _ _ h => h) (hK4 ((_, _, _)) _ _ ?_ ?_ (sub_cons rfl (sub_cons rfl sub_nil)) (sub_cons rfl (sub_cons rfl (sub_cons rfl sub_nil))) (by exact (subH_row rfl (by rfl) subH_nil)) (subH_same rfl (subH_same rfl (subH_same rfl (subH_same rfl (subH_same rfl (subH_same rfl (subH_same rfl (subH_same rfl (subH_same rfl (subH_same rfl subH_nil))))))))))))
     ·try dsimp only
      first
        | exact ⟨by omega, by omega, by omega, by omega, by rw [hg, rot_gt (by omega) (by omega) (by omega)]; exact hF⟩
     ·try dsimp only
      omega
    ·refine wp_seq' fun K9 hK9 => ?_
     refine wp_reg ?_
     refine ol_r (r_move rfl) rfl ?_
     refine ol_r (r_move rfl) rfl ?_
     refine ol_r (r_move rfl) rfl ?_
     refine ol_r (r_subT (m - i) rfl rfl (by omega) (by omega)) rfl ?_
     refine ol_r (r_move rfl) rfl ?_
     refine ol_r (r_move rfl) rfl ?_
     refine ol_r (r_add rfl rfl (by omega)) rfl ?_
     refine ol_r (r_move rfl) rfl ?_
     refine ol_r (r_subT (m + j - i) rfl rfl (by omega) (by omega)) rfl ?_
     refine ol_r (r_move rfl) rfl ?_
     refine ol_r (r_move rfl) rfl ?_
     refine ol_call rfl rfl cb157 rfl (fun w1 hb1 hs1 hB1 => ?_)
     refine Calls.mono (swapRange_w cf Good B cb a n c e1 e2 e3 e4 e5 e6 e7 e8 e9 e10 F (m - i) (m + j - i) i _ hB1 hn (by omega) (by omega) (hs1.sub (subH_same rfl (subH_same rfl (subH_same rfl (subH_same rfl (subH_same rfl (subH_same rfl (subH_same rfl (subH_same rfl (subH_same rfl (subH_same rfl (subH_same rfl subH_nil))))))))))))) ?_
     rintro e w2 ⟨g, rfl, hb2, hs2, hB2, hk2, hg⟩
     refine After.sat rfl hb1 hb2 hs2 hB2 (hk2.imp fun _ h => h.elim) ?_
     clear hk2 hs2 hb2 hB2 hB1 hs1 hb1 w2 w1
     refine ol_nil (to_k0 (fun _ _ h => h) (hK9 _ _ _ _ _ ?_))
     clear hK9
     refine wp_reg ?_
     refine ol_r (r_move rfl) rfl ?_
     refine ol_r (r_move rfl) rfl ?_
     refine ol_r (r_subT (j - i) rfl rfl (by omega) (by omega)) rfl ?_
     refine ol_r (r_assign rfl) rfl ?_
     refine ol_nil (to_k0 (fun _ _ h => h) (hK4 ((_, _, _)) _ _ ?_ ?_ (sub_cons rfl (sub_cons rfl sub_nil)) (sub_cons rfl (sub_cons rfl (sub_cons rfl sub_nil))) (by exact (subH_row rfl (by rfl) subH_nil)) (subH_same rfl (subH_same rfl (subH_same rfl (subH_same rfl (subH_same rfl (subH_same rfl (subH_same rfl (subH_same rfl (subH_same rfl (subH_same rfl subH_nil))))))))))))
     ·try dsimp only
      first
        | exact ⟨by omega, by omega, by omega, by omega, by rw [hg, rot_lt (by omega) (by omega) (by omega)]; exact hF⟩
     ·try dsimp only
      omega
   ·refine wp_exit' (to_k0 (fun _ _ h => h) (hK3 _ _ _ _ _ ?_))
    clear hK3
    refine wp_reg ?_
    obtain rfl : i = j := by omega
    refine ol_r (r_move rfl) rfl ?_
    refine ol_r (r_move rfl) rfl ?_
    refine ol_r (r_move rfl) rfl ?_
    refine ol_r (r_subT (m - i) rfl rfl (by omega) (by omega)) rfl ?_
    refine ol_r (r_move rfl) rfl ?_
    refine ol_r (r_move rfl) rfl ?_
    refine ol_r (r_move rfl) rfl ?_
    refine ol_call rfl rfl cb157 rfl (fun w1 hb1 hs1 hB1 => ?_)
    refine Calls.mono (swapRange_w cf Good B cb a n c e1 e2 e3 e4 e5 e6 e7 e8 e9 e10 F (m - i) m i _ hB1 hn (by omega) (by omega) (hs1.sub (subH_same rfl (subH_same rfl (subH_same rfl (subH_same rfl (subH_same rfl (subH_same rfl (subH_same rfl (subH_same rfl (subH_same rfl (subH_same rfl (subH_same rfl subH_nil))))))))))))) ?_
    rintro e w2 ⟨g, rfl, hb2, hs2, hB2, hk2, hg⟩
    refine After.sat rfl hb1 hb2 hs2 hB2 (hk2.imp fun _ h => h.elim) ?_
    clear hk2 hs2 hb2 hB2 hB1 hs1 hb1 w2 w1
    refine ol_nil (hQ.fall rvs0 (fun _ _ h => h) fun w hb hs hB hkd => ?_)
    exact ⟨_, rfl, hb, hs.sub (subH_same rfl (subH_same rfl (subH_same rfl (subH_same rfl (subH_same rfl (subH_same rfl (subH_same rfl (subH_same rfl (subH_same rfl (subH_same rfl (subH_same rfl subH_nil))))))))))), hB, hkd, by rw [hg, rot_eq (by omega), hF]⟩

theorem insertion_w (cf : Int → Int → Int) (Good : Int → Prop) (B : Nat) (cb : Nat) (a : Option Addr) (n c : Nat) (e1 e2 e3 e4 e5 e6 e7 e8 e9 e10 : Ent) (f : Nat → Int) (p q : Nat) (w : World) (hw : Swo (ltC cf)) (hB : B ≤ w.heap.size) (hn : n ≤ 1000000) (h1 : q ≤ n) (hp : p ≤ n) (hG : ∀ i, i < n → Good (f i)) (hu : ∀ x y, p ≤ x → x < y → y < q → f x < f y) (hcmp : ∀ (w1 : World) (x y : Int), Good x → Good y → Sat B w1 [(5001, e1), (5002, e2)] → B ≤ w1.heap.size → Calls Try.prog 104 #[.int .i64 x, .int .i64 y, .pointer (some ⟨cb, 0, none⟩)] w1 fun e w' => e = .returned (.int .i64 (cf x y)) ∧ Below w1.heap.size w1 w') (hs : Sat B w [(5000, .row a n c (encI.enc (tab n f)) 3 1), (5001, e1), (5002, e2), (5003, e3), (5004, e4), (5005, e5), (5006, e6), (5007, e7), (5008, e8), (5009, e9), (5010, e10)]) :
    Calls Try.prog 145 #[.slice a n c, .int .i64 p, .int .i64 q, .func (.func 104) #[] #[.pointer (some ⟨cb, 0, none⟩)]] w fun e w' => ∃ g, e = .returned (.tuple #[]) ∧ Below B w w' ∧ Sat B w' [(5000, .row a n c (encI.enc (tab n g)) 3 1), (5001, e1), (5002, e2), (5003, e3), (5004, e4), (5005, e5), (5006, e6), (5007, e7), (5008, e8), (5009, e9), (5010, e10)] ∧ B ≤ w'.heap.size ∧ Kd (fun _ => False) w w' ∧ Blo (ltC cf) f g p q := by

  refine enterQ (N := 53) (C := fun _ => False) (H := [(5000, .row a n c (encI.enc (tab n f)) 3 1), (5001, e1), (5002, e2), (5003, e3), (5004, e4), (5005, e5), (5006, e6), (5007, e7), (5008, e8), (5009, e9), (5010, e10)]) (B := B) (args := [_, _, _, _]) Try.func145 rfl rfl rfl (hB) (hs) fun Q hQ => ?_
  refine wp_seq' fun K1 hK1 => ?_
  refine wp_reg ?_
  refine ol_r (r_move rfl) rfl ?_
  refine ol_r (r_addT (p + 1) rfl rfl (by omega) (by omega)) rfl ?_
  refine ol_r (r_assign rfl) rfl ?_
  refine ol_nil (to_k0 (fun _ _ h => h) (hK1 _ _ _ _ _ ?_))
  clear hK1
  refine wp_block' ?_
  apply wp_loopM (σ := Nat × (Nat → Int)) (fun s => p < s.1 ∧ (s.1 ≤ q ∨ s.1 = p + 1) ∧ SoR (ltC cf) s.2 p s.1 ∧ SaS f s.2 p s.1 ∧ (∀ x, x < p ∨ s.1 ≤ x → s.2 x = f x)) (fun s => [(8, .int .i64 s.1)]) [(0, _), (1, _), (2, _), (3, _)] (fun s => [(5000, .row a n c (encI.enc (tab n s.2)) 3 1)]) [(5001, _), (5002, _), (5003, _), (5004, _), (5005, _), (5006, _), (5007, _), (5008, _), (5009, _), (5010, _)] (fun s => q - s.1) ((p + 1, f))
  ·try dsimp only
   exact ⟨by omega, .inr rfl, fun x y h2 h3 h4 => by omega, SaS.refl _ _ _, fun _ _ => rfl⟩
  ·exact (sub_cons rfl sub_nil)
  ·exact (sub_cons rfl (sub_cons rfl (sub_cons rfl (sub_cons rfl sub_nil))))
  ·exact (subH_row rfl (by rfl) subH_nil)
  ·exact (subH_same rfl (subH_same rfl (subH_same rfl (subH_same rfl (subH_same rfl (subH_same rfl (subH_same rfl (subH_same rfl (subH_same rfl (subH_same rfl subH_nil))))))))))
  ·rintro ⟨i, F⟩ ⟨hi, hi2, hF1, hF2, hF3⟩
   dsimp only at hi hi2 hF1 hF2 hF3 ⊢
   intro K2 hK2
   refine wp_seq' fun K3 hK3 => ?_
   refine wp_seq' fun K4 hK4 => ?_
   refine wp_reg ?_
   refine ol_r (r_move rfl) rfl ?_
   refine ol_r (r_move rfl) rfl ?_
   refine ol_r (r_lss rfl rfl) rfl ?_
   refine ol_nil (to_k0 (fun _ _ h => h) (hK4 _ _ _ _ _ ?_))
   clear hK4
   refine wp_condD rfl (fun hc14 => ?_) (fun hc14 => ?_)
   ·refine wp_skip' (to_k0 (fun _ _ h => h) (hK3 _ _ _ _ _ ?_))
    clear hK3
    refine wp_seq' fun K5 hK5 => ?_
    refine wp_block' ?_
    refine wp_seq' fun K6 hK6 => ?_
    refine wp_reg ?_
    refine ol_r (r_move rfl) rfl ?_
    refine ol_r (r_assign rfl) rfl ?_
    refine ol_nil (to_k0 (fun _ _ h => h) (hK6 _ _ _ _ _ ?_))
    clear hK6
    refine wp_block' ?_
    apply wp_loopM (σ := Nat × (Nat → Int)) (fun s => p ≤ s.1 ∧ s.1 ≤ i ∧ InsI (ltC cf) F s.2 p i s.1) (fun s => [(9, .int .i64 s.1)]) [(0, _), (1, _), (2, _), (3, _), (8, _)] (fun s => [(5000, .row a n c (encI.enc (tab n s.2)) 3 1)]) [(5001, _), (5002, _), (5003, _), (5004, _), (5005, _), (5006, _), (5007, _), (5008, _), (5009, _), (5010, _)] (fun s => s.1) ((i, F))
    ·try dsimp only
     refine ⟨by omega, Nat.le_refl _, InsI.start hF1 fun x h2 h3 => ?_⟩
     obtain ⟨y, y1, y2, y3⟩ := hF2.2 x h2 h3
     rw [y3, hF3 i (by omega)]
     exact hu y i y1 y2 (by omega)
    ·exact (sub_cons rfl sub_nil)
    ·exact (sub_cons rfl (sub_cons rfl (sub_cons rfl (sub_cons rfl (sub_cons rfl sub_nil)))))
    ·exact (subH_row rfl (by rfl) subH_nil)
    ·exact (subH_same rfl (subH_same rfl (subH_same rfl (subH_same rfl (subH_same rfl (subH_same rfl (subH_same rfl (subH_same rfl (subH_same rfl (subH_same rfl subH_nil))))))))))
    ·rintro ⟨j, G⟩ ⟨hj1, hj2, hI⟩
     dsimp only at hj1 hj2 hI ⊢
     have hGl := tab_len n G
     have hF2s : SaS f F p (i + 1) := hF2.widen (Nat.le_refl _) (Nat.le_succ _) (by omega) hF3
     have hGg : ∀ k, k < n → Good (G k) := good_of hG (((hF2s.trans hI.sa).widen (Nat.zero_le _) (show i + 1 ≤ n by omega) (by omega) fun x hx => by rw [hI.out x (by omega)]; exact hF3 x (by omega)))
     intro K7 hK7
     refine wp_seq' fun K8 hK8 => ?_
     refine wp_seq' fun K9 hK9 => ?_
     refine wp_regq (by kernel_rfl) (by kernel_rfl) ?_
     refine ql_r (r_move rfl) rfl ?_
     refine ql_r (r_move rfl) rfl ?_
     refine ql_r (r_gtr rfl rfl) rfl ?_
     refine ql_r (r_move rfl) rfl ?_
     refine ql_split (d := 21) rfl (fun hs21 => ?_) (fun hs21 => ?_)
     ·have phs21 := hs21; try simp only [decide_eq_true_eq, decide_eq_false_iff_not, Bool.not_eq_true', Bool.not_eq_false', Bool.not_true, Bool.not_false] at phs21
      refine ql_g rfl rfl hs21 ?_
      refine ql_r (r_move rfl) rfl ?_
      refine ql_g rfl rfl hs21 ?_
      refine ql_r (r_move rfl) rfl ?_
      refine ql_g rfl rfl hs21 ?_
      refine ql_r (r_move rfl) rfl ?_
      refine ql_g rfl rfl hs21 ?_
      refine ql_ixo (id := 5000) encI _ rfl rfl rfl rfl sl150 (by omega) (by omega) rfl fun x25 hx25 => ?_
      try simp only [Int.toNat_natCast] at hx25
      try simp only [Int.toNat_natCast] at hx25
      refine ql_g rfl rfl hs21 ?_
      refine ql_r (r_ldw rfl (fun w1 hb1 hs1 hB1 => show Loads _ _ _ _ (.int .i64 x25) from ld_own (id := 5000) hs1 rfl rfl ty3 hx25)) rfl ?_
      refine ql_g rfl rfl hs21 ?_
      refine ql_r (r_move rfl) rfl ?_
      refine ql_g rfl rfl hs21 ?_
      refine ql_r (r_move rfl) rfl ?_
      refine ql_g rfl rfl hs21 ?_
      refine ql_r (r_sub rfl rfl (by omega)) rfl ?_
      refine ql_g rfl rfl hs21 ?_
      refine ql_ixo (id := 5000) encI _ rfl rfl rfl rfl sl150 (by omega) (by omega) rfl fun x30 hx30 => ?_
      try simp only [Int.toNat_natCast] at hx30
      try simp only [Int.toNat_natCast] at hx30
      refine ql_g rfl rfl hs21 ?_
      refine ql_r (r_ldw rfl (fun w1 hb1 hs1 hB1 => show Loads _ _ _ _ (.int .i64 x30) from ld_own (id := 5000) hs1 rfl rfl ty3 hx30)) rfl ?_
      refine ql_g rfl rfl hs21 ?_
      have hx25' := hx25
      have hx30' := hx30
      rw [show (((j : Nat) : Int) - 1).toNat = j - 1 by omega] at hx30'
      refine ql_call rfl rfl cb104 rfl (fun w1 hb1 hs1 hB1 => hcmp _ _ _ (by rw [← tab_eq hx25]; exact hGg _ (by omega)) (by rw [← tab_eq hx30]; exact hGg _ (by omega)) (hs1.sub (subH_same rfl (subH_same rfl subH_nil))) hB1) ?_
      refine ql_g rfl rfl hs21 ?_
      refine ql_r (r_lss rfl rfl) rfl ?_
      refine ql_r (r_pickT rfl hs21 rfl) rfl ?_
      refine ql_nil (to_k0 (fun _ _ h => h) (hK9 _ _ _ _ _ ?_))
      clear hK9
      refine wp_condD rfl (fun hc34 => ?_) (fun hc34 => ?_)
      ·refine wp_skip' (to_k0 (fun _ _ h => h) (hK8 _ _ _ _ _ ?_))
       clear hK8
       refine wp_seq' fun K10 hK10 => ?_
       refine wp_block' ?_
       refine wp_rega [(999, [(5001, _), (5002, _), (5003, _), (5004, _), (5005, _), (5006, _), (5007, _), (5008, _), (5009, _), (5010, _)]), (15, [(5000, _)])] (by kernel_rfl) ⟨.inr (subH_same rfl (subH_same rfl (subH_same rfl (subH_same rfl (subH_same rfl (subH_same rfl (subH_same rfl (subH_same rfl (subH_same rfl (subH_same rfl subH_nil)))))))))), ⟨.inr (subH_same rfl subH_nil), trivial⟩⟩ ?_
       refine aq_r 0 999 rfl (by kernel_rfl) (by kernel_rfl) (by kernel_rfl) (.head _) (by kernel_rfl) (by kernel_rfl) rfl (r_move rfl) ?_
       refine aq_r 1 999 rfl (by kernel_rfl) (by kernel_rfl) (by kernel_rfl) (.head _) (by kernel_rfl) (by kernel_rfl) rfl (r_move rfl) ?_
       refine aq_r 2 999 rfl (by kernel_rfl) (by kernel_rfl) (by kernel_rfl) (.head _) (by kernel_rfl) (by kernel_rfl) rfl (r_move rfl) ?_
       refine aq_r 3 999 rfl (by kernel_rfl) (by kernel_rfl) (by kernel_rfl) (.head _) (by kernel_rfl) (by kernel_rfl) rfl (r_move rfl) ?_
       refine aq_r 4 999 rfl (by kernel_rfl) (by kernel_rfl) (by kernel_rfl) (.head _) (by kernel_rfl) (by kernel_rfl) rfl (r_sub rfl rfl (by omega)) ?_
       refine aq_r 5 999 rfl (by kernel_rfl) (by kernel_rfl) (by kernel_rfl) (.head _) (by kernel_rfl) (by kernel_rfl) rfl (r_move rfl) ?_
       refine aq_r 6 999 rfl (by kernel_rfl) (by kernel_rfl) (by kernel_rfl) (.head _) (by kernel_rfl) (by kernel_rfl) rfl (r_move rfl) ?_
       refine aq_r 7 999 rfl (by kernel_rfl) (by kernel_rfl) (by kernel_rfl) (.head _) (by kernel_rfl) (by kernel_rfl) rfl (r_sub rfl rfl (by omega)) ?_
       refine aq_ixo 8 15 rfl (by kernel_rfl) (by kernel_rfl) (by kernel_rfl) (.tail _ (.head _)) (by kernel_rfl) (by kernel_rfl) rfl (id := 5000) encI _ rfl rfl rfl rfl sl150 (by omega) (by omega) fun x45 hx45 => ?_
       try simp only [Int.toNat_natCast] at hx45
       try simp only [Int.toNat_natCast] at hx45
       refine aq_r 9 15 rfl (by kernel_rfl) (by kernel_rfl) (by kernel_rfl) (.tail _ (.head _)) (by kernel_rfl) (by kernel_rfl) rfl (r_ldw rfl (fun w1 hb1 hs1 hB1 => show Loads _ _ _ _ (.int .i64 x45) from ld_own (id := 5000) hs1 rfl rfl ty3 hx45)) ?_
       refine aq_r 10 999 rfl (by kernel_rfl) (by kernel_rfl) (by kernel_rfl) (.head _) (by kernel_rfl) (by kernel_rfl) rfl (r_move rfl) ?_
       refine aq_r 11 999 rfl (by kernel_rfl) (by kernel_rfl) (by kernel_rfl) (.head _) (by kernel_rfl) (by kernel_rfl) rfl (r_move rfl) ?_
       refine aq_one (i := 12) (by kernel_rfl) rfl fun K11 hK11 => ?_
       refine ol_ixo (id := 5000) encI _ rfl rfl rfl rfl sl150 (by omega) rfl fun x49 hx49 => ?_
       try simp only [Int.toNat_natCast] at hx49
       try simp only [Int.toNat_natCast] at hx49
       refine ol_nil (to_k0 (fun _ _ h => h) (hK11 _ _ ⟨.inr (by repeat' first | exact subH_nil | refine subH_same rfl ?_ | (refine subH_blk rfl (by repeat' first | exact sub_nil | refine sub_cons rfl ?_) ?_)), ⟨.inr (by repeat' first | exact subH_nil | refine subH_same rfl ?_ | (refine subH_blk rfl (by repeat' first | exact sub_nil | refine sub_cons rfl ?_) ?_)), trivial⟩⟩ ?_))
       clear hK11
       refine aq_r 13 15 rfl (by kernel_rfl) (by kernel_rfl) (by kernel_rfl) (.tail _ (.head _)) (by kernel_rfl) (by kernel_rfl) rfl (r_ldw rfl (fun w1 hb1 hs1 hB1 => show Loads _ _ _ _ (.int .i64 x49) from ld_own (id := 5000) hs1 rfl rfl ty3 hx49)) ?_
       refine aq_ixo 14 15 rfl (by kernel_rfl) (by kernel_rfl) (by kernel_rfl) (.tail _ (.head _)) (by kernel_rfl) (by kernel_rfl) rfl (id := 5000) encI _ rfl rfl rfl rfl sl150 (by omega) (by omega) fun x51 hx51 => ?_
       try simp only [Int.toNat_natCast] at hx51
       try simp only [Int.toNat_natCast] at hx51
       refine aq_one (i := 15) (by kernel_rfl) rfl fun K12 hK12 => ?_
       refine ol_storeRow (id := 5000) _ _ _ rfl rfl rfl rfl sz3 (by omega) ?_
       refine ol_nil (to_k0 (fun _ _ h => h) (hK12 _ _ ⟨.inr (by repeat' first | exact subH_nil | refine subH_same rfl ?_ | (refine subH_blk rfl (by repeat' first | exact sub_nil | refine sub_cons rfl ?_) ?_)), ⟨.inl (by kernel_rfl), trivial⟩⟩ ?_))
       clear hK12
       refine aq_one (i := 16) (by kernel_rfl) rfl fun K13 hK13 => ?_
       refine ol_ixo (id := 5000) encI _ rfl rfl rfl rfl sl150 (by omega) rfl fun x52 hx52 => ?_
       try simp only [Int.toNat_natCast] at hx52
       try simp only [Int.toNat_natCast] at hx52
       refine ol_nil (to_k0 (fun _ _ h => h) (hK13 _ _ ⟨.inr (by repeat' first | exact subH_nil | refine subH_same rfl ?_ | (refine subH_blk rfl (by repeat' first | exact sub_nil | refine sub_cons rfl ?_) ?_)), ⟨.inl (by kernel_rfl), trivial⟩⟩ ?_))
       clear hK13
       refine aq_one (i := 17) (by kernel_rfl) rfl fun K14 hK14 => ?_
       refine ol_storeRow (id := 5000) _ _ _ rfl rfl rfl rfl sz3 (by omega) ?_
       refine ol_nil (to_k0 (fun _ _ h => h) (hK14 _ _ ⟨.inr (by repeat' first | exact subH_nil | refine subH_same rfl ?_ | (refine subH_blk rfl (by repeat' first | exact sub_nil | refine sub_cons rfl ?_) ?_)), ⟨.inl (by kernel_rfl), trivial⟩⟩ ?_))
       clear hK14
       refine aq_done (by kernel_rfl) ?_
       refine (to_k0 (fun _ _ h => h) (hK10 _ _ _ _ _ ?_))
       clear hK10
       refine wp_reg ?_
       refine ol_r (r_move rfl) rfl ?_
       refine ol_r (r_subT (j - 1) rfl rfl (by omega) (by omega)) rfl ?_
       refine ol_r (r_assign rfl) rfl ?_
       refine ol_nil (to_k0 (fun _ _ h => h) (hK7 ((_, sw2 G j (j - 1))) _ _ ?_ ?_ (sub_cons rfl sub_nil) (sub_cons rfl (sub_cons rfl (sub_cons rfl (sub_cons rfl (sub_cons rfl sub_nil))))) (by exact (subH_row rfl (by dsimp only; (rw [sw_row (i := j) (j := j - 1) (by omega) (by omega) ⟨_, by omega, hx45⟩ ⟨_, by omega, hx49⟩])) subH_nil)) (subH_same rfl (subH_same rfl (subH_same rfl (subH_same rfl (subH_same rfl (subH_same rfl (subH_same rfl (subH_same rfl (subH_same rfl (subH_same rfl subH_nil))))))))))))
       ·try dsimp only
        exact ⟨by omega, by omega, hI.step (by omega) hj2 (ltC_t (by rw [tab_eq hx25', tab_eq hx30']; exact hc34))⟩
       ·try dsimp only
        omega
      ·refine wp_exit' (to_k0 (fun _ _ h => h) (hK5 _ _ _ _ _ ?_))
       clear hK5
       refine wp_reg ?_
       refine ol_r (r_move rfl) rfl ?_
       refine ol_r (r_addT (i + 1) rfl rfl (by omega) (by omega)) rfl ?_
       refine ol_r (r_assign rfl) rfl ?_
       refine ol_nil (to_k0 (fun _ _ h => h) (hK2 ((_, _)) _ _ ?_ ?_ (sub_cons rfl sub_nil) (sub_cons rfl (sub_cons rfl (sub_cons rfl (sub_cons rfl sub_nil)))) (by exact (subH_row rfl (by rfl) subH_nil)) (subH_same rfl (subH_same rfl (subH_same rfl (subH_same rfl (subH_same rfl (subH_same rfl (subH_same rfl (subH_same rfl (subH_same rfl (subH_same rfl subH_nil))))))))))))
       ·try dsimp only
        exact ⟨by omega, by omega, hI.stop hw hj1 hj2 (by first | exact .inl (by omega) | exact .inr (ltC_f (by rw [tab_eq hx25', tab_eq hx30']; exact hc34))), hF2s.trans hI.sa, fun x hx => by rw [hI.out x (by omega)]; exact hF3 x (by omega)⟩
       ·try dsimp only
        omega
     ·have phs21 := hs21; try simp only [decide_eq_true_eq, decide_eq_false_iff_not, Bool.not_eq_true', Bool.not_eq_false', Bool.not_true, Bool.not_false] at phs21
      refine ql_s rfl rfl hs21 rfl ?_
      refine ql_s rfl rfl hs21 rfl ?_
      refine ql_s rfl rfl hs21 rfl ?_
      refine ql_s rfl rfl hs21 rfl ?_
      refine ql_s rfl rfl hs21 rfl ?_
      refine ql_s rfl rfl hs21 rfl ?_
      refine ql_s rfl rfl hs21 rfl ?_
      refine ql_s rfl rfl hs21 rfl ?_
      refine ql_s rfl rfl hs21 rfl ?_
      refine ql_s rfl rfl hs21 rfl ?_
      refine ql_s rfl rfl hs21 rfl ?_
      refine ql_s rfl rfl hs21 rfl ?_
      refine ql_r (r_pickF rfl hs21 rfl) rfl ?_
      refine ql_nil (to_k0 (fun _ _ h => h) (hK9 _ _ _ _ _ ?_))
      clear hK9
      refine wp_condF rfl ?_
      refine wp_exit' (to_k0 (fun _ _ h => h) (hK5 _ _ _ _ _ ?_))
      clear hK5
      refine wp_reg ?_
      refine ol_r (r_move rfl) rfl ?_
      refine ol_r (r_addT (i + 1) rfl rfl (by omega) (by omega)) rfl ?_
      refine ol_r (r_assign rfl) rfl ?_
      refine ol_nil (to_k0 (fun _ _ h => h) (hK2 ((_, _)) _ _ ?_ ?_ (sub_cons rfl sub_nil) (sub_cons rfl (sub_cons rfl (sub_cons rfl (sub_cons rfl sub_nil)))) (by exact (subH_row rfl (by rfl) subH_nil)) (subH_same rfl (subH_same rfl (subH_same rfl (subH_same rfl (subH_same rfl (subH_same rfl (subH_same rfl (subH_same rfl (subH_same rfl (subH_same rfl subH_nil))))))))))))
      ·try dsimp only
       exact ⟨by omega, by omega, hI.stop hw hj1 hj2 (by first | exact .inl (by omega) | exact .inr (ltC_f (by rw [tab_eq hx25', tab_eq hx30']; exact hc34))), hF2s.trans hI.sa, fun x hx => by rw [hI.out x (by omega)]; exact hF3 x (by omega)⟩
      ·try dsimp only
       omega
   ·refine wp_exit' (hQ.fall rvs0 (fun _ _ h => h) fun w hb hs hB hkd => ?_)
    refine ⟨F, rfl, hb, hs.sub (subH_same rfl (subH_same rfl (subH_same rfl (subH_same rfl (subH_same rfl (subH_same rfl (subH_same rfl (subH_same rfl (subH_same rfl (subH_same rfl (subH_same rfl subH_nil))))))))))), hB, hkd, ?_⟩
    rcases hi2 with h | h
    · obtain rfl : i = q := by omega
      exact ⟨hF1, hF2, hF3⟩
    · subst h
      have hFf : F = f := by
        funext x
        by_cases hx : x = p
        · subst hx
          obtain ⟨y, y1, y2, y3⟩ := hF2.2 x (Nat.le_refl _) (by omega)
          rw [y3]; congr 1; omega
        · exact hF3 x (by omega)
      subst hFf
      exact ⟨fun x y h2 h3 h4 => by omega, SaS.refl _ _ _, fun _ _ => rfl⟩

theorem symMerge_w (cf : Int → Int → Int) (Good : Int → Prop) (B : Nat) (cb : Nat) (a : Option Addr) (n c : Nat) (e1 e2 e3 e4 e5 e6 e7 e8 e9 e10 : Ent) (hw : Swo (ltC cf)) (hn : n ≤ 1000000) (hcmp : ∀ (w1 : World) (x y : Int), Good x → Good y → Sat B w1 [(5001, e1), (5002, e2)] → B ≤ w1.heap.size → Calls Try.prog 104 #[.int .i64 x, .int .i64 y, .pointer (some ⟨cb, 0, none⟩)] w1 fun e w' => e = .returned (.int .i64 (cf x y)) ∧ Below w1.heap.size w1 w') : ∀ (N : Nat) (p m q : Nat) (f : Nat → Int) (w : World), q - p ≤ N → B ≤ w.heap.size → p < m → m < q → q ≤ n → (∀ i, i < n → Good (f i)) → MrgI (ltC cf) f p m q → Sat B w [(5000, .row a n c (encI.enc (tab n f)) 3 1), (5001, e1), (5002, e2), (5003, e3), (5004, e4), (5005, e5), (5006, e6), (5007, e7), (5008, e8), (5009, e9), (5010, e10)] →
    Calls Try.prog 146 #[.slice a n c, .int .i64 p, .int .i64 m, .int .i64 q, .func (.func 104) #[] #[.pointer (some ⟨cb, 0, none⟩)]] w fun e w' => ∃ g, e = .returned (.tuple #[]) ∧ Below B w w' ∧ Sat B w' [(5000, .row a n c (encI.enc (tab n g)) 3 1), (5001, e1), (5002, e2), (5003, e3), (5004, e4), (5005, e5), (5006, e6), (5007, e7), (5008, e8), (5009, e9), (5010, e10)] ∧ B ≤ w'.heap.size ∧ Kd (fun _ => False) w w' ∧ Blo (ltC cf) f g p q := by
  intro N
  induction N with
  | zero => intro p m q f w h1 h2 h3 h4; omega
  | succ N ih =>
  intro p m q f w hN hB h1 h2 h3 hG hM hs
  have hfl := tab_len n f

  refine enterQ (N := 220) (C := fun _ => False) (H := [(5000, .row a n c (encI.enc (tab n f)) 3 1), (5001, e1), (5002, e2), (5003, e3), (5004, e4), (5005, e5), (5006, e6), (5007, e7), (5008, e8), (5009, e9), (5010, e10)]) (B := B) (args := [_, _, _, _, _]) Try.func146 rfl rfl rfl (hB) (hs) fun Q hQ => ?_
  refine wp_seq' fun K1 hK1 => ?_
  refine wp_seq' fun K2 hK2 => ?_
  refine wp_reg ?_
  refine ol_r (r_move rfl) rfl ?_
  refine ol_r (r_move rfl) rfl ?_
  refine ol_r (r_sub rfl rfl (by omega)) rfl ?_
  refine ol_r (r_eql rfl rfl) rfl ?_
  refine ol_nil (to_k0 (fun _ _ h => h) (hK2 _ _ _ _ _ ?_))
  clear hK2
  refine wp_condD rfl (fun hc28 => ?_) (fun hc28 => ?_)
  ·refine wp_seq' fun K3 hK3 => ?_
   refine wp_reg ?_
   refine ol_r (r_move rfl) rfl ?_
   refine ol_r (r_assign rfl) rfl ?_
   refine ol_nil (to_k0 (fun _ _ h => h) (hK3 _ _ _ _ _ ?_))
   clear hK3
   refine wp_seq' fun K4 hK4 => ?_
   refine wp_reg ?_
   refine ol_r (r_move rfl) rfl ?_
   refine ol_r (r_assign rfl) rfl ?_
   refine ol_nil (to_k0 (fun _ _ h => h) (hK4 _ _ _ _ _ ?_))
   clear hK4
   refine wp_seq' fun K5 hK5 => ?_
   refine wp_block' ?_
   apply wp_loopM (σ := Nat × Nat) (fun s => m ≤ s.1 ∧ s.1 ≤ s.2 ∧ s.2 ≤ q ∧ (∀ x, m ≤ x → x < s.1 → ltC cf (f x) (f p) = true) ∧ (∀ x, s.2 ≤ x → x < q → ltC cf (f x) (f p) = false)) (fun s => [(10, .int .i64 s.1), (11, .int .i64 s.2)]) [(0, _), (1, _), (2, _), (3, _), (4, _)] (fun s => []) [(5000, _), (5001, _), (5002, _), (5003, _), (5004, _), (5005, _), (5006, _), (5007, _), (5008, _), (5009, _), (5010, _)] (fun s => s.2 - s.1) ((m, q))
   ·try dsimp only
    exact ⟨Nat.le_refl _, by omega, Nat.le_refl _, fun x h4 h5 => by omega, fun x h4 h5 => by omega⟩
   ·exact (sub_cons rfl (sub_cons rfl sub_nil))
   ·exact (sub_cons rfl (sub_cons rfl (sub_cons rfl (sub_cons rfl (sub_cons rfl sub_nil)))))
   ·exact subH_nil
   ·exact (subH_same rfl (subH_same rfl (subH_same rfl (subH_same rfl (subH_same rfl (subH_same rfl (subH_same rfl (subH_same rfl (subH_same rfl (subH_same rfl (subH_same rfl subH_nil)))))))))))
   ·rintro ⟨i, j⟩ ⟨hi, hij, hj, hlo, hhi⟩
    dsimp only at hi hij hj hlo hhi ⊢
    intro K6 hK6
    refine wp_seq' fun K7 hK7 => ?_
    refine wp_seq' fun K8 hK8 => ?_
    refine wp_reg ?_
    refine ol_r (r_move rfl) rfl ?_
    refine ol_r (r_move rfl) rfl ?_
    refine ol_r (r_lss rfl rfl) rfl ?_
    refine ol_nil (to_k0 (fun _ _ h => h) (hK8 _ _ _ _ _ ?_))
    clear hK8
    refine wp_condD rfl (fun hc33 => ?_) (fun hc33 => ?_)
    ·refine wp_skip' (to_k0 (fun _ _ h => h) (hK7 _ _ _ _ _ ?_))
     clear hK7
     refine wp_block' ?_
     refine wp_seq' fun K9 hK9 => ?_
     refine wp_reg ?_
     refine ol_r (r_move rfl) rfl ?_
     refine ol_r (r_move rfl) rfl ?_
     refine ol_r (r_add rfl rfl (by omega)) rfl ?_
     refine ol_r (r_conv (k2 := .u64) rfl (by kernel_rfl) (by kernel_rfl) (wrap_u64 (by omega))) rfl ?_
     refine ol_r (r_shr1 rfl rfl) rfl ?_
     refine ol_r (r_conv (k2 := .i64) rfl (by kernel_rfl) (by kernel_rfl) (IntWalk.i64_in _ (by omega))) rfl ?_
     obtain ⟨h, hh⟩ : ∃ h : Nat, ((i : Int) + (j : Int)) / 2 = h := ⟨(i + j) / 2, by omega⟩
     rw [hh]
     refine ol_r (r_assign rfl) rfl ?_
     refine ol_nil (to_k0 (fun _ _ h => h) (hK9 _ _ _ _ _ ?_))
     clear hK9
     refine wp_seq' fun K10 hK10 => ?_
     refine wp_regq (by kernel_rfl) (by kernel_rfl) ?_
     refine ql_r (r_move rfl) rfl ?_
     refine ql_r (r_move rfl) rfl ?_
     refine ql_r (r_move rfl) rfl ?_
     refine ql_ixo (id := 5000) encI _ rfl rfl rfl rfl sl150 (by omega) (by omega) rfl fun x43 hx43 => ?_
     try simp only [Int.toNat_natCast] at hx43
     try simp only [Int.toNat_natCast] at hx43
     refine ql_r (r_ldw rfl (fun w1 hb1 hs1 hB1 => show Loads _ _ _ _ (.int .i64 x43) from ld_own (id := 5000) hs1 rfl rfl ty3 hx43)) rfl ?_
     refine ql_r (r_move rfl) rfl ?_
     refine ql_r (r_move rfl) rfl ?_
     refine ql_ixo (id := 5000) encI _ rfl rfl rfl rfl sl150 (by omega) (by omega) rfl fun x47 hx47 => ?_
     try simp only [Int.toNat_natCast] at hx47
     try simp only [Int.toNat_natCast] at hx47
     refine ql_r (r_ldw rfl (fun w1 hb1 hs1 hB1 => show Loads _ _ _ _ (.int .i64 x47) from ld_own (id := 5000) hs1 rfl rfl ty3 hx47)) rfl ?_
     refine ql_call rfl rfl cb104 rfl (fun w1 hb1 hs1 hB1 => hcmp _ _ _ (by rw [← tab_eq hx43]; exact hG _ (by omega)) (by rw [← tab_eq hx47]; exact hG _ (by omega)) (hs1.sub (subH_same rfl (subH_same rfl subH_nil))) hB1) ?_
     refine ql_r (r_lss rfl rfl) rfl ?_
     refine ql_nil (to_k0 (fun _ _ h => h) (hK10 _ _ _ _ _ ?_))
     clear hK10
     refine wp_condD rfl (fun hc50 => ?_) (fun hc50 => ?_)
     ·refine wp_reg ?_
      refine ol_r (r_move rfl) rfl ?_
      refine ol_r (r_addT (h + 1) rfl rfl (by omega) (by omega)) rfl ?_
      refine ol_r (r_assign rfl) rfl ?_
      refine ol_nil (to_k0 (fun _ _ h => h) (hK6 ((_, _)) _ _ ?_ ?_ (sub_cons rfl (sub_cons rfl sub_nil)) (sub_cons rfl (sub_cons rfl (sub_cons rfl (sub_cons rfl (sub_cons rfl sub_nil))))) (by exact subH_nil) (subH_same rfl (subH_same rfl (subH_same rfl (subH_same rfl (subH_same rfl (subH_same rfl (subH_same rfl (subH_same rfl (subH_same rfl (subH_same rfl (subH_same rfl subH_nil)))))))))))))
      ·try dsimp only
       first
         | exact ⟨by omega, by omega, by omega, fun x x1 x2 => by
             have hc : ltC cf (f h) (f p) = true := ltC_t (by rw [tab_eq hx43, tab_eq hx47]; exact hc50)
             by_cases hx : x = h
             · rw [hx]; exact hc
             · exact RR.lt_left hw (hM.r x h x1 (by omega) (by omega)) hc, hhi⟩
      ·try dsimp only
       omega
     ·refine wp_reg ?_
      refine ol_r (r_move rfl) rfl ?_
      refine ol_r (r_assign rfl) rfl ?_
      refine ol_nil (to_k0 (fun _ _ h => h) (hK6 ((_, _)) _ _ ?_ ?_ (sub_cons rfl (sub_cons rfl sub_nil)) (sub_cons rfl (sub_cons rfl (sub_cons rfl (sub_cons rfl (sub_cons rfl sub_nil))))) (by exact subH_nil) (subH_same rfl (subH_same rfl (subH_same rfl (subH_same rfl (subH_same rfl (subH_same rfl (subH_same rfl (subH_same rfl (subH_same rfl (subH_same rfl (subH_same rfl subH_nil)))))))))))))
      ·try dsimp only
       first
         | exact ⟨by omega, by omega, by omega, hlo, fun x x1 x2 => by
             have hc : ltC cf (f h) (f p) = false := ltC_f (by rw [tab_eq hx43, tab_eq hx47]; exact hc50)
             by_cases hx : x = h
             · rw [hx]; exact hc
             · cases h9 : ltC cf (f x) (f p) with
               | false => rfl
               | true => have := RR.lt_left hw (hM.r h x (by omega) (by omega) x2) h9; rw [hc] at this; cases this⟩
      ·try dsimp only
       omega
    ·refine wp_exit' (to_k0 (fun _ _ h => h) (hK5 _ _ _ _ _ ?_))
     clear hK5
     refine wp_seq' fun K11 hK11 => ?_
     refine wp_seq' fun K12 hK12 => ?_
     refine wp_reg ?_
     obtain rfl : i = j := by omega
     refine ol_r (r_move rfl) rfl ?_
     refine ol_r (r_assign rfl) rfl ?_
     refine ol_nil (to_k0 (fun _ _ h => h) (hK12 _ _ _ _ _ ?_))
     clear hK12
     refine wp_block' ?_
     apply wp_loopM (σ := Nat) (fun s => p ≤ s ∧ s ≤ i - 1) (fun s => [(13, .int .i64 s)]) [(0, _), (1, _), (2, _), (3, _), (4, _), (10, _)] (fun s => [(5000, .row a n c (encI.enc (tab n (mvR f p s))) 3 1)]) [(5001, _), (5002, _), (5003, _), (5004, _), (5005, _), (5006, _), (5007, _), (5008, _), (5009, _), (5010, _)] (fun s => i - s) (p)
     ·try dsimp only
      exact ⟨Nat.le_refl _, by omega⟩
     ·exact (sub_cons rfl sub_nil)
     ·exact (sub_cons rfl (sub_cons rfl (sub_cons rfl (sub_cons rfl (sub_cons rfl (sub_cons rfl sub_nil))))))
     ·exact (subH_row rfl (by rw [mvR_start]) subH_nil)
     ·exact (subH_same rfl (subH_same rfl (subH_same rfl (subH_same rfl (subH_same rfl (subH_same rfl (subH_same rfl (subH_same rfl (subH_same rfl (subH_same rfl subH_nil))))))))))
     ·rintro k ⟨hk1, hk2⟩
      have hFl := tab_len n (mvR f p k)
      intro K13 hK13
      refine wp_seq' fun K14 hK14 => ?_
      refine wp_seq' fun K15 hK15 => ?_
      refine wp_reg ?_
      refine ol_r (r_move rfl) rfl ?_
      refine ol_r (r_move rfl) rfl ?_
      refine ol_r (r_sub rfl rfl (by omega)) rfl ?_
      refine ol_r (r_lss rfl rfl) rfl ?_
      refine ol_nil (to_k0 (fun _ _ h => h) (hK15 _ _ _ _ _ ?_))
      clear hK15
      refine wp_condD rfl (fun hc58 => ?_) (fun hc58 => ?_)
      ·refine wp_skip' (to_k0 (fun _ _ h => h) (hK14 _ _ _ _ _ ?_))
       clear hK14
       refine wp_seq' fun K16 hK16 => ?_
       refine wp_block' ?_
       refine wp_rega [(999, [(5001, _), (5002, _), (5003, _), (5004, _), (5005, _), (5006, _), (5007, _), (5008, _), (5009, _), (5010, _)]), (15, [(5000, _)])] (by kernel_rfl) ⟨.inr (subH_same rfl (subH_same rfl (subH_same rfl (subH_same rfl (subH_same rfl (subH_same rfl (subH_same rfl (subH_same rfl (subH_same rfl (subH_same rfl subH_nil)))))))))), ⟨.inr (subH_same rfl subH_nil), trivial⟩⟩ ?_
       refine aq_r 0 999 rfl (by kernel_rfl) (by kernel_rfl) (by kernel_rfl) (.head _) (by kernel_rfl) (by kernel_rfl) rfl (r_move rfl) ?_
       refine aq_r 1 999 rfl (by kernel_rfl) (by kernel_rfl) (by kernel_rfl) (.head _) (by kernel_rfl) (by kernel_rfl) rfl (r_move rfl) ?_
       refine aq_r 2 999 rfl (by kernel_rfl) (by kernel_rfl) (by kernel_rfl) (.head _) (by kernel_rfl) (by kernel_rfl) rfl (r_move rfl) ?_
       refine aq_r 3 999 rfl (by kernel_rfl) (by kernel_rfl) (by kernel_rfl) (.head _) (by kernel_rfl) (by kernel_rfl) rfl (r_move rfl) ?_
       refine aq_r 4 999 rfl (by kernel_rfl) (by kernel_rfl) (by kernel_rfl) (.head _) (by kernel_rfl) (by kernel_rfl) rfl (r_add rfl rfl (by omega)) ?_
       refine aq_r 5 999 rfl (by kernel_rfl) (by kernel_rfl) (by kernel_rfl) (.head _) (by kernel_rfl) (by kernel_rfl) rfl (r_move rfl) ?_
       refine aq_r 6 999 rfl (by kernel_rfl) (by kernel_rfl) (by kernel_rfl) (.head _) (by kernel_rfl) (by kernel_rfl) rfl (r_move rfl) ?_
       refine aq_r 7 999 rfl (by kernel_rfl) (by kernel_rfl) (by kernel_rfl) (.head _) (by kernel_rfl) (by kernel_rfl) rfl (r_add rfl rfl (by omega)) ?_
       refine aq_ixo 8 15 rfl (by kernel_rfl) (by kernel_rfl) (by kernel_rfl) (.tail _ (.head _)) (by kernel_rfl) (by kernel_rfl) rfl (id := 5000) encI _ rfl rfl rfl rfl sl150 (by omega) (by omega) fun x69 hx69 => ?_
       try simp only [Int.toNat_natCast] at hx69
       try simp only [Int.toNat_natCast] at hx69
       refine aq_r 9 15 rfl (by kernel_rfl) (by kernel_rfl) (by kernel_rfl) (.tail _ (.head _)) (by kernel_rfl) (by kernel_rfl) rfl (r_ldw rfl (fun w1 hb1 hs1 hB1 => show Loads _ _ _ _ (.int .i64 x69) from ld_own (id := 5000) hs1 rfl rfl ty3 hx69)) ?_
       refine aq_r 10 999 rfl (by kernel_rfl) (by kernel_rfl) (by kernel_rfl) (.head _) (by kernel_rfl) (by kernel_rfl) rfl (r_move rfl) ?_
       refine aq_r 11 999 rfl (by kernel_rfl) (by kernel_rfl) (by kernel_rfl) (.head _) (by kernel_rfl) (by kernel_rfl) rfl (r_move rfl) ?_
       refine aq_one (i := 12) (by kernel_rfl) rfl fun K17 hK17 => ?_
       refine ol_ixo (id := 5000) encI _ rfl rfl rfl rfl sl150 (by omega) rfl fun x73 hx73 => ?_
       try simp only [Int.toNat_natCast] at hx73
       try simp only [Int.toNat_natCast] at hx73
       refine ol_nil (to_k0 (fun _ _ h => h) (hK17 _ _ ⟨.inr (by repeat' first | exact subH_nil | refine subH_same rfl ?_ | (refine subH_blk rfl (by repeat' first | exact sub_nil | refine sub_cons rfl ?_) ?_)), ⟨.inr (by repeat' first | exact subH_nil | refine subH_same rfl ?_ | (refine subH_blk rfl (by repeat' first | exact sub_nil | refine sub_cons rfl ?_) ?_)), trivial⟩⟩ ?_))
       clear hK17
       refine aq_r 13 15 rfl (by kernel_rfl) (by kernel_rfl) (by kernel_rfl) (.tail _ (.head _)) (by kernel_rfl) (by kernel_rfl) rfl (r_ldw rfl (fun w1 hb1 hs1 hB1 => show Loads _ _ _ _ (.int .i64 x73) from ld_own (id := 5000) hs1 rfl rfl ty3 hx73)) ?_
       refine aq_ixo 14 15 rfl (by kernel_rfl) (by kernel_rfl) (by kernel_rfl) (.tail _ (.head _)) (by kernel_rfl) (by kernel_rfl) rfl (id := 5000) encI _ rfl rfl rfl rfl sl150 (by omega) (by omega) fun x75 hx75 => ?_
       try simp only [Int.toNat_natCast] at hx75
       try simp only [Int.toNat_natCast] at hx75
       refine aq_one (i := 15) (by kernel_rfl) rfl fun K18 hK18 => ?_
       refine ol_storeRow (id := 5000) _ _ _ rfl rfl rfl rfl sz3 (by omega) ?_
       refine ol_nil (to_k0 (fun _ _ h => h) (hK18 _ _ ⟨.inr (by repeat' first | exact subH_nil | refine subH_same rfl ?_ | (refine subH_blk rfl (by repeat' first | exact sub_nil | refine sub_cons rfl ?_) ?_)), ⟨.inl (by kernel_rfl), trivial⟩⟩ ?_))
       clear hK18
       refine aq_one (i := 16) (by kernel_rfl) rfl fun K19 hK19 => ?_
       refine ol_ixo (id := 5000) encI _ rfl rfl rfl rfl sl150 (by omega) rfl fun x76 hx76 => ?_
       try simp only [Int.toNat_natCast] at hx76
       try simp only [Int.toNat_natCast] at hx76
       refine ol_nil (to_k0 (fun _ _ h => h) (hK19 _ _ ⟨.inr (by repeat' first | exact subH_nil | refine subH_same rfl ?_ | (refine subH_blk rfl (by repeat' first | exact sub_nil | refine sub_cons rfl ?_) ?_)), ⟨.inl (by kernel_rfl), trivial⟩⟩ ?_))
       clear hK19
       refine aq_one (i := 17) (by kernel_rfl) rfl fun K20 hK20 => ?_
       refine ol_storeRow (id := 5000) _ _ _ rfl rfl rfl rfl sz3 (by omega) ?_
       refine ol_nil (to_k0 (fun _ _ h => h) (hK20 _ _ ⟨.inr (by repeat' first | exact subH_nil | refine subH_same rfl ?_ | (refine subH_blk rfl (by repeat' first | exact sub_nil | refine sub_cons rfl ?_) ?_)), ⟨.inl (by kernel_rfl), trivial⟩⟩ ?_))
       clear hK20
       refine aq_done (by kernel_rfl) ?_
       refine (to_k0 (fun _ _ h => h) (hK16 _ _ _ _ _ ?_))
       clear hK16
       refine wp_reg ?_
       refine ol_r (r_move rfl) rfl ?_
       refine ol_r (r_addT (k + 1) rfl rfl (by omega) (by omega)) rfl ?_
       refine ol_r (r_assign rfl) rfl ?_
       refine ol_nil (to_k0 (fun _ _ h => h) (hK13 (k + 1) _ _ ?_ ?_ (sub_cons rfl sub_nil) (sub_cons rfl (sub_cons rfl (sub_cons rfl (sub_cons rfl (sub_cons rfl (sub_cons rfl sub_nil)))))) (by exact (subH_row rfl (by (rw [← mvR_step (by omega), sw_row (i := k) (j := k + 1) (by omega) (by omega) ⟨_, by omega, hx69⟩ ⟨_, by omega, hx73⟩])) subH_nil)) (subH_same rfl (subH_same rfl (subH_same rfl (subH_same rfl (subH_same rfl (subH_same rfl (subH_same rfl (subH_same rfl (subH_same rfl (subH_same rfl subH_nil))))))))))))
       ·try dsimp only
        exact ⟨by omega, by omega⟩
       ·try dsimp only
        omega
      ·refine wp_exit' (to_k0 (fun _ _ h => h) (hK11 _ _ _ _ _ ?_))
       clear hK11
       refine hQ.ret rvs0 (fun _ _ h => h) fun w hb hs hB hkd => ?_
       exact ⟨_, rfl, hb, hs.sub (subH_same rfl (subH_same rfl (subH_same rfl (subH_same rfl (subH_same rfl (subH_same rfl (subH_same rfl (subH_same rfl (subH_same rfl (subH_same rfl (subH_same rfl subH_nil))))))))))), hB, hkd, by
         obtain rfl : k = i - 1 := by omega
         obtain rfl : m = p + 1 := by omega
         exact mvR_blo hw hM hi hj hlo hhi⟩
  ·refine wp_skip' (to_k0 (fun _ _ h => h) (hK1 _ _ _ _ _ ?_))
   clear hK1
   refine wp_seq' fun K21 hK21 => ?_
   refine wp_seq' fun K22 hK22 => ?_
   refine wp_reg ?_
   refine ol_r (r_move rfl) rfl ?_
   refine ol_r (r_move rfl) rfl ?_
   refine ol_r (r_sub rfl rfl (by omega)) rfl ?_
   refine ol_r (r_eql rfl rfl) rfl ?_
   refine ol_nil (to_k0 (fun _ _ h => h) (hK22 _ _ _ _ _ ?_))
   clear hK22
   refine wp_condD rfl (fun hc80 => ?_) (fun hc80 => ?_)
   ·refine wp_seq' fun K23 hK23 => ?_
    refine wp_reg ?_
    refine ol_r (r_move rfl) rfl ?_
    refine ol_r (r_assign rfl) rfl ?_
    refine ol_nil (to_k0 (fun _ _ h => h) (hK23 _ _ _ _ _ ?_))
    clear hK23
    refine wp_seq' fun K24 hK24 => ?_
    refine wp_reg ?_
    refine ol_r (r_move rfl) rfl ?_
    refine ol_r (r_assign rfl) rfl ?_
    refine ol_nil (to_k0 (fun _ _ h => h) (hK24 _ _ _ _ _ ?_))
    clear hK24
    refine wp_seq' fun K25 hK25 => ?_
    refine wp_block' ?_
    apply wp_loopM (σ := Nat × Nat) (fun s => p ≤ s.1 ∧ s.1 ≤ s.2 ∧ s.2 ≤ m ∧ (∀ x, p ≤ x → x < s.1 → ltC cf (f m) (f x) = false) ∧ (∀ x, s.2 ≤ x → x < m → ltC cf (f m) (f x) = true)) (fun s => [(14, .int .i64 s.1), (15, .int .i64 s.2)]) [(0, _), (1, _), (2, _), (3, _), (4, _)] (fun s => []) [(5000, _), (5001, _), (5002, _), (5003, _), (5004, _), (5005, _), (5006, _), (5007, _), (5008, _), (5009, _), (5010, _)] (fun s => s.2 - s.1) ((p, m))
    ·try dsimp only
     exact ⟨Nat.le_refl _, by omega, Nat.le_refl _, fun x h4 h5 => by omega, fun x h4 h5 => by omega⟩
    ·exact (sub_cons rfl (sub_cons rfl sub_nil))
    ·exact (sub_cons rfl (sub_cons rfl (sub_cons rfl (sub_cons rfl (sub_cons rfl sub_nil)))))
    ·exact subH_nil
    ·exact (subH_same rfl (subH_same rfl (subH_same rfl (subH_same rfl (subH_same rfl (subH_same rfl (subH_same rfl (subH_same rfl (subH_same rfl (subH_same rfl (subH_same rfl subH_nil)))))))))))
    ·rintro ⟨i, j⟩ ⟨hi, hij, hj, hlo, hhi⟩
     dsimp only at hi hij hj hlo hhi ⊢
     intro K26 hK26
     refine wp_seq' fun K27 hK27 => ?_
     refine wp_seq' fun K28 hK28 => ?_
     refine wp_reg ?_
     refine ol_r (r_move rfl) rfl ?_
     refine ol_r (r_move rfl) rfl ?_
     refine ol_r (r_lss rfl rfl) rfl ?_
     refine ol_nil (to_k0 (fun _ _ h => h) (hK28 _ _ _ _ _ ?_))
     clear hK28
     refine wp_condD rfl (fun hc85 => ?_) (fun hc85 => ?_)
     ·refine wp_skip' (to_k0 (fun _ _ h => h) (hK27 _ _ _ _ _ ?_))
      clear hK27
      refine wp_block' ?_
      refine wp_seq' fun K29 hK29 => ?_
      refine wp_reg ?_
      refine ol_r (r_move rfl) rfl ?_
      refine ol_r (r_move rfl) rfl ?_
      refine ol_r (r_add rfl rfl (by omega)) rfl ?_
      refine ol_r (r_conv (k2 := .u64) rfl (by kernel_rfl) (by kernel_rfl) (wrap_u64 (by omega))) rfl ?_
      refine ol_r (r_shr1 rfl rfl) rfl ?_
      refine ol_r (r_conv (k2 := .i64) rfl (by kernel_rfl) (by kernel_rfl) (IntWalk.i64_in _ (by omega))) rfl ?_
      obtain ⟨h, hh⟩ : ∃ h : Nat, ((i : Int) + (j : Int)) / 2 = h := ⟨(i + j) / 2, by omega⟩
      rw [hh]
      refine ol_r (r_assign rfl) rfl ?_
      refine ol_nil (to_k0 (fun _ _ h => h) (hK29 _ _ _ _ _ ?_))
      clear hK29
      refine wp_seq' fun K30 hK30 => ?_
      refine wp_regq (by kernel_rfl) (by kernel_rfl) ?_
      refine ql_r (r_move rfl) rfl ?_
      refine ql_r (r_move rfl) rfl ?_
      refine ql_r (r_move rfl) rfl ?_
      refine ql_ixo (id := 5000) encI _ rfl rfl rfl rfl sl150 (by omega) (by omega) rfl fun x95 hx95 => ?_
      try simp only [Int.toNat_natCast] at hx95
      try simp only [Int.toNat_natCast] at hx95
      refine ql_r (r_ldw rfl (fun w1 hb1 hs1 hB1 => show Loads _ _ _ _ (.int .i64 x95) from ld_own (id := 5000) hs1 rfl rfl ty3 hx95)) rfl ?_
      refine ql_r (r_move rfl) rfl ?_
      refine ql_r (r_move rfl) rfl ?_
      refine ql_ixo (id := 5000) encI _ rfl rfl rfl rfl sl150 (by omega) (by omega) rfl fun x99 hx99 => ?_
      try simp only [Int.toNat_natCast] at hx99
      try simp only [Int.toNat_natCast] at hx99
      refine ql_r (r_ldw rfl (fun w1 hb1 hs1 hB1 => show Loads _ _ _ _ (.int .i64 x99) from ld_own (id := 5000) hs1 rfl rfl ty3 hx99)) rfl ?_
      refine ql_call rfl rfl cb104 rfl (fun w1 hb1 hs1 hB1 => hcmp _ _ _ (by rw [← tab_eq hx95]; exact hG _ (by omega)) (by rw [← tab_eq hx99]; exact hG _ (by omega)) (hs1.sub (subH_same rfl (subH_same rfl subH_nil))) hB1) ?_
      refine ql_r (r_lss rfl rfl) rfl ?_
      refine ql_r (r_not rfl) rfl ?_
      refine ql_nil (to_k0 (fun _ _ h => h) (hK30 _ _ _ _ _ ?_))
      clear hK30
      refine wp_condN rfl (fun hc103 => ?_) (fun hc103 => ?_)
      ·refine wp_reg ?_
       refine ol_r (r_move rfl) rfl ?_
       refine ol_r (r_addT (h + 1) rfl rfl (by omega) (by omega)) rfl ?_
       refine ol_r (r_assign rfl) rfl ?_
       refine ol_nil (to_k0 (fun _ _ h => h) (hK26 ((_, _)) _ _ ?_ ?_ (sub_cons rfl (sub_cons rfl sub_nil)) (sub_cons rfl (sub_cons rfl (sub_cons rfl (sub_cons rfl (sub_cons rfl sub_nil))))) (by exact subH_nil) (subH_same rfl (subH_same rfl (subH_same rfl (subH_same rfl (subH_same rfl (subH_same rfl (subH_same rfl (subH_same rfl (subH_same rfl (subH_same rfl (subH_same rfl subH_nil)))))))))))))
       ·try dsimp only
        first
          | exact ⟨by omega, by omega, by omega, fun x x1 x2 => (by
              have hc : ltC cf (f m) (f h) = false := ltC_f (by rw [tab_eq hx95, tab_eq hx99]; exact hc103)
              by_cases hx : x = h
              · rw [hx]; exact hc
              · cases h9 : ltC cf (f m) (f x) with
                | false => rfl
                | true => have := RR.lt_right hw (hM.l x h x1 (by omega) (by omega)) h9; rw [hc] at this; cases this), hhi⟩
       ·try dsimp only
        omega
      ·refine wp_reg ?_
       refine ol_r (r_move rfl) rfl ?_
       refine ol_r (r_assign rfl) rfl ?_
       refine ol_nil (to_k0 (fun _ _ h => h) (hK26 ((_, _)) _ _ ?_ ?_ (sub_cons rfl (sub_cons rfl sub_nil)) (sub_cons rfl (sub_cons rfl (sub_cons rfl (sub_cons rfl (sub_cons rfl sub_nil))))) (by exact subH_nil) (subH_same rfl (subH_same rfl (subH_same rfl (subH_same rfl (subH_same rfl (subH_same rfl (subH_same rfl (subH_same rfl (subH_same rfl (subH_same rfl (subH_same rfl subH_nil)))))))))))))
       ·try dsimp only
        first
          | exact ⟨by omega, by omega, by omega, hlo, fun x x1 x2 => by
              have hc : ltC cf (f m) (f h) = true := ltC_t (by rw [tab_eq hx95, tab_eq hx99]; exact hc103)
              by_cases hx : x = h
              · rw [hx]; exact hc
              · exact RR.lt_right hw (hM.l h x (by omega) (by omega) x2) hc⟩
       ·try dsimp only
        omega
     ·refine wp_exit' (to_k0 (fun _ _ h => h) (hK25 _ _ _ _ _ ?_))
      clear hK25
      refine wp_seq' fun K31 hK31 => ?_
      refine wp_seq' fun K32 hK32 => ?_
      refine wp_reg ?_
      obtain rfl : i = j := by omega
      obtain rfl : q = m + 1 := by omega
      refine ol_r (r_move rfl) rfl ?_
      refine ol_r (r_assign rfl) rfl ?_
      refine ol_nil (to_k0 (fun _ _ h => h) (hK32 _ _ _ _ _ ?_))
      clear hK32
      refine wp_block' ?_
      apply wp_loopM (σ := Nat) (fun s => i ≤ s ∧ s ≤ m) (fun s => [(17, .int .i64 s)]) [(0, _), (1, _), (2, _), (3, _), (4, _), (14, _)] (fun s => [(5000, .row a n c (encI.enc (tab n (mvL f s m))) 3 1)]) [(5001, _), (5002, _), (5003, _), (5004, _), (5005, _), (5006, _), (5007, _), (5008, _), (5009, _), (5010, _)] (fun s => s) (m)
      ·try dsimp only
       exact ⟨hj, Nat.le_refl _⟩
      ·exact (sub_cons rfl sub_nil)
      ·exact (sub_cons rfl (sub_cons rfl (sub_cons rfl (sub_cons rfl (sub_cons rfl (sub_cons rfl sub_nil))))))
      ·exact (subH_row rfl (by rw [mvL_start]) subH_nil)
      ·exact (subH_same rfl (subH_same rfl (subH_same rfl (subH_same rfl (subH_same rfl (subH_same rfl (subH_same rfl (subH_same rfl (subH_same rfl (subH_same rfl subH_nil))))))))))
      ·rintro k ⟨hk1, hk2⟩
       have hFl := tab_len n (mvL f k m)
       intro K33 hK33
       refine wp_seq' fun K34 hK34 => ?_
       refine wp_seq' fun K35 hK35 => ?_
       refine wp_reg ?_
       refine ol_r (r_move rfl) rfl ?_
       refine ol_r (r_move rfl) rfl ?_
       refine ol_r (r_gtr rfl rfl) rfl ?_
       refine ol_nil (to_k0 (fun _ _ h => h) (hK35 _ _ _ _ _ ?_))
       clear hK35
       refine wp_condD rfl (fun hc110 => ?_) (fun hc110 => ?_)
       ·refine wp_skip' (to_k0 (fun _ _ h => h) (hK34 _ _ _ _ _ ?_))
        clear hK34
        refine wp_seq' fun K36 hK36 => ?_
        refine wp_block' ?_
        refine wp_rega [(999, [(5001, _), (5002, _), (5003, _), (5004, _), (5005, _), (5006, _), (5007, _), (5008, _), (5009, _), (5010, _)]), (15, [(5000, _)])] (by kernel_rfl) ⟨.inr (subH_same rfl (subH_same rfl (subH_same rfl (subH_same rfl (subH_same rfl (subH_same rfl (subH_same rfl (subH_same rfl (subH_same rfl (subH_same rfl subH_nil)))))))))), ⟨.inr (subH_same rfl subH_nil), trivial⟩⟩ ?_
        refine aq_r 0 999 rfl (by kernel_rfl) (by kernel_rfl) (by kernel_rfl) (.head _) (by kernel_rfl) (by kernel_rfl) rfl (r_move rfl) ?_
        refine aq_r 1 999 rfl (by kernel_rfl) (by kernel_rfl) (by kernel_rfl) (.head _) (by kernel_rfl) (by kernel_rfl) rfl (r_move rfl) ?_
        refine aq_r 2 999 rfl (by kernel_rfl) (by kernel_rfl) (by kernel_rfl) (.head _) (by kernel_rfl) (by kernel_rfl) rfl (r_move rfl) ?_
        refine aq_r 3 999 rfl (by kernel_rfl) (by kernel_rfl) (by kernel_rfl) (.head _) (by kernel_rfl) (by kernel_rfl) rfl (r_move rfl) ?_
        refine aq_r 4 999 rfl (by kernel_rfl) (by kernel_rfl) (by kernel_rfl) (.head _) (by kernel_rfl) (by kernel_rfl) rfl (r_sub rfl rfl (by omega)) ?_
        refine aq_r 5 999 rfl (by kernel_rfl) (by kernel_rfl) (by kernel_rfl) (.head _) (by kernel_rfl) (by kernel_rfl) rfl (r_move rfl) ?_
        refine aq_r 6 999 rfl (by kernel_rfl) (by kernel_rfl) (by kernel_rfl) (.head _) (by kernel_rfl) (by kernel_rfl) rfl (r_move rfl) ?_
        refine aq_r 7 999 rfl (by kernel_rfl) (by kernel_rfl) (by kernel_rfl) (.head _) (by kernel_rfl) (by kernel_rfl) rfl (r_sub rfl rfl (by omega)) ?_
        refine aq_ixo 8 15 rfl (by kernel_rfl) (by kernel_rfl) (by kernel_rfl) (.tail _ (.head _)) (by kernel_rfl) (by kernel_rfl) rfl (id := 5000) encI _ rfl rfl rfl rfl sl150 (by omega) (by omega) fun x121 hx121 => ?_
        try simp only [Int.toNat_natCast] at hx121
        try simp only [Int.toNat_natCast] at hx121
        refine aq_r 9 15 rfl (by kernel_rfl) (by kernel_rfl) (by kernel_rfl) (.tail _ (.head _)) (by kernel_rfl) (by kernel_rfl) rfl (r_ldw rfl (fun w1 hb1 hs1 hB1 => show Loads _ _ _ _ (.int .i64 x121) from ld_own (id := 5000) hs1 rfl rfl ty3 hx121)) ?_
        refine aq_r 10 999 rfl (by kernel_rfl) (by kernel_rfl) (by kernel_rfl) (.head _) (by kernel_rfl) (by kernel_rfl) rfl (r_move rfl) ?_
        refine aq_r 11 999 rfl (by kernel_rfl) (by kernel_rfl) (by kernel_rfl) (.head _) (by kernel_rfl) (by kernel_rfl) rfl (r_move rfl) ?_
        refine aq_one (i := 12) (by kernel_rfl) rfl fun K37 hK37 => ?_
        refine ol_ixo (id := 5000) encI _ rfl rfl rfl rfl sl150 (by omega) rfl fun x125 hx125 => ?_
        try simp only [Int.toNat_natCast] at hx125
        try simp only [Int.toNat_natCast] at hx125
        refine ol_nil (to_k0 (fun _ _ h => h) (hK37 _ _ ⟨.inr (by repeat' first | exact subH_nil | refine subH_same rfl ?_ | (refine subH_blk rfl (by repeat' first | exact sub_nil | refine sub_cons rfl ?_) ?_)), ⟨.inr (by repeat' first | exact subH_nil | refine subH_same rfl ?_ | (refine subH_blk rfl (by repeat' first | exact sub_nil | refine sub_cons rfl ?_) ?_)), trivial⟩⟩ ?_))
        clear hK37
        refine aq_r 13 15 rfl (by kernel_rfl) (by kernel_rfl) (by kernel_rfl) (.tail _ (.head _)) (by kernel_rfl) (by kernel_rfl) rfl (r_ldw rfl (fun w1 hb1 hs1 hB1 => show Loads _ _ _ _ (.int .i64 x125) from ld_own (id := 5000) hs1 rfl rfl ty3 hx125)) ?_
        refine aq_ixo 14 15 rfl (by kernel_rfl) (by kernel_rfl) (by kernel_rfl) (.tail _ (.head _)) (by kernel_rfl) (by kernel_rfl) rfl (id := 5000) encI _ rfl rfl rfl rfl sl150 (by omega) (by omega) fun x127 hx127 => ?_
        try simp only [Int.toNat_natCast] at hx127
        try simp only [Int.toNat_natCast] at hx127
        refine aq_one (i := 15) (by kernel_rfl) rfl fun K38 hK38 => ?_
        refine ol_storeRow (id := 5000) _ _ _ rfl rfl rfl rfl sz3 (by omega) ?_
        refine ol_nil (to_k0 (fun _ _ h => h) (hK38 _ _ ⟨.inr (by repeat' first | exact subH_nil | refine subH_same rfl ?_ | (refine subH_blk rfl (by repeat' first | exact sub_nil | refine sub_cons rfl ?_) ?_)), ⟨.inl (by kernel_rfl), trivial⟩⟩ ?_))
        clear hK38
        refine aq_one (i := 16) (by kernel_rfl) rfl fun K39 hK39 => ?_
        refine ol_ixo (id := 5000) encI _ rfl rfl rfl rfl sl150 (by omega) rfl fun x128 hx128 => ?_
        try simp only [Int.toNat_natCast] at hx128
        try simp only [Int.toNat_natCast] at hx128
        refine ol_nil (to_k0 (fun _ _ h => h) (hK39 _ _ ⟨.inr (by repeat' first | exact subH_nil | refine subH_same rfl ?_ | (refine subH_blk rfl (by repeat' first | exact sub_nil | refine sub_cons rfl ?_) ?_)), ⟨.inl (by kernel_rfl), trivial⟩⟩ ?_))
        clear hK39
        refine aq_one (i := 17) (by kernel_rfl) rfl fun K40 hK40 => ?_
        refine ol_storeRow (id := 5000) _ _ _ rfl rfl rfl rfl sz3 (by omega) ?_
        refine ol_nil (to_k0 (fun _ _ h => h) (hK40 _ _ ⟨.inr (by repeat' first | exact subH_nil | refine subH_same rfl ?_ | (refine subH_blk rfl (by repeat' first | exact sub_nil | refine sub_cons rfl ?_) ?_)), ⟨.inl (by kernel_rfl), trivial⟩⟩ ?_))
        clear hK40
        refine aq_done (by kernel_rfl) ?_
        refine (to_k0 (fun _ _ h => h) (hK36 _ _ _ _ _ ?_))
        clear hK36
        refine wp_reg ?_
        refine ol_r (r_move rfl) rfl ?_
        refine ol_r (r_subT (k - 1) rfl rfl (by omega) (by omega)) rfl ?_
        refine ol_r (r_assign rfl) rfl ?_
        refine ol_nil (to_k0 (fun _ _ h => h) (hK33 (k - 1) _ _ ?_ ?_ (sub_cons rfl sub_nil) (sub_cons rfl (sub_cons rfl (sub_cons rfl (sub_cons rfl (sub_cons rfl (sub_cons rfl sub_nil)))))) (by exact (subH_row rfl (by (rw [← mvL_step (by omega) (by omega), sw_row (i := k) (j := k - 1) (by omega) (by omega) ⟨_, by omega, hx121⟩ ⟨_, by omega, hx125⟩])) subH_nil)) (subH_same rfl (subH_same rfl (subH_same rfl (subH_same rfl (subH_same rfl (subH_same rfl (subH_same rfl (subH_same rfl (subH_same rfl (subH_same rfl subH_nil))))))))))))
        ·try dsimp only
         exact ⟨by omega, by omega⟩
        ·try dsimp only
         omega
       ·refine wp_exit' (to_k0 (fun _ _ h => h) (hK31 _ _ _ _ _ ?_))
        clear hK31
        refine hQ.ret rvs0 (fun _ _ h => h) fun w hb hs hB hkd => ?_
        exact ⟨_, rfl, hb, hs.sub (subH_same rfl (subH_same rfl (subH_same rfl (subH_same rfl (subH_same rfl (subH_same rfl (subH_same rfl (subH_same rfl (subH_same rfl (subH_same rfl (subH_same rfl subH_nil))))))))))), hB, hkd, by
          obtain rfl : k = i := by omega
          exact mvL_blo hw hM hi hj hlo hhi⟩
   ·refine wp_skip' (to_k0 (fun _ _ h => h) (hK21 _ _ _ _ _ ?_))
    clear hK21
    refine wp_seq' fun K41 hK41 => ?_
    refine wp_reg ?_
    refine ol_r (r_move rfl) rfl ?_
    refine ol_r (r_move rfl) rfl ?_
    refine ol_r (r_add rfl rfl (by omega)) rfl ?_
    refine ol_r (r_conv (k2 := .u64) rfl (by kernel_rfl) (by kernel_rfl) (wrap_u64 (by omega))) rfl ?_
    refine ol_r (r_shr1 rfl rfl) rfl ?_
    refine ol_r (r_conv (k2 := .i64) rfl (by kernel_rfl) (by kernel_rfl) (IntWalk.i64_in _ (by omega))) rfl ?_
    obtain ⟨mid, hmid⟩ : ∃ h : Nat, ((p : Int) + (q : Int)) / 2 = h := ⟨(p + q) / 2, by omega⟩
    rw [hmid]
    refine ol_r (r_assign rfl) rfl ?_
    refine ol_nil (to_k0 (fun _ _ h => h) (hK41 _ _ _ _ _ ?_))
    clear hK41
    refine wp_seq' fun K42 hK42 => ?_
    refine wp_reg ?_
    refine ol_r (r_move rfl) rfl ?_
    refine ol_r (r_move rfl) rfl ?_
    refine ol_r (r_addT (mid + m) rfl rfl (by omega) (by omega)) rfl ?_
    refine ol_r (r_assign rfl) rfl ?_
    refine ol_nil (to_k0 (fun _ _ h => h) (hK42 _ _ _ _ _ ?_))
    clear hK42
    refine wp_seq' fun K43 hK43 => ?_
    refine wp_reg ?_
    refine ol_r (r_assign rfl) rfl ?_
    refine ol_r (r_assign rfl) rfl ?_
    refine ol_nil (to_k0 (fun _ _ h => h) (hK43 _ _ _ _ _ ?_))
    clear hK43
    apply wp_seq_cutM (σ := Nat × Nat) (fun s => (mid < m ∧ s.1 = mid + m - q ∧ s.2 = mid) ∨ (m ≤ mid ∧ s.1 = p ∧ s.2 = m)) (fun s => [(20, .int .i64 s.1), (21, .int .i64 s.2)]) [(0, _), (1, _), (2, _), (3, _), (4, _), (18, _), (19, _)] (fun s => []) [(5000, _), (5001, _), (5002, _), (5003, _), (5004, _), (5005, _), (5006, _), (5007, _), (5008, _), (5009, _), (5010, _)]
    ·exact (sub_cons rfl (sub_cons rfl (sub_cons rfl (sub_cons rfl (sub_cons rfl (sub_cons rfl (sub_cons rfl sub_nil)))))))
    ·exact (subH_same rfl (subH_same rfl (subH_same rfl (subH_same rfl (subH_same rfl (subH_same rfl (subH_same rfl (subH_same rfl (subH_same rfl (subH_same rfl (subH_same rfl subH_nil)))))))))))
    ·intro K44 hK44
     refine wp_seq' fun K45 hK45 => ?_
     refine wp_reg ?_
     refine ol_r (r_move rfl) rfl ?_
     refine ol_r (r_move rfl) rfl ?_
     refine ol_r (r_gtr rfl rfl) rfl ?_
     refine ol_nil (to_k0 (fun _ _ h => h) (hK45 _ _ _ _ _ ?_))
     clear hK45
     refine wp_condD rfl (fun hc140 => ?_) (fun hc140 => ?_)
     ·refine wp_seq' fun K46 hK46 => ?_
      refine wp_reg ?_
      refine ol_r (r_move rfl) rfl ?_
      refine ol_r (r_move rfl) rfl ?_
      refine ol_r (r_subT (mid + m - q) rfl rfl (by omega) (by omega)) rfl ?_
      refine ol_r (r_assign rfl) rfl ?_
      refine ol_nil (to_k0 (fun _ _ h => h) (hK46 _ _ _ _ _ ?_))
      clear hK46
      refine wp_reg ?_
      refine ol_r (r_move rfl) rfl ?_
      refine ol_r (r_assign rfl) rfl ?_
      refine ol_nil (to_k0 (fun _ _ h => h) (hK44 ((_, _)) _ _ ?_ (sub_cons rfl (sub_cons rfl sub_nil)) (sub_cons rfl (sub_cons rfl (sub_cons rfl (sub_cons rfl (sub_cons rfl (sub_cons rfl (sub_cons rfl sub_nil))))))) subH_nil (subH_same rfl (subH_same rfl (subH_same rfl (subH_same rfl (subH_same rfl (subH_same rfl (subH_same rfl (subH_same rfl (subH_same rfl (subH_same rfl (subH_same rfl subH_nil)))))))))))))
      try dsimp only
      first
      | exact .inl ⟨by omega, rfl, rfl⟩
     ·refine wp_seq' fun K47 hK47 => ?_
      refine wp_reg ?_
      refine ol_r (r_move rfl) rfl ?_
      refine ol_r (r_assign rfl) rfl ?_
      refine ol_nil (to_k0 (fun _ _ h => h) (hK47 _ _ _ _ _ ?_))
      clear hK47
      refine wp_reg ?_
      refine ol_r (r_move rfl) rfl ?_
      refine ol_r (r_assign rfl) rfl ?_
      refine ol_nil (to_k0 (fun _ _ h => h) (hK44 ((_, _)) _ _ ?_ (sub_cons rfl (sub_cons rfl sub_nil)) (sub_cons rfl (sub_cons rfl (sub_cons rfl (sub_cons rfl (sub_cons rfl (sub_cons rfl (sub_cons rfl sub_nil))))))) subH_nil (subH_same rfl (subH_same rfl (subH_same rfl (subH_same rfl (subH_same rfl (subH_same rfl (subH_same rfl (subH_same rfl (subH_same rfl (subH_same rfl (subH_same rfl subH_nil)))))))))))))
      try dsimp only
      first
      | exact .inr ⟨by omega, rfl, rfl⟩
    ·rintro ⟨s0, r0⟩ h0
     dsimp only at h0 ⊢
     refine wp_seq' fun K48 hK48 => ?_
     refine wp_reg ?_
     refine ol_r (r_move rfl) rfl ?_
     refine ol_r (r_subT (mid + m - 1) rfl rfl (by omega) (by omega)) rfl ?_
     refine ol_r (r_assign rfl) rfl ?_
     refine ol_nil (to_k0 (fun _ _ h => h) (hK48 _ _ _ _ _ ?_))
     clear hK48
     refine wp_seq' fun K49 hK49 => ?_
     refine wp_block' ?_
     apply wp_loopM (σ := Nat × Nat) (fun s => s0 ≤ s.1 ∧ s.1 ≤ s.2 ∧ s.2 ≤ r0 ∧ (s0 < s.1 → ltC cf (f (mid + m - s.1)) (f (s.1 - 1)) = false) ∧ (s.2 < r0 → ltC cf (f (mid + m - 1 - s.2)) (f s.2) = true)) (fun s => [(20, .int .i64 s.1), (21, .int .i64 s.2)]) [(0, _), (1, _), (2, _), (3, _), (4, _), (18, _), (19, _), (22, _)] (fun s => []) [(5000, _), (5001, _), (5002, _), (5003, _), (5004, _), (5005, _), (5006, _), (5007, _), (5008, _), (5009, _), (5010, _)] (fun s => s.2 - s.1) ((s0, r0))
     ·try dsimp only
      exact ⟨Nat.le_refl _, by omega, Nat.le_refl _, fun h4 => by omega, fun h4 => by omega⟩
     ·exact (sub_cons rfl (sub_cons rfl sub_nil))
     ·exact (sub_cons rfl (sub_cons rfl (sub_cons rfl (sub_cons rfl (sub_cons rfl (sub_cons rfl (sub_cons rfl (sub_cons rfl sub_nil))))))))
     ·exact subH_nil
     ·exact (subH_same rfl (subH_same rfl (subH_same rfl (subH_same rfl (subH_same rfl (subH_same rfl (subH_same rfl (subH_same rfl (subH_same rfl (subH_same rfl (subH_same rfl subH_nil)))))))))))
     ·rintro ⟨u, r⟩ ⟨hi, hij, hj, hlo, hhi⟩
      dsimp only at hi hij hj hlo hhi ⊢
      intro K50 hK50
      refine wp_seq' fun K51 hK51 => ?_
      refine wp_seq' fun K52 hK52 => ?_
      refine wp_reg ?_
      refine ol_r (r_move rfl) rfl ?_
      refine ol_r (r_move rfl) rfl ?_
      refine ol_r (r_lss rfl rfl) rfl ?_
      refine ol_nil (to_k0 (fun _ _ h => h) (hK52 _ _ _ _ _ ?_))
      clear hK52
      refine wp_condD rfl (fun hc151 => ?_) (fun hc151 => ?_)
      ·refine wp_skip' (to_k0 (fun _ _ h => h) (hK51 _ _ _ _ _ ?_))
       clear hK51
       refine wp_block' ?_
       refine wp_seq' fun K53 hK53 => ?_
       refine wp_reg ?_
       refine ol_r (r_move rfl) rfl ?_
       refine ol_r (r_move rfl) rfl ?_
       refine ol_r (r_add rfl rfl (by omega)) rfl ?_
       refine ol_r (r_conv (k2 := .u64) rfl (by kernel_rfl) (by kernel_rfl) (wrap_u64 (by omega))) rfl ?_
       refine ol_r (r_shr1 rfl rfl) rfl ?_
       refine ol_r (r_conv (k2 := .i64) rfl (by kernel_rfl) (by kernel_rfl) (IntWalk.i64_in _ (by omega))) rfl ?_
       obtain ⟨h, hh⟩ : ∃ h : Nat, ((u : Int) + (r : Int)) / 2 = h := ⟨(u + r) / 2, by omega⟩
       rw [hh]
       refine ol_r (r_assign rfl) rfl ?_
       refine ol_nil (to_k0 (fun _ _ h => h) (hK53 _ _ _ _ _ ?_))
       clear hK53
       refine wp_seq' fun K54 hK54 => ?_
       refine wp_regq (by kernel_rfl) (by kernel_rfl) ?_
       refine ql_r (r_move rfl) rfl ?_
       refine ql_r (r_move rfl) rfl ?_
       refine ql_r (r_move rfl) rfl ?_
       refine ql_r (r_move rfl) rfl ?_
       refine ql_r (r_sub rfl rfl (by omega)) rfl ?_
       refine ql_ixo (id := 5000) encI _ rfl rfl rfl rfl sl150 (by omega) (by omega) rfl fun x163 hx163 => ?_
       try simp only [Int.toNat_natCast] at hx163
       try simp only [Int.toNat_natCast] at hx163
       refine ql_r (r_ldw rfl (fun w1 hb1 hs1 hB1 => show Loads _ _ _ _ (.int .i64 x163) from ld_own (id := 5000) hs1 rfl rfl ty3 hx163)) rfl ?_
       refine ql_r (r_move rfl) rfl ?_
       refine ql_r (r_move rfl) rfl ?_
       refine ql_ixo (id := 5000) encI _ rfl rfl rfl rfl sl150 (by omega) (by omega) rfl fun x167 hx167 => ?_
       try simp only [Int.toNat_natCast] at hx167
       try simp only [Int.toNat_natCast] at hx167
       refine ql_r (r_ldw rfl (fun w1 hb1 hs1 hB1 => show Loads _ _ _ _ (.int .i64 x167) from ld_own (id := 5000) hs1 rfl rfl ty3 hx167)) rfl ?_
       have hx163' := hx163
       rw [show (((mid + m - 1 : Nat) : Int) - (h : Int)).toNat = mid + m - 1 - h by omega] at hx163'
       refine ql_call rfl rfl cb104 rfl (fun w1 hb1 hs1 hB1 => hcmp _ _ _ (by rw [← tab_eq hx163]; exact hG _ (by omega)) (by rw [← tab_eq hx167]; exact hG _ (by omega)) (hs1.sub (subH_same rfl (subH_same rfl subH_nil))) hB1) ?_
       refine ql_r (r_lss rfl rfl) rfl ?_
       refine ql_r (r_not rfl) rfl ?_
       refine ql_nil (to_k0 (fun _ _ h => h) (hK54 _ _ _ _ _ ?_))
       clear hK54
       refine wp_condN rfl (fun hc171 => ?_) (fun hc171 => ?_)
       ·refine wp_reg ?_
        refine ol_r (r_move rfl) rfl ?_
        refine ol_r (r_addT (h + 1) rfl rfl (by omega) (by omega)) rfl ?_
        refine ol_r (r_assign rfl) rfl ?_
        refine ol_nil (to_k0 (fun _ _ h => h) (hK50 ((_, _)) _ _ ?_ ?_ (sub_cons rfl (sub_cons rfl sub_nil)) (sub_cons rfl (sub_cons rfl (sub_cons rfl (sub_cons rfl (sub_cons rfl (sub_cons rfl (sub_cons rfl (sub_cons rfl sub_nil)))))))) (by exact subH_nil) (subH_same rfl (subH_same rfl (subH_same rfl (subH_same rfl (subH_same rfl (subH_same rfl (subH_same rfl (subH_same rfl (subH_same rfl (subH_same rfl (subH_same rfl subH_nil)))))))))))))
        ·try dsimp only
         first
           | exact ⟨by omega, by omega, by omega, fun _ => by
               rw [show mid + m - (h + 1) = mid + m - 1 - h by omega, Nat.add_sub_cancel]
               refine ltC_f ?_
               rw [tab_eq hx163', tab_eq hx167]; exact hc171, hhi⟩
        ·try dsimp only
         omega
       ·refine wp_reg ?_
        refine ol_r (r_move rfl) rfl ?_
        refine ol_r (r_assign rfl) rfl ?_
        refine ol_nil (to_k0 (fun _ _ h => h) (hK50 ((_, _)) _ _ ?_ ?_ (sub_cons rfl (sub_cons rfl sub_nil)) (sub_cons rfl (sub_cons rfl (sub_cons rfl (sub_cons rfl (sub_cons rfl (sub_cons rfl (sub_cons rfl (sub_cons rfl sub_nil)))))))) (by exact subH_nil) (subH_same rfl (subH_same rfl (subH_same rfl (subH_same rfl (subH_same rfl (subH_same rfl (subH_same rfl (subH_same rfl (subH_same rfl (subH_same rfl (subH_same rfl subH_nil)))))))))))))
        ·try dsimp only
         first
           | exact ⟨by omega, by omega, by omega, hlo, fun _ => by
               refine ltC_t ?_
               rw [tab_eq hx163', tab_eq hx167]; exact hc171⟩
        ·try dsimp only
         omega
      ·refine wp_exit' (to_k0 (fun _ _ h => h) (hK49 _ _ _ _ _ ?_))
       clear hK49
       refine wp_seq' fun K55 hK55 => ?_
       refine wp_reg ?_
       refine ol_r (r_move rfl) rfl ?_
       refine ol_r (r_move rfl) rfl ?_
       refine ol_r (r_subT (mid + m - u) rfl rfl (by omega) (by omega)) rfl ?_
       obtain rfl : u = r := by omega
       have hT : Turn (ltC cf) f p m q mid u (mid + m - u) := by
         refine ⟨by omega, ⟨by omega, by omega, by omega, by omega⟩, fun t1 t2 => ?_, fun t1 t2 => ?_⟩
         · exact hlo (by omega)
         · rw [show mid + m - u - 1 = mid + m - 1 - u by omega]; exact hhi (by omega)
       have hP := turn_parts hw hM hT (by omega)
       refine ol_r (r_assign rfl) rfl ?_
       refine ol_nil (to_k0 (fun _ _ h => h) (hK55 _ _ _ _ _ ?_))
       clear hK55
       apply wp_seq_cutM (σ := Nat → Int) (fun s => s = rotF f u m (mid + m - u)) (fun s => []) [(0, _), (1, _), (3, _), (4, _), (18, _), (20, _), (24, _)] (fun s => [(5000, .row a n c (encI.enc (tab n s)) 3 1)]) [(5001, _), (5002, _), (5003, _), (5004, _), (5005, _), (5006, _), (5007, _), (5008, _), (5009, _), (5010, _)]
       ·exact (sub_cons rfl (sub_cons rfl (sub_cons rfl (sub_cons rfl (sub_cons rfl (sub_cons rfl (sub_cons rfl sub_nil)))))))
       ·exact (subH_same rfl (subH_same rfl (subH_same rfl (subH_same rfl (subH_same rfl (subH_same rfl (subH_same rfl (subH_same rfl (subH_same rfl (subH_same rfl subH_nil))))))))))
       ·intro K56 hK56
        refine wp_seq' fun K57 hK57 => ?_
        refine wp_reg ?_
        refine ol_r (r_move rfl) rfl ?_
        refine ol_r (r_move rfl) rfl ?_
        refine ol_r (r_lss rfl rfl) rfl ?_
        refine ol_r (r_move rfl) rfl ?_
        refine ol_split (d := 181) rfl (fun hs181 => ?_) (fun hs181 => ?_)
        ·have phs181 := hs181; try simp only [decide_eq_true_eq, decide_eq_false_iff_not, Bool.not_eq_true', Bool.not_eq_false', Bool.not_true, Bool.not_false] at phs181
         refine ol_g rfl rfl hs181 ?_
         refine ol_r (r_move rfl) rfl ?_
         refine ol_g rfl rfl hs181 ?_
         refine ol_r (r_move rfl) rfl ?_
         refine ol_g rfl rfl hs181 ?_
         refine ol_r (r_lss rfl rfl) rfl ?_
         refine ol_r (r_pickT rfl hs181 rfl) rfl ?_
         refine ol_nil (to_k0 (fun _ _ h => h) (hK57 _ _ _ _ _ ?_))
         clear hK57
         refine wp_condD rfl (fun hc185 => ?_) (fun hc185 => ?_)
         ·refine wp_reg ?_
          refine ol_r (r_move rfl) rfl ?_
          refine ol_r (r_move rfl) rfl ?_
          refine ol_r (r_move rfl) rfl ?_
          refine ol_r (r_move rfl) rfl ?_
          refine ol_r (r_move rfl) rfl ?_
          refine ol_call rfl rfl cb156 rfl (fun w1 hb1 hs1 hB1 => ?_)
          refine Calls.mono (rotate_w cf Good B cb a n c e1 e2 e3 e4 e5 e6 e7 e8 e9 e10 f u m (mid + m - u) _ hB1 hn (by omega) (by omega) (by omega) (hs1.sub (subH_same rfl (subH_same rfl (subH_same rfl (subH_same rfl (subH_same rfl (subH_same rfl (subH_same rfl (subH_same rfl (subH_same rfl (subH_same rfl (subH_same rfl subH_nil))))))))))))) ?_
          rintro e w2 ⟨g, rfl, hb2, hs2, hB2, hk2, hg⟩
          refine After.sat rfl hb1 hb2 hs2 hB2 (hk2.imp fun _ h => h.elim) ?_
          clear hk2 hs2 hb2 hB2 hB1 hs1 hb1 w2 w1
          refine ol_nil (to_k0 (fun _ _ h => h) (hK56 (_) _ _ ?_ sub_nil (sub_cons rfl (sub_cons rfl (sub_cons rfl (sub_cons rfl (sub_cons rfl (sub_cons rfl (sub_cons rfl sub_nil))))))) (subH_row rfl (by rfl) subH_nil) (subH_same rfl (subH_same rfl (subH_same rfl (subH_same rfl (subH_same rfl (subH_same rfl (subH_same rfl (subH_same rfl (subH_same rfl (subH_same rfl subH_nil))))))))))))
          try dsimp only
          first
          | exact hg
         ·refine wp_skip' (to_k0 (fun _ _ h => h) (hK56 (_) _ _ ?_ sub_nil (sub_cons rfl (sub_cons rfl (sub_cons rfl (sub_cons rfl (sub_cons rfl (sub_cons rfl (sub_cons rfl sub_nil))))))) (subH_row rfl (by rfl) subH_nil) (subH_same rfl (subH_same rfl (subH_same rfl (subH_same rfl (subH_same rfl (subH_same rfl (subH_same rfl (subH_same rfl (subH_same rfl (subH_same rfl subH_nil))))))))))))
          try dsimp only
          first
          | (rcases Nat.lt_or_ge u m with h9 | h9
             · have h8 : mid + m - u = m := by omega
               rw [h8, rotF_id2]
             · have h8 : u = m := by omega
               rw [h8, show mid + m - m = mid by omega, rotF_id1])
        ·have phs181 := hs181; try simp only [decide_eq_true_eq, decide_eq_false_iff_not, Bool.not_eq_true', Bool.not_eq_false', Bool.not_true, Bool.not_false] at phs181
         refine ol_s rfl rfl hs181 rfl ?_
         refine ol_s rfl rfl hs181 rfl ?_
         refine ol_s rfl rfl hs181 rfl ?_
         refine ol_r (r_pickF rfl hs181 rfl) rfl ?_
         refine ol_nil (to_k0 (fun _ _ h => h) (hK57 _ _ _ _ _ ?_))
         clear hK57
         refine wp_condF rfl ?_
         refine wp_skip' (to_k0 (fun _ _ h => h) (hK56 (_) _ _ ?_ sub_nil (sub_cons rfl (sub_cons rfl (sub_cons rfl (sub_cons rfl (sub_cons rfl (sub_cons rfl (sub_cons rfl sub_nil))))))) (subH_row rfl (by rfl) subH_nil) (subH_same rfl (subH_same rfl (subH_same rfl (subH_same rfl (subH_same rfl (subH_same rfl (subH_same rfl (subH_same rfl (subH_same rfl (subH_same rfl subH_nil))))))))))))
         try dsimp only
         first
         | (rcases Nat.lt_or_ge u m with h9 | h9
            · have h8 : mid + m - u = m := by omega
              rw [h8, rotF_id2]
            · have h8 : u = m := by omega
              rw [h8, show mid + m - m = mid by omega, rotF_id1])
       ·rintro F1 hF1
        have hF1l := tab_len n F1
        have hR0 : SaS f (rotF f u m (mid + m - u)) 0 n := (SaS.rot (f := f) hT.rg.2.1 hT.rg.2.2.1).widen (Nat.zero_le _) (by omega) (by omega) (fun x hx => by simp only [rotF]; rw [if_neg (by omega), if_neg (by omega)])
        rw [← hF1] at hP hR0
        have hG1 := good_of hG hR0
        apply wp_seq_cutM (σ := Nat → Int) (fun s => Blo (ltC cf) F1 s p mid) (fun s => []) [(0, _), (3, _), (4, _), (18, _), (24, _)] (fun s => [(5000, .row a n c (encI.enc (tab n s)) 3 1)]) [(5001, _), (5002, _), (5003, _), (5004, _), (5005, _), (5006, _), (5007, _), (5008, _), (5009, _), (5010, _)]
        ·exact (sub_cons rfl (sub_cons rfl (sub_cons rfl (sub_cons rfl (sub_cons rfl sub_nil)))))
        ·exact (subH_same rfl (subH_same rfl (subH_same rfl (subH_same rfl (subH_same rfl (subH_same rfl (subH_same rfl (subH_same rfl (subH_same rfl (subH_same rfl subH_nil))))))))))
        ·intro K58 hK58
         refine wp_seq' fun K59 hK59 => ?_
         refine wp_reg ?_
         refine ol_r (r_move rfl) rfl ?_
         refine ol_r (r_move rfl) rfl ?_
         refine ol_r (r_lss rfl rfl) rfl ?_
         refine ol_r (r_move rfl) rfl ?_
         refine ol_split (d := 195) rfl (fun hs195 => ?_) (fun hs195 => ?_)
         ·have phs195 := hs195; try simp only [decide_eq_true_eq, decide_eq_false_iff_not, Bool.not_eq_true', Bool.not_eq_false', Bool.not_true, Bool.not_false] at phs195
          refine ol_g rfl rfl hs195 ?_
          refine ol_r (r_move rfl) rfl ?_
          refine ol_g rfl rfl hs195 ?_
          refine ol_r (r_move rfl) rfl ?_
          refine ol_g rfl rfl hs195 ?_
          refine ol_r (r_lss rfl rfl) rfl ?_
          refine ol_r (r_pickT rfl hs195 rfl) rfl ?_
          refine ol_nil (to_k0 (fun _ _ h => h) (hK59 _ _ _ _ _ ?_))
          clear hK59
          refine wp_condD rfl (fun hc199 => ?_) (fun hc199 => ?_)
          ·refine wp_reg ?_
           refine ol_r (r_move rfl) rfl ?_
           refine ol_r (r_move rfl) rfl ?_
           refine ol_r (r_move rfl) rfl ?_
           refine ol_r (r_move rfl) rfl ?_
           refine ol_r (r_move rfl) rfl ?_
           refine ol_call rfl rfl cb146 rfl (fun w1 hb1 hs1 hB1 => ?_)
           refine Calls.mono (ih p u mid F1 _ (by omega) hB1 (by omega) (by omega) (by omega) hG1 hP.1 (hs1.sub (subH_same rfl (subH_same rfl (subH_same rfl (subH_same rfl (subH_same rfl (subH_same rfl (subH_same rfl (subH_same rfl (subH_same rfl (subH_same rfl (subH_same rfl subH_nil))))))))))))) ?_
           rintro e w2 ⟨g, rfl, hb2, hs2, hB2, hk2, hg⟩
           refine After.sat rfl hb1 hb2 hs2 hB2 (hk2.imp fun _ h => h.elim) ?_
           clear hk2 hs2 hb2 hB2 hB1 hs1 hb1 w2 w1
           refine ol_nil (to_k0 (fun _ _ h => h) (hK58 (_) _ _ ?_ sub_nil (sub_cons rfl (sub_cons rfl (sub_cons rfl (sub_cons rfl (sub_cons rfl sub_nil))))) (subH_row rfl (by rfl) subH_nil) (subH_same rfl (subH_same rfl (subH_same rfl (subH_same rfl (subH_same rfl (subH_same rfl (subH_same rfl (subH_same rfl (subH_same rfl (subH_same rfl subH_nil))))))))))))
           try dsimp only
           first
           | exact hg
          ·refine wp_skip' (to_k0 (fun _ _ h => h) (hK58 (_) _ _ ?_ sub_nil (sub_cons rfl (sub_cons rfl (sub_cons rfl (sub_cons rfl (sub_cons rfl sub_nil))))) (subH_row rfl (by rfl) subH_nil) (subH_same rfl (subH_same rfl (subH_same rfl (subH_same rfl (subH_same rfl (subH_same rfl (subH_same rfl (subH_same rfl (subH_same rfl (subH_same rfl subH_nil))))))))))))
           try dsimp only
           first
           | (refine Blo.one ?_
              rcases Nat.lt_or_ge p u with h9 | h9
              · have h8 : u = mid := by omega
                have h7 := hP.1.l
                rw [h8] at h7; exact h7
              · have h8 : u = p := by omega
                have h7 := hP.1.r
                rw [h8] at h7; exact h7)
         ·have phs195 := hs195; try simp only [decide_eq_true_eq, decide_eq_false_iff_not, Bool.not_eq_true', Bool.not_eq_false', Bool.not_true, Bool.not_false] at phs195
          refine ol_s rfl rfl hs195 rfl ?_
          refine ol_s rfl rfl hs195 rfl ?_
          refine ol_s rfl rfl hs195 rfl ?_
          refine ol_r (r_pickF rfl hs195 rfl) rfl ?_
          refine ol_nil (to_k0 (fun _ _ h => h) (hK59 _ _ _ _ _ ?_))
          clear hK59
          refine wp_condF rfl ?_
          refine wp_skip' (to_k0 (fun _ _ h => h) (hK58 (_) _ _ ?_ sub_nil (sub_cons rfl (sub_cons rfl (sub_cons rfl (sub_cons rfl (sub_cons rfl sub_nil))))) (subH_row rfl (by rfl) subH_nil) (subH_same rfl (subH_same rfl (subH_same rfl (subH_same rfl (subH_same rfl (subH_same rfl (subH_same rfl (subH_same rfl (subH_same rfl (subH_same rfl subH_nil))))))))))))
          try dsimp only
          first
          | (refine Blo.one ?_
             rcases Nat.lt_or_ge p u with h9 | h9
             · have h8 : u = mid := by omega
               have h7 := hP.1.l
               rw [h8] at h7; exact h7
             · have h8 : u = p := by omega
               have h7 := hP.1.r
               rw [h8] at h7; exact h7)
        ·rintro F2 hF2
         have hF2l := tab_len n F2
         have hG2 := good_of hG1 (hF2.all (by omega) (by omega))
         have hM2 : MrgI (ltC cf) F2 mid (mid + m - u) q := by
           refine ⟨fun x y x1 x2 x3 => ?_, fun x y x1 x2 x3 => ?_, fun x y x1 x2 x3 x4 => ?_⟩
           · rw [hF2.out x (by omega), hF2.out y (by omega)]; exact hP.2.1.l x y x1 x2 x3
           · rw [hF2.out x (by omega), hF2.out y (by omega)]; exact hP.2.1.r x y x1 x2 x3
           · rw [hF2.out x (by omega), hF2.out y (by omega)]; exact hP.2.1.nu x y x1 x2 x3 x4
         refine wp_seq' fun K60 hK60 => ?_
         refine wp_reg ?_
         refine ol_r (r_move rfl) rfl ?_
         refine ol_r (r_move rfl) rfl ?_
         refine ol_r (r_lss rfl rfl) rfl ?_
         refine ol_r (r_move rfl) rfl ?_
         refine ol_split (d := 209) rfl (fun hs209 => ?_) (fun hs209 => ?_)
         ·have phs209 := hs209; try simp only [decide_eq_true_eq, decide_eq_false_iff_not, Bool.not_eq_true', Bool.not_eq_false', Bool.not_true, Bool.not_false] at phs209
          refine ol_g rfl rfl hs209 ?_
          refine ol_r (r_move rfl) rfl ?_
          refine ol_g rfl rfl hs209 ?_
          refine ol_r (r_move rfl) rfl ?_
          refine ol_g rfl rfl hs209 ?_
          refine ol_r (r_lss rfl rfl) rfl ?_
          refine ol_r (r_pickT rfl hs209 rfl) rfl ?_
          refine ol_nil (to_k0 (fun _ _ h => h) (hK60 _ _ _ _ _ ?_))
          clear hK60
          refine wp_condD rfl (fun hc213 => ?_) (fun hc213 => ?_)
          ·refine wp_reg ?_
           refine ol_r (r_move rfl) rfl ?_
           refine ol_r (r_move rfl) rfl ?_
           refine ol_r (r_move rfl) rfl ?_
           refine ol_r (r_move rfl) rfl ?_
           refine ol_r (r_move rfl) rfl ?_
           refine ol_call rfl rfl cb146 rfl (fun w1 hb1 hs1 hB1 => ?_)
           refine Calls.mono (ih mid (mid + m - u) q F2 _ (by omega) hB1 (by omega) (by omega) (by omega) hG2 hM2 (hs1.sub (subH_same rfl (subH_same rfl (subH_same rfl (subH_same rfl (subH_same rfl (subH_same rfl (subH_same rfl (subH_same rfl (subH_same rfl (subH_same rfl (subH_same rfl subH_nil))))))))))))) ?_
           rintro e w2 ⟨g, rfl, hb2, hs2, hB2, hk2, hg⟩
           refine After.sat rfl hb1 hb2 hs2 hB2 (hk2.imp fun _ h => h.elim) ?_
           clear hk2 hs2 hb2 hB2 hB1 hs1 hb1 w2 w1
           refine ol_nil (hQ.fall rvs0 (fun _ _ h => h) fun w hb hs hB hkd => ?_)
           first
             | exact ⟨_, rfl, hb, hs.sub (subH_same rfl (subH_same rfl (subH_same rfl (subH_same rfl (subH_same rfl (subH_same rfl (subH_same rfl (subH_same rfl (subH_same rfl (subH_same rfl (subH_same rfl subH_nil))))))))))), hB, hkd, turn_blo hw hM hT (by omega) (hF1 ▸ hF2) hg⟩
          ·refine wp_skip' (hQ.fall rvs0 (fun _ _ h => h) fun w hb hs hB hkd => ?_)
           first
             | (refine ⟨_, rfl, hb, hs.sub (subH_same rfl (subH_same rfl (subH_same rfl (subH_same rfl (subH_same rfl (subH_same rfl (subH_same rfl (subH_same rfl (subH_same rfl (subH_same rfl (subH_same rfl subH_nil))))))))))), hB, hkd, turn_blo hw hM hT (by omega) (hF1 ▸ hF2) (Blo.one ?_)⟩
                rcases Nat.lt_or_ge mid (mid + m - u) with h9 | h9
                · have h8 : mid + m - u = q := by omega
                  have h7 := hM2.l
                  rw [h8] at h7; exact h7
                · have h8 : mid + m - u = mid := by omega
                  have h7 := hM2.r
                  rw [h8] at h7; exact h7)
         ·have phs209 := hs209; try simp only [decide_eq_true_eq, decide_eq_false_iff_not, Bool.not_eq_true', Bool.not_eq_false', Bool.not_true, Bool.not_false] at phs209
          refine ol_s rfl rfl hs209 rfl ?_
          refine ol_s rfl rfl hs209 rfl ?_
          refine ol_s rfl rfl hs209 rfl ?_
          refine ol_r (r_pickF rfl hs209 rfl) rfl ?_
          refine ol_nil (to_k0 (fun _ _ h => h) (hK60 _ _ _ _ _ ?_))
          clear hK60
          refine wp_condF rfl ?_
          refine wp_skip' (hQ.fall rvs0 (fun _ _ h => h) fun w hb hs hB hkd => ?_)
          first
            | (refine ⟨_, rfl, hb, hs.sub (subH_same rfl (subH_same rfl (subH_same rfl (subH_same rfl (subH_same rfl (subH_same rfl (subH_same rfl (subH_same rfl (subH_same rfl (subH_same rfl (subH_same rfl subH_nil))))))))))), hB, hkd, turn_blo hw hM hT (by omega) (hF1 ▸ hF2) (Blo.one ?_)⟩
               rcases Nat.lt_or_ge mid (mid + m - u) with h9 | h9
               · have h8 : mid + m - u = q := by omega
                 have h7 := hM2.l
                 rw [h8] at h7; exact h7
               · have h8 : mid + m - u = mid := by omega
                 have h7 := hM2.r
                 rw [h8] at h7; exact h7)

theorem dvd_next {s p A : Nat} (hs : 0 < s) (h1 : s ∣ p) (h2 : s ∣ A) (h3 : p < A) : p + s ≤ A := by
  obtain ⟨x, rfl⟩ := h1
  obtain ⟨y, rfl⟩ := h2
  have h4 : x < y := Nat.lt_of_mul_lt_mul_left h3
  have h5 := Nat.mul_le_mul_left s (show x + 1 ≤ y from h4)
  rw [Nat.mul_add, Nat.mul_one] at h5
  exact h5
/-- Blocks of size s up to A are sorted, each with what it held; behind A nothing turned. -/
structure Hlf (lt : Int → Int → Bool) (f F0 F : Nat → Int) (s n A : Nat) : Prop where
  dv : s ∣ A
  ok : ∀ p, s ∣ p → p < A → SoR lt F p (p + s) ∧ SaS f F p (p + s)
  un : ∀ x, A ≤ x → F x = F0 x
theorem Hlf.zero {lt : Int → Int → Bool} {f F0 : Nat → Int} {s n : Nat} : Hlf lt f F0 F0 s n 0 := ⟨Nat.dvd_zero _, fun p _ h => by omega, fun _ _ => rfl⟩
theorem Blo.cong {lt : Int → Int → Bool} {f f' g : Nat → Int} {a b : Nat} (h : Blo lt f g a b) (he : ∀ x, a ≤ x → x < b → f x = f' x) : SoR lt g a b ∧ SaS f' g a b :=
  ⟨h.so, fun x p q => by obtain ⟨y, y1, y2, y3⟩ := h.sa.1 x p q; exact ⟨y, y1, y2, by rw [← he x p q]; exact y3⟩, fun x p q => by obtain ⟨y, y1, y2, y3⟩ := h.sa.2 x p q; exact ⟨y, y1, y2, by rw [← he y y1 y2]; exact y3⟩⟩
theorem Hlf.next {lt : Int → Int → Bool} {f F0 F G : Nat → Int} {s n A : Nat} (hs : 0 < s) (h : Hlf lt f F0 F s n A) (ho : ∀ x, x < A ∨ A + s ≤ x → G x = F x) (hG : SoR lt G A (A + s) ∧ SaS f G A (A + s)) : Hlf lt f F0 G s n (A + s) := by
  refine ⟨Nat.dvd_add h.dv (Nat.dvd_refl _), fun p p1 p2 => ?_, fun x hx => by rw [ho x (by omega)]; exact h.un x (by omega)⟩
  by_cases hp : p < A
  · have h2 := dvd_next hs p1 h.dv hp
    obtain ⟨h3, h4⟩ := h.ok p p1 hp
    refine ⟨fun x y x1 x2 x3 => by rw [ho x (by omega), ho y (by omega)]; exact h3 x y x1 x2 x3, fun x x1 x2 => ?_, fun x x1 x2 => ?_⟩
    · obtain ⟨y, y1, y2, y3⟩ := h4.1 x x1 x2; exact ⟨y, y1, y2, by rw [ho y (by omega)]; exact y3⟩
    · obtain ⟨y, y1, y2, y3⟩ := h4.2 x x1 x2; exact ⟨y, y1, y2, by rw [ho x (by omega)]; exact y3⟩
  · have h5 : p = A := by
      obtain ⟨x, hx⟩ := p1
      obtain ⟨y, hy⟩ := h.dv
      rw [hx, hy] at hp p2 ⊢
      have h6 : y ≤ x := by
        apply Decidable.byContradiction; intro h7
        exact hp ((Nat.mul_lt_mul_left hs).2 (by omega))
      have h8 : x < y + 1 := by
        apply Decidable.byContradiction; intro h7
        have := Nat.mul_le_mul_left s (show y + 1 ≤ x by omega)
        rw [Nat.mul_add, Nat.mul_one] at this
        omega
      rw [show x = y by omega]
    subst h5; exact hG
/-- All blocks. -/
theorem Hlf.last {lt : Int → Int → Bool} {f F0 F G : Nat → Int} {s n A : Nat} (hs : 0 < s) (h : Hlf lt f F0 F s n A) (hA : A ≤ n) (hn : n < A + s) (ho : ∀ x, x < A ∨ n ≤ x → G x = F x) (hG : SoR lt G A n ∧ SaS f G A n) : Blks lt f G s n ∧ SaS f G 0 n := by
  have key : ∀ p, s ∣ p → p < n → SoR lt G p (min (p + s) n) ∧ SaS f G p (min (p + s) n) := fun p p1 p2 => by
    by_cases hp : p < A
    · have h2 := dvd_next hs p1 h.dv hp
      obtain ⟨h3, h4⟩ := h.ok p p1 hp
      rw [Nat.min_eq_left (by omega)]
      refine ⟨fun x y x1 x2 x3 => by rw [ho x (by omega), ho y (by omega)]; exact h3 x y x1 x2 x3, fun x x1 x2 => ?_, fun x x1 x2 => ?_⟩
      · obtain ⟨y, y1, y2, y3⟩ := h4.1 x x1 x2; exact ⟨y, y1, y2, by rw [ho y (by omega)]; exact y3⟩
      · obtain ⟨y, y1, y2, y3⟩ := h4.2 x x1 x2; exact ⟨y, y1, y2, by rw [ho x (by omega)]; exact y3⟩
    · have h5 : p = A := by
        apply Decidable.byContradiction; intro h7
        have := dvd_next hs h.dv p1 (by omega)
        omega
      subst h5
      rw [Nat.min_eq_right (by omega)]; exact hG
  refine ⟨key, ?_⟩
  constructor
  · intro x _ hx
    obtain ⟨q, hq⟩ : ∃ q, q = x / s * s := ⟨_, rfl⟩
    have h1 : s ∣ q := ⟨x / s, by rw [hq, Nat.mul_comm]⟩
    have h2 := Nat.div_add_mod' x s
    have h3 := Nat.mod_lt x hs
    obtain ⟨_, h4⟩ := key q h1 (by omega)
    obtain ⟨y, y1, y2, y3⟩ := h4.1 x (by omega) (by omega)
    exact ⟨y, Nat.zero_le _, by omega, y3⟩
  · intro x _ hx
    obtain ⟨q, hq⟩ : ∃ q, q = x / s * s := ⟨_, rfl⟩
    have h1 : s ∣ q := ⟨x / s, by rw [hq, Nat.mul_comm]⟩
    have h2 := Nat.div_add_mod' x s
    have h3 := Nat.mod_lt x hs
    obtain ⟨_, h4⟩ := key q h1 (by omega)
    obtain ⟨y, y1, y2, y3⟩ := h4.2 x (by omega) (by omega)
    exact ⟨y, Nat.zero_le _, by omega, y3⟩
theorem Blks.mrg {lt : Int → Int → Bool} {f F0 F : Nat → Int} {s n p q : Nat} (hu : ∀ x y, x < y → y < n → f x < f y) (hs : 0 < s) (h : Blks lt f F0 s n) (hp : s ∣ p) (hm : p + s < q) (hqn : q ≤ n) (hx : q = p + s + s ∨ (q = n ∧ n ≤ p + s + s)) (he : ∀ x, p ≤ x → F x = F0 x) : MrgI lt F p (p + s) q ∧ SaS f F p q := by
  obtain ⟨a1, a2⟩ := h p hp (by omega)
  obtain ⟨b1, b2⟩ := h (p + s) (Nat.dvd_add hp (Nat.dvd_refl _)) (by omega)
  rw [Nat.min_eq_left (by omega)] at a1 a2
  rw [show min (p + s + s) n = q by omega] at b1 b2
  have a3 : SaS f F p (p + s) := ⟨fun x x1 x2 => by obtain ⟨y, y1, y2, y3⟩ := a2.1 x x1 x2; exact ⟨y, y1, y2, by rw [he y (by omega)]; exact y3⟩, fun x x1 x2 => by obtain ⟨y, y1, y2, y3⟩ := a2.2 x x1 x2; exact ⟨y, y1, y2, by rw [he x (by omega)]; exact y3⟩⟩
  have b3 : SaS f F (p + s) q := ⟨fun x x1 x2 => by obtain ⟨y, y1, y2, y3⟩ := b2.1 x x1 x2; exact ⟨y, y1, y2, by rw [he y (by omega)]; exact y3⟩, fun x x1 x2 => by obtain ⟨y, y1, y2, y3⟩ := b2.2 x x1 x2; exact ⟨y, y1, y2, by rw [he x (by omega)]; exact y3⟩⟩
  refine ⟨⟨fun x y x1 x2 x3 => by rw [he x (by omega), he y (by omega)]; exact a1 x y x1 x2 x3, fun x y x1 x2 x3 => by rw [he x (by omega), he y (by omega)]; exact b1 x y x1 x2 x3, fun x y x1 x2 x3 x4 => ?_⟩, SaS.join a3 b3 (by omega) (by omega)⟩
  obtain ⟨x', x1', x2', x3'⟩ := a3.2 x x1 x2
  obtain ⟨y', y1', y2', y3'⟩ := b3.2 y x3 x4
  rw [x3', y3']
  exact hu _ _ (by omega) (by omega)
theorem Blks.rest {lt : Int → Int → Bool} {f F0 F : Nat → Int} {s n p : Nat} (h : Blks lt f F0 s n) (hp : s ∣ p) (hpn : p ≤ n) (hn : n ≤ p + s) (he : ∀ x, p ≤ x → F x = F0 x) : SoR lt F p n ∧ SaS f F p n := by
  by_cases h0 : p = n
  · subst h0; exact ⟨fun x y h1 h2 h3 => by omega, fun x h1 h2 => by omega, fun x h1 h2 => by omega⟩
  · obtain ⟨a1, a2⟩ := h p hp (by omega)
    rw [Nat.min_eq_right hn] at a1 a2
    exact ⟨fun x y x1 x2 x3 => by rw [he x (by omega), he y (by omega)]; exact a1 x y x1 x2 x3, fun x x1 x2 => by obtain ⟨y, y1, y2, y3⟩ := a2.1 x x1 x2; exact ⟨y, y1, y2, by rw [he y (by omega)]; exact y3⟩, fun x x1 x2 => by obtain ⟨y, y1, y2, y3⟩ := a2.2 x x1 x2; exact ⟨y, y1, y2, by rw [he x (by omega)]; exact y3⟩⟩
theorem Blks.whole {lt : Int → Int → Bool} {f F : Nat → Int} {s n : Nat} (h : Blks lt f F s n) (hs : n ≤ s) : SoR lt F 0 n := by
  by_cases h0 : n = 0
  · subst h0; exact fun x y h1 h2 h3 => by omega
  · obtain ⟨a1, _⟩ := h 0 (Nat.dvd_zero _) (by omega)
    rw [show min (0 + s) n = n by omega] at a1
    exact a1

theorem stable_w (cf : Int → Int → Int) (Good : Int → Prop) (B : Nat) (cb : Nat) (a : Option Addr) (n c : Nat) (e1 e2 e3 e4 e5 e6 e7 e8 e9 e10 : Ent) (hw : Swo (ltC cf)) (hn : n ≤ 1000000) (hcmp : ∀ (w1 : World) (x y : Int), Good x → Good y → Sat B w1 [(5001, e1), (5002, e2)] → B ≤ w1.heap.size → Calls Try.prog 104 #[.int .i64 x, .int .i64 y, .pointer (some ⟨cb, 0, none⟩)] w1 fun e w' => e = .returned (.int .i64 (cf x y)) ∧ Below w1.heap.size w1 w') (f : Nat → Int) (w : World) (hB : B ≤ w.heap.size) (hu : ∀ x y, x < y → y < n → f x < f y) (hG : ∀ i, i < n → Good (f i)) (hs : Sat B w [(5000, .row a n c (encI.enc (tab n f)) 3 1), (5001, e1), (5002, e2), (5003, e3), (5004, e4), (5005, e5), (5006, e6), (5007, e7), (5008, e8), (5009, e9), (5010, e10)]) :
    Calls Try.prog 129 #[.slice a n c, .int .i64 n, .func (.func 104) #[] #[.pointer (some ⟨cb, 0, none⟩)]] w fun e w' => ∃ g, e = .returned (.tuple #[]) ∧ Below B w w' ∧ Sat B w' [(5000, .row a n c (encI.enc (tab n g)) 3 1), (5001, e1), (5002, e2), (5003, e3), (5004, e4), (5005, e5), (5006, e6), (5007, e7), (5008, e8), (5009, e9), (5010, e10)] ∧ B ≤ w'.heap.size ∧ Kd (fun _ => False) w w' ∧ SoR (ltC cf) g 0 n ∧ SaS f g 0 n := by

  refine enterQ (N := 63) (C := fun _ => False) (H := [(5000, .row a n c (encI.enc (tab n f)) 3 1), (5001, e1), (5002, e2), (5003, e3), (5004, e4), (5005, e5), (5006, e6), (5007, e7), (5008, e8), (5009, e9), (5010, e10)]) (B := B) (args := [_, _, _]) Try.func129 rfl rfl rfl (hB) (hs) fun Q hQ => ?_
  refine wp_seq' fun K1 hK1 => ?_
  refine wp_reg ?_
  refine ol_r (r_assign rfl) rfl ?_
  refine ol_nil (to_k0 (fun _ _ h => h) (hK1 _ _ _ _ _ ?_))
  clear hK1
  refine wp_seq' fun K2 hK2 => ?_
  refine wp_reg ?_
  refine ol_r (r_move rfl) rfl ?_
  refine ol_r (r_assign rfl) rfl ?_
  refine ol_r (r_assign rfl) rfl ?_
  refine ol_nil (to_k0 (fun _ _ h => h) (hK2 _ _ _ _ _ ?_))
  clear hK2
  refine wp_seq' fun K3 hK3 => ?_
  refine wp_block' ?_
  apply wp_loopM (σ := Nat × (Nat → Int)) (fun s => s.1 ≤ n ∧ Hlf (ltC cf) f f s.2 20 n s.1 ∧ SaS f s.2 0 n) (fun s => [(7, .int .i64 s.1), (8, .int .i64 ((s.1 + 20 : Nat) : Int))]) [(0, _), (1, _), (2, _), (6, _)] (fun s => [(5000, .row a n c (encI.enc (tab n s.2)) 3 1)]) [(5001, _), (5002, _), (5003, _), (5004, _), (5005, _), (5006, _), (5007, _), (5008, _), (5009, _), (5010, _)] (fun s => n - s.1) ((0, f))
  ·try dsimp only
   exact ⟨Nat.zero_le _, Hlf.zero, SaS.refl _ _ _⟩
  ·exact (sub_cons rfl (sub_cons rfl sub_nil))
  ·exact (sub_cons rfl (sub_cons rfl (sub_cons rfl (sub_cons rfl sub_nil))))
  ·exact (subH_row rfl (by rfl) subH_nil)
  ·exact (subH_same rfl (subH_same rfl (subH_same rfl (subH_same rfl (subH_same rfl (subH_same rfl (subH_same rfl (subH_same rfl (subH_same rfl (subH_same rfl subH_nil))))))))))
  ·rintro ⟨A, F⟩ ⟨hA, hH, hS⟩
   dsimp only at hA hH hS ⊢
   have hGF := good_of hG hS
   intro K4 hK4
   refine wp_seq' fun K5 hK5 => ?_
   refine wp_seq' fun K6 hK6 => ?_
   refine wp_reg ?_
   refine ol_r (r_move rfl) rfl ?_
   refine ol_r (r_move rfl) rfl ?_
   refine ol_r (r_leq rfl rfl) rfl ?_
   refine ol_nil (to_k0 (fun _ _ h => h) (hK6 _ _ _ _ _ ?_))
   clear hK6
   refine wp_condD rfl (fun hc13 => ?_) (fun hc13 => ?_)
   ·refine wp_skip' (to_k0 (fun _ _ h => h) (hK5 _ _ _ _ _ ?_))
    clear hK5
    refine wp_block' ?_
    refine wp_seq' fun K7 hK7 => ?_
    refine wp_reg ?_
    refine ol_r (r_move rfl) rfl ?_
    refine ol_r (r_move rfl) rfl ?_
    refine ol_r (r_move rfl) rfl ?_
    refine ol_r (r_move rfl) rfl ?_
    refine ol_call rfl rfl cb145 rfl (fun w1 hb1 hs1 hB1 => ?_)
    refine Calls.mono (insertion_w cf Good B cb a n c e1 e2 e3 e4 e5 e6 e7 e8 e9 e10 F A (A + 20) _ hw hB1 hn (by omega) (by omega) hGF (fun x y x1 x2 x3 => by rw [hH.un x x1, hH.un y (by omega)]; exact hu x y x2 (by omega)) hcmp (hs1.sub (subH_same rfl (subH_same rfl (subH_same rfl (subH_same rfl (subH_same rfl (subH_same rfl (subH_same rfl (subH_same rfl (subH_same rfl (subH_same rfl (subH_same rfl subH_nil))))))))))))) ?_
    rintro e w2 ⟨g, rfl, hb2, hs2, hB2, hk2, hg⟩
    refine After.sat rfl hb1 hb2 hs2 hB2 (hk2.imp fun _ h => h.elim) ?_
    clear hk2 hs2 hb2 hB2 hB1 hs1 hb1 w2 w1
    refine ol_nil (to_k0 (fun _ _ h => h) (hK7 _ _ _ _ _ ?_))
    clear hK7
    refine wp_seq' fun K8 hK8 => ?_
    refine wp_reg ?_
    refine ol_r (r_move rfl) rfl ?_
    refine ol_r (r_assign rfl) rfl ?_
    refine ol_nil (to_k0 (fun _ _ h => h) (hK8 _ _ _ _ _ ?_))
    clear hK8
    refine wp_reg ?_
    refine ol_r (r_move rfl) rfl ?_
    refine ol_r (r_move rfl) rfl ?_
    refine ol_r (r_addT (A + 20 + 20) rfl rfl (by omega) (by omega)) rfl ?_
    refine ol_r (r_assign rfl) rfl ?_
    refine ol_nil (to_k0 (fun _ _ h => h) (hK4 ((A + 20, _)) _ _ ?_ ?_ (sub_cons rfl (sub_cons rfl sub_nil)) (sub_cons rfl (sub_cons rfl (sub_cons rfl (sub_cons rfl sub_nil)))) (by exact (subH_row rfl (by rfl) subH_nil)) (subH_same rfl (subH_same rfl (subH_same rfl (subH_same rfl (subH_same rfl (subH_same rfl (subH_same rfl (subH_same rfl (subH_same rfl (subH_same rfl subH_nil))))))))))))
    ·try dsimp only
     exact ⟨by omega, hH.next (by omega) (fun x hx => hg.out x hx) (hg.cong fun x x1 x2 => hH.un x x1), hS.trans (hg.all (by omega) (by omega))⟩
    ·try dsimp only
     omega
   ·refine wp_exit' (to_k0 (fun _ _ h => h) (hK3 _ _ _ _ _ ?_))
    clear hK3
    refine wp_seq' fun K9 hK9 => ?_
    refine wp_reg ?_
    refine ol_r (r_move rfl) rfl ?_
    refine ol_r (r_move rfl) rfl ?_
    refine ol_r (r_move rfl) rfl ?_
    refine ol_r (r_move rfl) rfl ?_
    refine ol_call rfl rfl cb145 rfl (fun w1 hb1 hs1 hB1 => ?_)
    refine Calls.mono (insertion_w cf Good B cb a n c e1 e2 e3 e4 e5 e6 e7 e8 e9 e10 F A n _ hw hB1 hn (Nat.le_refl _) (by omega) hGF (fun x y x1 x2 x3 => by rw [hH.un x x1, hH.un y (by omega)]; exact hu x y x2 (by omega)) hcmp (hs1.sub (subH_same rfl (subH_same rfl (subH_same rfl (subH_same rfl (subH_same rfl (subH_same rfl (subH_same rfl (subH_same rfl (subH_same rfl (subH_same rfl (subH_same rfl subH_nil))))))))))))) ?_
    rintro e w2 ⟨g, rfl, hb2, hs2, hB2, hk2, hg⟩
    refine After.sat rfl hb1 hb2 hs2 hB2 (hk2.imp fun _ h => h.elim) ?_
    clear hk2 hs2 hb2 hB2 hB1 hs1 hb1 w2 w1
    refine ol_nil (to_k0 (fun _ _ h => h) (hK9 _ _ _ _ _ ?_))
    clear hK9
    refine wp_block' ?_
    apply wp_loopM (σ := Nat × (Nat → Int)) (fun s => 0 < s.1 ∧ s.1 ≤ 4000000 ∧ Blks (ltC cf) f s.2 s.1 n ∧ SaS f s.2 0 n) (fun s => [(6, .int .i64 s.1)]) [(0, _), (1, _), (2, _)] (fun s => [(5000, .row a n c (encI.enc (tab n s.2)) 3 1)]) [(5001, _), (5002, _), (5003, _), (5004, _), (5005, _), (5006, _), (5007, _), (5008, _), (5009, _), (5010, _)] (fun s => n - s.1) ((20, _))
    ·try dsimp only
     have hL := hH.last (by omega) hA (by omega) (fun x hx => hg.out x hx) (hg.cong fun x x1 x2 => hH.un x x1)
     exact ⟨by omega, by omega, hL.1, hL.2⟩
    ·exact (sub_cons rfl sub_nil)
    ·exact (sub_cons rfl (sub_cons rfl (sub_cons rfl sub_nil)))
    ·exact (subH_row rfl (by rfl) subH_nil)
    ·exact (subH_same rfl (subH_same rfl (subH_same rfl (subH_same rfl (subH_same rfl (subH_same rfl (subH_same rfl (subH_same rfl (subH_same rfl (subH_same rfl subH_nil))))))))))
    ·rintro ⟨u, F⟩ ⟨hu0, hu1, hK, hS⟩
     dsimp only at hu0 hu1 hK hS ⊢
     intro K10 hK10
     refine wp_seq' fun K11 hK11 => ?_
     refine wp_seq' fun K12 hK12 => ?_
     refine wp_reg ?_
     refine ol_r (r_move rfl) rfl ?_
     refine ol_r (r_move rfl) rfl ?_
     refine ol_r (r_lss rfl rfl) rfl ?_
     refine ol_nil (to_k0 (fun _ _ h => h) (hK12 _ _ _ _ _ ?_))
     clear hK12
     refine wp_condD rfl (fun hc30 => ?_) (fun hc30 => ?_)
     ·refine wp_skip' (to_k0 (fun _ _ h => h) (hK11 _ _ _ _ _ ?_))
      clear hK11
      refine wp_block' ?_
      refine wp_seq' fun K13 hK13 => ?_
      refine wp_reg ?_
      refine ol_r (r_move rfl) rfl ?_
      refine ol_r (r_mulT (2 * u) rfl rfl (by omega) (by omega)) rfl ?_
      refine ol_r (r_assign rfl) rfl ?_
      refine ol_r (r_assign rfl) rfl ?_
      refine ol_nil (to_k0 (fun _ _ h => h) (hK13 _ _ _ _ _ ?_))
      clear hK13
      refine wp_seq' fun K14 hK14 => ?_
      refine wp_block' ?_
      apply wp_loopM (σ := Nat × (Nat → Int)) (fun s => s.1 ≤ n ∧ Hlf (ltC cf) f F s.2 (2 * u) n s.1 ∧ SaS f s.2 0 n) (fun s => [(7, .int .i64 s.1), (8, .int .i64 ((s.1 + 2 * u : Nat) : Int))]) [(0, _), (1, _), (2, _), (6, _)] (fun s => [(5000, .row a n c (encI.enc (tab n s.2)) 3 1)]) [(5001, _), (5002, _), (5003, _), (5004, _), (5005, _), (5006, _), (5007, _), (5008, _), (5009, _), (5010, _)] (fun s => n - s.1) ((0, F))
      ·try dsimp only
       exact ⟨Nat.zero_le _, Hlf.zero, hS⟩
      ·exact (sub_cons (by first | rfl | (rw [Nat.zero_add]; rfl)) (sub_cons (by first | rfl | (rw [Nat.zero_add]; rfl)) sub_nil))
      ·exact (sub_cons rfl (sub_cons rfl (sub_cons rfl (sub_cons rfl sub_nil))))
      ·exact (subH_row rfl (by rfl) subH_nil)
      ·exact (subH_same rfl (subH_same rfl (subH_same rfl (subH_same rfl (subH_same rfl (subH_same rfl (subH_same rfl (subH_same rfl (subH_same rfl (subH_same rfl subH_nil))))))))))
      ·rintro ⟨A, G⟩ ⟨hA, hH, hSG⟩
       dsimp only at hA hH hSG ⊢
       have hGG := good_of hG hSG
       have hdv : u ∣ A := Nat.dvd_trans ⟨2, by omega⟩ hH.dv
       intro K15 hK15
       refine wp_seq' fun K16 hK16 => ?_
       refine wp_seq' fun K17 hK17 => ?_
       refine wp_reg ?_
       refine ol_r (r_move rfl) rfl ?_
       refine ol_r (r_move rfl) rfl ?_
       refine ol_r (r_leq rfl rfl) rfl ?_
       refine ol_nil (to_k0 (fun _ _ h => h) (hK17 _ _ _ _ _ ?_))
       clear hK17
       refine wp_condD rfl (fun hc35 => ?_) (fun hc35 => ?_)
       ·refine wp_skip' (to_k0 (fun _ _ h => h) (hK16 _ _ _ _ _ ?_))
        clear hK16
        refine wp_block' ?_
        refine wp_seq' fun K18 hK18 => ?_
        refine wp_reg ?_
        refine ol_r (r_move rfl) rfl ?_
        refine ol_r (r_move rfl) rfl ?_
        refine ol_r (r_move rfl) rfl ?_
        refine ol_r (r_move rfl) rfl ?_
        have hMr := Blks.mrg (q := A + 2 * u) hu hu0 hK hdv (by omega) (by omega) (.inl (by omega)) hH.un
        refine ol_r (r_addT (A + u) rfl rfl (by omega) (by omega)) rfl ?_
        refine ol_r (r_move rfl) rfl ?_
        refine ol_r (r_move rfl) rfl ?_
        refine ol_call rfl rfl cb146 rfl (fun w1 hb1 hs1 hB1 => ?_)
        refine Calls.mono (symMerge_w cf Good B cb a n c e1 e2 e3 e4 e5 e6 e7 e8 e9 e10 hw hn hcmp (u + u) A (A + u) (A + 2 * u) G _ (by omega) hB1 (by omega) (by omega) (by omega) hGG hMr.1 (hs1.sub (subH_same rfl (subH_same rfl (subH_same rfl (subH_same rfl (subH_same rfl (subH_same rfl (subH_same rfl (subH_same rfl (subH_same rfl (subH_same rfl (subH_same rfl subH_nil))))))))))))) ?_
        rintro e w2 ⟨g, rfl, hb2, hs2, hB2, hk2, hg⟩
        refine After.sat rfl hb1 hb2 hs2 hB2 (hk2.imp fun _ h => h.elim) ?_
        clear hk2 hs2 hb2 hB2 hB1 hs1 hb1 w2 w1
        refine ol_nil (to_k0 (fun _ _ h => h) (hK18 _ _ _ _ _ ?_))
        clear hK18
        refine wp_seq' fun K19 hK19 => ?_
        refine wp_reg ?_
        refine ol_r (r_move rfl) rfl ?_
        refine ol_r (r_assign rfl) rfl ?_
        refine ol_nil (to_k0 (fun _ _ h => h) (hK19 _ _ _ _ _ ?_))
        clear hK19
        refine wp_reg ?_
        refine ol_r (r_move rfl) rfl ?_
        refine ol_r (r_move rfl) rfl ?_
        refine ol_r (r_mulT (2 * u) rfl rfl (by omega) (by omega)) rfl ?_
        refine ol_r (r_addT (A + 2 * u + 2 * u) rfl rfl (by omega) (by omega)) rfl ?_
        refine ol_r (r_assign rfl) rfl ?_
        refine ol_nil (to_k0 (fun _ _ h => h) (hK15 ((A + 2 * u, _)) _ _ ?_ ?_ (sub_cons rfl (sub_cons rfl sub_nil)) (sub_cons rfl (sub_cons rfl (sub_cons rfl (sub_cons rfl sub_nil)))) (by exact (subH_row rfl (by rfl) subH_nil)) (subH_same rfl (subH_same rfl (subH_same rfl (subH_same rfl (subH_same rfl (subH_same rfl (subH_same rfl (subH_same rfl (subH_same rfl (subH_same rfl subH_nil))))))))))))
        ·try dsimp only
         exact ⟨by omega, hH.next (by omega) (fun x hx => hg.out x hx) ⟨hg.so, hMr.2.trans hg.sa⟩, hSG.trans (hg.all (by omega) (by omega))⟩
        ·try dsimp only
         omega
       ·refine wp_exit' (to_k0 (fun _ _ h => h) (hK14 _ _ _ _ _ ?_))
        clear hK14
        apply wp_seq_cutM (σ := Nat → Int) (fun s => Blks (ltC cf) f s (2 * u) n ∧ SaS f s 0 n) (fun s => []) [(0, _), (1, _), (2, _), (6, _)] (fun s => [(5000, .row a n c (encI.enc (tab n s)) 3 1)]) [(5001, _), (5002, _), (5003, _), (5004, _), (5005, _), (5006, _), (5007, _), (5008, _), (5009, _), (5010, _)]
        ·exact (sub_cons rfl (sub_cons rfl (sub_cons rfl (sub_cons rfl sub_nil))))
        ·exact (subH_same rfl (subH_same rfl (subH_same rfl (subH_same rfl (subH_same rfl (subH_same rfl (subH_same rfl (subH_same rfl (subH_same rfl (subH_same rfl subH_nil))))))))))
        ·intro K20 hK20
         refine wp_seq' fun K21 hK21 => ?_
         refine wp_reg ?_
         refine ol_r (r_move rfl) rfl ?_
         refine ol_r (r_move rfl) rfl ?_
         refine ol_r (r_addT (A + u) rfl rfl (by omega) (by omega)) rfl ?_
         refine ol_r (r_assign rfl) rfl ?_
         refine ol_nil (to_k0 (fun _ _ h => h) (hK21 _ _ _ _ _ ?_))
         clear hK21
         refine wp_seq' fun K22 hK22 => ?_
         refine wp_reg ?_
         refine ol_r (r_move rfl) rfl ?_
         refine ol_r (r_move rfl) rfl ?_
         refine ol_r (r_lss rfl rfl) rfl ?_
         refine ol_nil (to_k0 (fun _ _ h => h) (hK22 _ _ _ _ _ ?_))
         clear hK22
         refine wp_condD rfl (fun hc54 => ?_) (fun hc54 => ?_)
         ·refine wp_reg ?_
          have hMr := Blks.mrg (q := n) hu hu0 hK hdv (by omega) (by omega) (.inr ⟨rfl, by omega⟩) hH.un
          refine ol_r (r_move rfl) rfl ?_
          refine ol_r (r_move rfl) rfl ?_
          refine ol_r (r_move rfl) rfl ?_
          refine ol_r (r_move rfl) rfl ?_
          refine ol_r (r_move rfl) rfl ?_
          refine ol_call rfl rfl cb146 rfl (fun w1 hb1 hs1 hB1 => ?_)
          refine Calls.mono (symMerge_w cf Good B cb a n c e1 e2 e3 e4 e5 e6 e7 e8 e9 e10 hw hn hcmp (u + u) A (A + u) n G _ (by omega) hB1 (by omega) (by omega) (by omega) hGG hMr.1 (hs1.sub (subH_same rfl (subH_same rfl (subH_same rfl (subH_same rfl (subH_same rfl (subH_same rfl (subH_same rfl (subH_same rfl (subH_same rfl (subH_same rfl (subH_same rfl subH_nil))))))))))))) ?_
          rintro e w2 ⟨g, rfl, hb2, hs2, hB2, hk2, hg⟩
          refine After.sat rfl hb1 hb2 hs2 hB2 (hk2.imp fun _ h => h.elim) ?_
          clear hk2 hs2 hb2 hB2 hB1 hs1 hb1 w2 w1
          refine ol_nil (to_k0 (fun _ _ h => h) (hK20 (_) _ _ ?_ sub_nil (sub_cons rfl (sub_cons rfl (sub_cons rfl (sub_cons rfl sub_nil)))) (subH_row rfl (by rfl) subH_nil) (subH_same rfl (subH_same rfl (subH_same rfl (subH_same rfl (subH_same rfl (subH_same rfl (subH_same rfl (subH_same rfl (subH_same rfl (subH_same rfl subH_nil))))))))))))
          try dsimp only
          first
          | exact hH.last (by omega) hA (by omega) (fun x hx => hg.out x hx) ⟨hg.so, hMr.2.trans hg.sa⟩
         ·refine wp_skip' (to_k0 (fun _ _ h => h) (hK20 (_) _ _ ?_ sub_nil (sub_cons rfl (sub_cons rfl (sub_cons rfl (sub_cons rfl sub_nil)))) (subH_row rfl (by rfl) subH_nil) (subH_same rfl (subH_same rfl (subH_same rfl (subH_same rfl (subH_same rfl (subH_same rfl (subH_same rfl (subH_same rfl (subH_same rfl (subH_same rfl subH_nil))))))))))))
          try dsimp only
          first
          | exact hH.last (by omega) hA (by omega) (fun _ _ => rfl) (Blks.rest hK hdv hA (by omega) hH.un)
        ·rintro G2 ⟨hL1, hL2⟩
         refine wp_reg ?_
         refine ol_r (r_move rfl) rfl ?_
         refine ol_r (r_mulT (2 * u) rfl rfl (by omega) (by omega)) rfl ?_
         refine ol_r (r_assign rfl) rfl ?_
         refine ol_nil (to_k0 (fun _ _ h => h) (hK10 ((2 * u, _)) _ _ ?_ ?_ (sub_cons rfl sub_nil) (sub_cons rfl (sub_cons rfl (sub_cons rfl sub_nil))) (by exact (subH_row rfl (by rfl) subH_nil)) (subH_same rfl (subH_same rfl (subH_same rfl (subH_same rfl (subH_same rfl (subH_same rfl (subH_same rfl (subH_same rfl (subH_same rfl (subH_same rfl subH_nil))))))))))))
         ·try dsimp only
          exact ⟨by omega, by omega, hL1, hL2⟩
         ·try dsimp only
          omega
     ·refine wp_exit' (hQ.fall rvs0 (fun _ _ h => h) fun w hb hs hB hkd => ?_)
      exact ⟨_, rfl, hb, hs.sub (subH_same rfl (subH_same rfl (subH_same rfl (subH_same rfl (subH_same rfl (subH_same rfl (subH_same rfl (subH_same rfl (subH_same rfl (subH_same rfl (subH_same rfl subH_nil))))))))))), hB, hkd, hK.whole (by omega), hS⟩

theorem sortStable_w (cf : Int → Int → Int) (Good : Int → Prop) (B : Nat) (cb : Nat) (a : Option Addr) (n c : Nat) (e1 e2 e3 e4 e5 e6 e7 e8 e9 e10 : Ent) (hw : Swo (ltC cf)) (hn : n ≤ 1000000) (hcmp : ∀ (w1 : World) (x y : Int), Good x → Good y → Sat B w1 [(5001, e1), (5002, e2)] → B ≤ w1.heap.size → Calls Try.prog 104 #[.int .i64 x, .int .i64 y, .pointer (some ⟨cb, 0, none⟩)] w1 fun e w' => e = .returned (.int .i64 (cf x y)) ∧ Below w1.heap.size w1 w') (f : Nat → Int) (w : World) (hB : B ≤ w.heap.size) (hu : ∀ x y, x < y → y < n → f x < f y) (hG : ∀ i, i < n → Good (f i)) (hs : Sat B w [(5000, .row a n c (encI.enc (tab n f)) 3 1), (5001, e1), (5002, e2), (5003, e3), (5004, e4), (5005, e5), (5006, e6), (5007, e7), (5008, e8), (5009, e9), (5010, e10)]) :
    Calls Try.prog 103 #[.slice a n c, .func (.func 104) #[] #[.pointer (some ⟨cb, 0, none⟩)]] w fun e w' => ∃ g, e = .returned (.tuple #[]) ∧ Below B w w' ∧ Sat B w' [(5000, .row a n c (encI.enc (tab n g)) 3 1), (5001, e1), (5002, e2), (5003, e3), (5004, e4), (5005, e5), (5006, e6), (5007, e7), (5008, e8), (5009, e9), (5010, e10)] ∧ B ≤ w'.heap.size ∧ Kd (fun _ => False) w w' ∧ SoR (ltC cf) g 0 n ∧ SaS f g 0 n := by

  refine enterQ (N := 9) (C := fun _ => False) (H := [(5000, .row a n c (encI.enc (tab n f)) 3 1), (5001, e1), (5002, e2), (5003, e3), (5004, e4), (5005, e5), (5006, e6), (5007, e7), (5008, e8), (5009, e9), (5010, e10)]) (B := B) (args := [_, _]) Try.func103 rfl rfl rfl (hB) (hs) fun Q hQ => ?_
  refine wp_reg ?_
  refine ol_r (r_move rfl) rfl ?_
  refine ol_r (r_move rfl) rfl ?_
  refine ol_r (r_len rfl sl150) rfl ?_
  refine ol_r (r_move rfl) rfl ?_
  refine ol_call rfl rfl cb129 rfl (fun w1 hb1 hs1 hB1 => ?_)
  refine Calls.mono (stable_w cf Good B cb a n c e1 e2 e3 e4 e5 e6 e7 e8 e9 e10 hw hn hcmp f _ hB1 hu hG (hs1.sub (subH_same rfl (subH_same rfl (subH_same rfl (subH_same rfl (subH_same rfl (subH_same rfl (subH_same rfl (subH_same rfl (subH_same rfl (subH_same rfl (subH_same rfl subH_nil))))))))))))) ?_
  rintro e w2 ⟨g, rfl, hb2, hs2, hB2, hk2, hg⟩
  refine After.sat rfl hb1 hb2 hs2 hB2 (hk2.imp fun _ h => h.elim) ?_
  clear hk2 hs2 hb2 hB2 hB1 hs1 hb1 w2 w1
  refine ol_nil (hQ.fall rvs0 (fun _ _ h => h) fun w hb hs hB hkd => ?_)
  exact ⟨_, rfl, hb, hs.sub (subH_same rfl (subH_same rfl (subH_same rfl (subH_same rfl (subH_same rfl (subH_same rfl (subH_same rfl (subH_same rfl (subH_same rfl (subH_same rfl (subH_same rfl subH_nil))))))))))), hB, hkd, hg⟩

end Go.Proofs.Ytjflbnbofedlkaa
