/-
  Races: how long a way takes; plain part.
-/
import Derived.Test.YtamlldedmhkobaaInts
import Derived.Test.YtamlldedmhkobaaLists
namespace Go.Proofs.Ytamlldedmhkobaa
open Go
set_option linter.unusedVariables false
set_option linter.unusedSimpArgs false
structure RaceR where
  way : Int
  sec : Int
/-- What is between two points. -/
def segI (w s W D x : Int) : Int := s + (x - w) * D / W
theorem segI_mono {w s W D x y : Int} (hD : 0 ≤ D) (hW : 1 ≤ W) (h : x ≤ y) : segI w s W D x ≤ segI w s W D y := by
  unfold segI
  have h1 : (x - w) * D ≤ (y - w) * D := Int.mul_le_mul_of_nonneg_right (by omega) hD
  have h2 := Int.ediv_le_ediv (show 0 < W by omega) h1
  omega
theorem segI_le {w s W D x : Int} (hD : 0 ≤ D) (hW : 1 ≤ W) (h : x ≤ w + W) : segI w s W D x ≤ s + D := by
  have h1 := segI_mono (w := w) (s := s) hD hW h
  have h2 : segI w s W D (w + W) = s + D := by
    unfold segI
    rw [show w + W - w = W by omega, Int.mul_ediv_cancel_left _ (show W ≠ 0 by omega)]
  omega
theorem segI_ge {w s W D x : Int} (hD : 0 ≤ D) (hW : 1 ≤ W) (h : w ≤ x) : s ≤ segI w s W D x := by
  have h1 := segI_mono (w := w) (s := s) hD hW h
  have h2 : segI w s W D w = s := by
    unfold segI
    rw [Int.sub_self, Int.zero_mul, Int.zero_ediv]
    omega
  omega
def dblS (s sl : Int) : Int := 2 * s + 2 * s * sl / 1000
theorem dblS_bd {s sl : Int} (hs : 1 ≤ s) (hl : 0 ≤ sl ∧ sl ≤ 200) : 2 * s ≤ dblS s sl ∧ 5 * dblS s sl ≤ 12 * s := by
  unfold dblS
  have h1 : 0 ≤ 2 * s * sl := Int.mul_nonneg (by omega) (by omega)
  have h2 : 2 * s * sl ≤ 2 * s * 200 := Int.mul_le_mul_of_nonneg_left (by omega) (by omega)
  omega
/-- Beyond the last race. -/
def dblF (sl x : Int) : Nat → Int → Int → Int
  | 0, w, s => segI w s w (dblS s sl - s) x
  | f + 1, w, s => if 2 * w ≤ x then dblF sl x f (2 * w) (dblS s sl) else segI w s w (dblS s sl - s) x
theorem dblF_ge {sl x : Int} (hl : 0 ≤ sl ∧ sl ≤ 200) : ∀ (f : Nat) (w s : Int), 1 ≤ w → 1 ≤ s → w ≤ x → s ≤ dblF sl x f w s
  | 0, w, s, hw, hs, h => by
    have := dblS_bd hs hl
    exact segI_ge (by omega) hw h
  | f + 1, w, s, hw, hs, h => by
    have h1 := dblS_bd hs hl
    rw [dblF]
    split
    · rename_i h2
      have := dblF_ge hl f (2 * w) (dblS s sl) (by omega) (by omega) h2
      omega
    · exact segI_ge (by omega) hw h
theorem dblF_mono {sl x y : Int} (hl : 0 ≤ sl ∧ sl ≤ 200) (h : x ≤ y) : ∀ (f : Nat) (w s : Int), 1 ≤ w → 1 ≤ s → dblF sl x f w s ≤ dblF sl y f w s
  | 0, w, s, hw, hs => by
    have := dblS_bd hs hl
    exact segI_mono (by omega) hw h
  | f + 1, w, s, hw, hs => by
    have h1 := dblS_bd hs hl
    rw [dblF, dblF]
    by_cases h2 : 2 * w ≤ x
    · rw [if_pos h2, if_pos (by omega)]
      exact dblF_mono hl h f _ _ (by omega) (by omega)
    · rw [if_neg h2]
      by_cases h3 : 2 * w ≤ y
      · rw [if_pos h3]
        have a1 := dblF_ge hl f (2 * w) (dblS s sl) (by omega) (by omega) h3
        have a2 := segI_le (w := w) (s := s) (W := w) (D := dblS s sl - s) (x := x) (by omega) hw (by omega)
        omega
      · rw [if_neg h3]
        exact segI_mono (by omega) hw h
/-- More rounds than are needed change nothing. -/
theorem dblF_more {sl x : Int} : ∀ (f : Nat) (w s : Int) (g : Nat), 1 ≤ w → x < 2 ^ (f + 1) * w → f ≤ g → dblF sl x g w s = dblF sl x f w s
  | 0, w, s, 0, _, _, _ => rfl
  | 0, w, s, g + 1, hw, hx, _ => by
    rw [show dblF sl x (g + 1) w s = if 2 * w ≤ x then dblF sl x g (2 * w) (dblS s sl) else segI w s w (dblS s sl - s) x from rfl, if_neg (by simp at hx; omega)]; rfl
  | f + 1, w, s, 0, _, _, h => by omega
  | f + 1, w, s, g + 1, hw, hx, h => by
    rw [dblF, dblF]
    split
    · exact dblF_more f (2 * w) _ g (by omega) (by rw [Int.pow_succ] at hx; rw [← Int.mul_assoc]; exact hx) (by omega)
    · rfl
/-- Ahead of a race. -/
def gapR (x : Int) : Option RaceR → RaceR → Int
  | none, b => max 1 (x * b.sec / b.way)
  | some a, b => segI a.way a.sec (b.way - a.way) (b.sec - a.sec) x
/-- How long a way takes. -/
def predL (sl x : Int) : Option RaceR → List RaceR → Int
  | p, [] => match p with
    | none => 0
    | some a => dblF sl x 14 a.way a.sec
  | p, b :: r => if x = b.way then b.sec else if b.way < x then predL sl x (some b) r else gapR x p b
/-- Races in order. -/
def RaceOk : Option RaceR → List RaceR → Prop
  | _, [] => True
  | p, b :: r => (1 ≤ b.way ∧ 1 ≤ b.sec) ∧ (∀ a, p = some a → a.way < b.way ∧ a.sec < b.sec) ∧ RaceOk (some b) r
theorem predL_cons (sl x : Int) (p : Option RaceR) (b : RaceR) (r : List RaceR) : predL sl x p (b :: r) = if x = b.way then b.sec else if b.way < x then predL sl x (some b) r else gapR x p b := by cases p <;> rfl
theorem predL_ge {sl x : Int} (hl : 0 ≤ sl ∧ sl ≤ 200) : ∀ (l : List RaceR) (a : RaceR), 1 ≤ a.way → 1 ≤ a.sec → RaceOk (some a) l → a.way ≤ x → a.sec ≤ predL sl x (some a) l
  | [], a, hw, hs, _, h => dblF_ge hl 14 a.way a.sec hw hs h
  | b :: r, a, hw, hs, hR, h => by
    obtain ⟨hb, hab, hr⟩ := hR
    have h1 := hab a rfl
    rw [predL_cons]
    split
    · omega
    · split
      · have := predL_ge (x := x) hl r b hb.1 hb.2 hr (by omega)
        omega
      · exact segI_ge (by omega) (by omega) h
theorem predL_mono {sl x y : Int} (hl : 0 ≤ sl ∧ sl ≤ 200) (h : x ≤ y) : ∀ (l : List RaceR) (p : Option RaceR), (∀ a, p = some a → 1 ≤ a.way ∧ 1 ≤ a.sec) → RaceOk p l → predL sl x p l ≤ predL sl y p l
  | [], none, _, _ => Int.le_refl _
  | [], some a, hp, _ => dblF_mono hl h 14 _ _ (hp a rfl).1 (hp a rfl).2
  | b :: r, p, hp, hR => by
    obtain ⟨hb, hab, hr⟩ := hR
    have hseg : x ≤ b.way → gapR x p b ≤ b.sec := by
      intro hx
      cases p with
      | none =>
        simp only [gapR]
        have h1 : x * b.sec ≤ b.way * b.sec := Int.mul_le_mul_of_nonneg_right hx (by omega)
        have h2 := Int.ediv_le_ediv (show 0 < b.way by omega) h1
        rw [Int.mul_ediv_cancel_left _ (show b.way ≠ 0 by omega)] at h2
        omega
      | some a =>
        simp only [gapR]
        have h1 := hab a rfl
        have := segI_le (w := a.way) (s := a.sec) (W := b.way - a.way) (D := b.sec - a.sec) (x := x) (by omega) (by omega) (by omega)
        omega
    have hge : b.way ≤ y → b.sec ≤ predL sl y (some b) r := fun hy => predL_ge hl r b hb.1 hb.2 hr hy
    rw [predL_cons, predL_cons]
    by_cases x1 : x = b.way
    · rw [if_pos x1]
      by_cases y1 : y = b.way
      · rw [if_pos y1]; exact Int.le_refl _
      · rw [if_neg y1, if_pos (by omega)]; exact hge (by omega)
    · rw [if_neg x1]
      by_cases x2 : b.way < x
      · rw [if_pos x2, if_neg (by omega), if_pos (by omega)]
        exact predL_mono hl h r (some b) (fun a ha => by cases ha; exact hb) hr
      · rw [if_neg x2]
        have s1 := hseg (by omega)
        by_cases y1 : y = b.way
        · rw [if_pos y1]; exact s1
        · rw [if_neg y1]
          by_cases y2 : b.way < y
          · rw [if_pos y2]
            exact Int.le_trans s1 (hge (by omega))
          · rw [if_neg y2]
            cases p with
            | none =>
              simp only [gapR]
              have h1 : x * b.sec ≤ y * b.sec := Int.mul_le_mul_of_nonneg_right h (by omega)
              have h2 := Int.ediv_le_ediv (show 0 < b.way by omega) h1
              omega
            | some a =>
              have h1 := hab a rfl
              exact segI_mono (by omega) (by omega) h
/-! #### races that are right -/
def raceG (x : RaceR) : Bool := inB x.way 1000 10000000 && inB x.sec 1 1000000
def raceBad (y x : RaceR) : Bool := decide (x.way ≤ y.way) || decide (x.sec ≤ y.sec)
def racesR (xs : List RaceR) : Int := if xs.length = 0 then 13 else if 50 < xs.length then 3 else chkG raceG raceBad none xs
theorem raceG_iff {x : RaceR} : raceG x = true ↔ (1000 ≤ x.way ∧ x.way ≤ 10000000) ∧ (1 ≤ x.sec ∧ x.sec ≤ 1000000) := by unfold raceG; rw [Bool.and_eq_true, inB_iff, inB_iff]
theorem raceOk_of : ∀ (xs : List RaceR) (p : Option RaceR), chkG raceG raceBad p xs = 0 → RaceOk p xs
  | [], _, _ => trivial
  | x :: r, p, h => by
    rw [chkG_cons] at h
    by_cases h1 : raceG x = false
    · rw [if_pos h1] at h; omega
    · rw [if_neg h1] at h
      by_cases h2 : ordG raceBad p x = true
      · rw [if_pos h2] at h; omega
      · rw [if_neg h2] at h
        have h3 := raceG_iff.1 (by simpa using h1)
        refine ⟨by omega, fun a ha => ?_, raceOk_of r (some x) h⟩
        subst ha
        have h4 : raceBad a x = false := by simpa [ordG] using h2
        simp [raceBad] at h4
        omega
structure RacesOk (xs : List RaceR) : Prop where
  pos : 0 < xs.length
  len : xs.length ≤ 50
  ord : RaceOk none xs
  bd : ∀ x ∈ xs, (1000 ≤ x.way ∧ x.way ≤ 10000000) ∧ (1 ≤ x.sec ∧ x.sec ≤ 1000000)
  rise : ∀ (i : Nat) (y x : RaceR), xs[i]? = some y → xs[i + 1]? = some x → y.way < x.way ∧ y.sec < x.sec
theorem racesOk {xs : List RaceR} (h : racesR xs = 0) : RacesOk xs := by
  unfold racesR at h
  by_cases h1 : xs.length = 0
  · rw [if_pos h1] at h; omega
  · rw [if_neg h1] at h
    by_cases h2 : 50 < xs.length
    · rw [if_pos h2] at h; omega
    · rw [if_neg h2] at h
      obtain ⟨g1, g2, g3⟩ := chkG_good xs none h
      refine ⟨by omega, by omega, raceOk_of xs none h, fun x hx => raceG_iff.1 (g1 x hx), fun i y x hy hx => ?_⟩
      have h4 := g3 i y x hy hx
      simp [raceBad] at h4
      omega
/-- One race more is passed. -/
theorem predL_next {sl x : Int} {xs : List RaceR} {k : Nat} {b : RaceR} {R : Int} (hP : R = predL sl x (ahead xs k) (xs.drop k)) (hb : xs[k]? = some b) (h : b.way < x) : R = predL sl x (ahead xs (k + 1)) (xs.drop (k + 1)) := by
  rw [hP, drop_cons_get hb, predL_cons, if_neg (by omega), if_pos h, ahead_succ hb]
theorem predL_skip {sl x : Int} {xs : List RaceR} : ∀ (k : Nat), k ≤ xs.length → (∀ j b, j < k → xs[j]? = some b → b.way < x) → predL sl x none xs = predL sl x (ahead xs k) (xs.drop k)
  | 0, _, _ => rfl
  | k + 1, hk, h => by
    have hb : xs[k]? = some (xs[k]'(by omega)) := List.getElem?_eq_getElem _
    exact predL_next (predL_skip k (by omega) (fun j b hj => h j b (by omega))) hb (h k _ (by omega) hb)
theorem predL_hit {sl x : Int} {xs : List RaceR} {k : Nat} {b : RaceR} {R : Int} (hP : R = predL sl x (ahead xs k) (xs.drop k)) (hb : xs[k]? = some b) (h : x = b.way) : R = b.sec := by
  rw [hP, drop_cons_get hb, predL_cons, if_pos h]
theorem predL_first {sl x : Int} {xs : List RaceR} {b : RaceR} {R : Int} (hP : R = predL sl x (ahead xs 0) (xs.drop 0)) (hb : xs[0]? = some b) (h : x < b.way) : R = max 1 (x * b.sec / b.way) := by
  rw [hP, drop_cons_get hb, predL_cons, if_neg (by omega), if_neg (by omega), ahead_zero]; rfl
theorem predL_seg {sl x : Int} {xs : List RaceR} {k : Nat} {a b : RaceR} {R : Int} (hP : R = predL sl x (ahead xs k) (xs.drop k)) (hk : 0 < k) (ha : xs[k - 1]? = some a) (hb : xs[k]? = some b) (h : x < b.way) : R = segI a.way a.sec (b.way - a.way) (b.sec - a.sec) x := by
  rw [hP, drop_cons_get hb, predL_cons, if_neg (by omega), if_neg (by omega), ahead_pos hk ha]; rfl
theorem predL_last {sl x : Int} {xs : List RaceR} {k : Nat} {a : RaceR} {R : Int} (hP : R = predL sl x (ahead xs k) (xs.drop k)) (hk : 0 < k) (hn : xs.length ≤ k) (ha : xs[k - 1]? = some a) : R = dblF sl x 14 a.way a.sec := by
  rw [hP, List.drop_eq_nil_of_le hn, ahead_pos hk ha]; rfl
/-- How large the seconds get. -/
def bT : Nat → Int
  | 0 => 1000000
  | j + 1 => bT j * 12 / 5 + 1
theorem bT_pos : ∀ j, 0 ≤ bT j
  | 0 => by decide
  | j + 1 => by have := bT_pos j; rw [bT]; omega
theorem bT_mono {i : Nat} : ∀ (d : Nat), bT i ≤ bT (i + d)
  | 0 => Int.le_refl _
  | d + 1 => by
    have h1 := bT_mono (i := i) d
    have h2 := bT_pos (i + d)
    rw [← Nat.add_assoc, bT]
    omega
theorem bT_le {j : Nat} (h : j ≤ 15) : bT j ≤ 600000000000 := by
  have h1 := bT_mono (i := j) (15 - j)
  rw [show j + (15 - j) = 15 by omega] at h1
  exact Int.le_trans h1 (by decide)
/-- The state of the loop beyond the last race. -/
structure DblOk (sl x : Int) (R w s : Int) (f : Nat) : Prop where
  val : R = dblF sl x f w s
  fuel : f ≤ 14
  wge : 1000 ≤ w
  xlt : x < 2 ^ (f + 1) * w
  sbd : 1 ≤ s ∧ s ≤ bT (14 - f)
  wx : w ≤ x
theorem DblOk.start {sl x R : Int} {a : RaceR} (hx : x ≤ 10000000) (hax : a.way ≤ x) (h : (1000 ≤ a.way ∧ a.way ≤ 10000000) ∧ (1 ≤ a.sec ∧ a.sec ≤ 1000000)) (hR : R = dblF sl x 14 a.way a.sec) : DblOk sl x R a.way a.sec 14 :=
  ⟨hR, Nat.le_refl _, by omega, by show x < 32768 * a.way; omega, by show 1 ≤ a.sec ∧ a.sec ≤ 1000000; omega, hax⟩
theorem DblOk.next {sl x R w s : Int} {f : Nat} (hl : 0 ≤ sl ∧ sl ≤ 200) (h : DblOk sl x R w s f) (hx : 2 * w ≤ x) : ∃ g, f = g + 1 ∧ DblOk sl x R (2 * w) (dblS s sl) g := by
  obtain ⟨h1, h2, h3, h4, h5, h9⟩ := h
  match f, h1, h2, h4, h5 with
  | 0, h1, h2, h4, h5 => simp at h4; omega
  | g + 1, h1, h2, h4, h5 =>
    have h6 := dblS_bd h5.1 hl
    refine ⟨g, rfl, ?_, by omega, by omega, ?_, ⟨by omega, ?_⟩, hx⟩
    · rw [h1, dblF, if_pos hx]
    · rw [Int.pow_succ] at h4; rw [← Int.mul_assoc]; exact h4
    · rw [show 14 - g = (14 - (g + 1)) + 1 by omega, bT]
      omega
theorem DblOk.stop {sl x R w s : Int} {f : Nat} (h : DblOk sl x R w s f) (hx : ¬2 * w ≤ x) : R = segI w s w (dblS s sl - s) x := by
  obtain ⟨h1, h2, h3, h4, h5, _⟩ := h
  cases f with
  | zero => exact h1
  | succ g => rw [h1, dblF, if_neg hx]
def predR (l : List RaceR) (x sl : Int) : Int × Int := if racesR l ≠ 0 then (0, racesR l) else if ¬((1 ≤ x ∧ x ≤ 10000000) ∧ (0 ≤ sl ∧ sl ≤ 200)) then (0, 9) else (predL sl x none l, 0)
theorem predR_e {l : List RaceR} {x sl : Int} (h : racesR l ≠ 0) : predR l x sl = (0, racesR l) := if_pos h
theorem predR_9 {l : List RaceR} {x sl : Int} (h : racesR l = 0) (h1 : ¬((1 ≤ x ∧ x ≤ 10000000) ∧ (0 ≤ sl ∧ sl ≤ 200))) : predR l x sl = (0, 9) := by unfold predR; rw [if_neg (by simp [h]), if_pos h1]
theorem predR_0 {l : List RaceR} {x sl : Int} (h : racesR l = 0) (h1 : (1 ≤ x ∧ x ≤ 10000000) ∧ (0 ≤ sl ∧ sl ≤ 200)) : predR l x sl = (predL sl x none l, 0) := by unfold predR; rw [if_neg (by simp [h]), if_neg (fun h2 => h2 h1)]
/-- The greatest way for some seconds. -/
def IsReach (l : List RaceR) (secs sl : Int) (m : Int) : Prop := 0 ≤ m ∧ m ≤ 10000000 ∧ (1 ≤ m → predL sl m none l ≤ secs) ∧ (m < 10000000 → secs < predL sl (m + 1) none l)
theorem IsReach.unique {l : List RaceR} {secs sl m k : Int} (hl : 0 ≤ sl ∧ sl ≤ 200) (hR : RaceOk none l) (h : IsReach l secs sl m) (h' : IsReach l secs sl k) : m = k := by
  have key : ∀ a b : Int, IsReach l secs sl a → IsReach l secs sl b → ¬ a < b := fun a b ha hb hab => by
    have h1 := ha.2.2.2 (by have := hb.2.1; omega)
    have h2 := hb.2.2.1 (by have := ha.1; omega)
    have h3 := predL_mono hl (show a + 1 ≤ b by omega) l none (fun _ h => by cases h) hR
    omega
  have h1 := key m k h h'
  have h2 := key k m h' h
  omega
noncomputable def theReach (l : List RaceR) (secs sl : Int) : Int := open Classical in if h : ∃ m, IsReach l secs sl m then Classical.choose h else 0
theorem theReach_eq {l : List RaceR} {secs sl m : Int} (hl : 0 ≤ sl ∧ sl ≤ 200) (hR : RaceOk none l) (h : IsReach l secs sl m) : theReach l secs sl = m := by
  unfold theReach
  rw [dif_pos ⟨m, h⟩]
  exact IsReach.unique hl hR (Classical.choose_spec (⟨m, h⟩ : ∃ m, IsReach l secs sl m)) h
noncomputable def reachR (l : List RaceR) (secs sl : Int) : Int × Int :=
  if racesR l ≠ 0 then (0, racesR l) else if ¬((1 ≤ secs ∧ secs ≤ 1000000000) ∧ (0 ≤ sl ∧ sl ≤ 200)) then (0, 9) else if theReach l secs sl = 0 then (0, 4) else (theReach l secs sl, 0)
theorem reachR_e {l : List RaceR} {x sl : Int} (h : racesR l ≠ 0) : reachR l x sl = (0, racesR l) := if_pos h
theorem reachR_9 {l : List RaceR} {x sl : Int} (h : racesR l = 0) (h1 : ¬((1 ≤ x ∧ x ≤ 1000000000) ∧ (0 ≤ sl ∧ sl ≤ 200))) : reachR l x sl = (0, 9) := by unfold reachR; rw [if_neg (by simp [h]), if_pos h1]
theorem reachR_m {l : List RaceR} {x sl m : Int} (h : racesR l = 0) (h1 : (1 ≤ x ∧ x ≤ 1000000000) ∧ (0 ≤ sl ∧ sl ≤ 200)) (hm : IsReach l x sl m) : reachR l x sl = if m = 0 then (0, 4) else (m, 0) := by
  unfold reachR; rw [if_neg (by simp [h]), if_neg (fun h2 => h2 h1), theReach_eq h1.2 (racesOk h).ord hm]
theorem predR_inv {l : List RaceR} {x sl : Int} (h : (predR l x sl).2 = 0) : racesR l = 0 ∧ ((1 ≤ x ∧ x ≤ 10000000) ∧ (0 ≤ sl ∧ sl ≤ 200)) ∧ (predR l x sl).1 = predL sl x none l := by
  by_cases h0 : racesR l = 0
  · by_cases h1 : (1 ≤ x ∧ x ≤ 10000000) ∧ (0 ≤ sl ∧ sl ≤ 200)
    · exact ⟨h0, h1, by rw [predR_0 h0 h1]⟩
    · rw [predR_9 h0 h1] at h; exact absurd h (by show ¬((9 : Int) = 0); omega)
  · rw [predR_e h0] at h; exact absurd h h0
theorem reach_ex (l : List RaceR) (secs sl : Int) : ∀ N : Nat, ∃ m : Int, 0 ≤ m ∧ m ≤ N ∧ (1 ≤ m → predL sl m none l ≤ secs) ∧ (m < N → secs < predL sl (m + 1) none l)
  | 0 => ⟨0, by omega, by omega, fun h => by omega, fun h => by omega⟩
  | N + 1 => by
    obtain ⟨m, h1, h2, h3, h4⟩ := reach_ex l secs sl N
    by_cases hm : m < N
    · exact ⟨m, h1, by omega, h3, fun _ => h4 hm⟩
    · by_cases hp : predL sl (m + 1) none l ≤ secs
      · exact ⟨m + 1, by omega, by omega, fun _ => hp, fun h => by omega⟩
      · exact ⟨m, h1, by omega, h3, fun _ => by omega⟩
theorem reachR_inv {l : List RaceR} {x sl : Int} (h : (reachR l x sl).2 = 0) : racesR l = 0 ∧ ((1 ≤ x ∧ x ≤ 1000000000) ∧ (0 ≤ sl ∧ sl ≤ 200)) ∧ 1 ≤ (reachR l x sl).1 ∧ IsReach l x sl (reachR l x sl).1 := by
  by_cases h0 : racesR l = 0
  · by_cases h1 : (1 ≤ x ∧ x ≤ 1000000000) ∧ (0 ≤ sl ∧ sl ≤ 200)
    · obtain ⟨m, m1, m2, m3, m4⟩ := reach_ex l x sl 10000000
      have hI : IsReach l x sl m := ⟨m1, by omega, m3, fun h => m4 (by omega)⟩
      have hr := reachR_m h0 h1 hI
      by_cases hm : m = 0
      · rw [hr, if_pos hm] at h; exact absurd h (by show ¬((4 : Int) = 0); omega)
      · rw [if_neg hm] at hr
        rw [hr]
        exact ⟨h0, h1, by show 1 ≤ m; omega, hI⟩
    · rw [reachR_9 h0 h1] at h; exact absurd h (by show ¬((9 : Int) = 0); omega)
  · rw [reachR_e h0] at h; exact absurd h h0
end Go.Proofs.Ytamlldedmhkobaa
