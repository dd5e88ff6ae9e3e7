/-
  The shortest window with at least a sum: what both ways of finding it keep. No program stands here.
-/
import Derived.Test.YtafkojlccknicaaBestM
namespace Go.Proofs.Ytafkojlccknicaa
set_option linter.unusedVariables false
/-- A known window from second b to second e with at least the sum. -/
def Val (xs : List Int) (sum : Int) (b e : Nat) : Prop := b ≤ e ∧ pU xs e = pU xs b ∧ sum ≤ pS xs e - pS xs b
/-- Of the windows that were looked at, (f, t) is the shortest, and the first of these. -/
structure LeastOk (xs : List Int) (sum : Int) (D : Nat → Nat → Prop) (f t : Nat) (ok : Bool) : Prop where
  no : ok = false → f = 0 ∧ t = 0 ∧ ∀ b e, D b e → ¬ Val xs sum b e
  yes : ok = true → Val xs sum f t ∧ D f t ∧ ∀ b e, D b e → Val xs sum b e → t + b < e + f ∨ (t + b = e + f ∧ t ≤ e)
def Upto (i b e : Nat) : Prop := e ≤ i
def Half (i m b e : Nat) : Prop := e < i ∨ (e = i ∧ b < m)
theorem LeastOk.unique {xs : List Int} {sum : Int} {D : Nat → Nat → Prop} {f t f' t' : Nat} {ok ok' : Bool} (h : LeastOk xs sum D f t ok) (h' : LeastOk xs sum D f' t' ok') : f = f' ∧ t = t' ∧ ok = ok' := by
  cases ok with
  | false =>
    obtain ⟨h1, h2, h3⟩ := h.no rfl
    cases ok' with
    | false => obtain ⟨g1, g2, _⟩ := h'.no rfl; exact ⟨by omega, by omega, rfl⟩
    | true => obtain ⟨g1, g2, _⟩ := h'.yes rfl; exact absurd g1 (h3 _ _ g2)
  | true =>
    obtain ⟨h1, h2, h3⟩ := h.yes rfl
    cases ok' with
    | false => obtain ⟨_, _, g3⟩ := h'.no rfl; exact absurd h1 (g3 _ _ h2)
    | true =>
      obtain ⟨g1, g2, g3⟩ := h'.yes rfl
      have a := h3 _ _ g2 g1
      have b := g3 _ _ h2 h1
      have c := h1.1
      have d := g1.1
      exact ⟨by omega, by omega, rfl⟩
theorem LeastOk.weak {xs : List Int} {sum : Int} {D D' : Nat → Nat → Prop} {f t : Nat} {ok : Bool} (h : LeastOk xs sum D f t ok) (hd : ∀ b e, D b e → D' b e)
    (hn : ∀ b e, D' b e → Val xs sum b e → D b e ∨ (ok = true ∧ (t + b < e + f ∨ (t + b = e + f ∧ t ≤ e)))) : LeastOk xs sum D' f t ok := by
  refine ⟨fun h0 => ?_, fun h0 => ?_⟩
  · obtain ⟨h1, h2, h3⟩ := h.no h0
    refine ⟨h1, h2, fun b e hD hv => ?_⟩
    rcases hn b e hD hv with h4 | ⟨h4, _⟩
    · exact h3 b e h4 hv
    · rw [h0] at h4; cases h4
  · obtain ⟨h1, h2, h3⟩ := h.yes h0
    refine ⟨h1, hd _ _ h2, fun b e hD hv => ?_⟩
    rcases hn b e hD hv with h4 | ⟨_, h4⟩
    · exact h3 b e h4 hv
    · exact h4
theorem LeastOk.start (xs : List Int) {sum : Int} (hs : 1 ≤ sum) : LeastOk xs sum (Upto 0) 0 0 false :=
  ⟨fun _ => ⟨rfl, rfl, fun b e hD hv => by
    have h1 : e = 0 := Nat.le_zero.1 hD
    obtain ⟨h2, _, h3⟩ := hv
    have h4 : b = 0 := by omega
    subst h1; subst h4; omega⟩, fun h => by cases h⟩
/-- A new one is taken: it is shorter than what was known. -/
theorem LeastOk.take {xs : List Int} {sum : Int} {D D' : Nat → Nat → Prop} {f t b i : Nat} {ok : Bool} (h : LeastOk xs sum D f t ok) (hv : Val xs sum b i) (hD : D' b i) (hs : ok = false ∨ i + f < t + b)
    (hn : ∀ b' e, D' b' e → Val xs sum b' e → D b' e ∨ (i + b' < e + b ∨ (i + b' = e + b ∧ i ≤ e))) : LeastOk xs sum D' b i true := by
  refine ⟨fun h0 => (by cases h0), fun _ => ⟨hv, hD, fun b' e hD' hv' => ?_⟩⟩
  rcases hn b' e hD' hv' with h4 | h4
  · rcases hs with h5 | h5
    · exact absurd hv' ((h.no h5).2.2 _ _ h4)
    · cases ok with
      | false => exact absurd hv' ((h.no rfl).2.2 _ _ h4)
      | true => have := (h.yes rfl).2.2 _ _ h4 hv'; omega
  · exact h4
/-! #### the program's two pointers -/
/-- Ahead of begin lies nothing that is not worse than what is known. -/
def Behind (xs : List Int) (i m : Nat) (f t : Nat) (ok : Bool) : Prop := ∀ b, b < m → pU xs i ≠ pU xs b ∨ (ok = true ∧ t + b < i + f)
def Within (xs : List Int) (sum : Int) (i m : Nat) (f t : Nat) (ok : Bool) (have_ : Int) : Prop := ∀ b, b < m → pU xs i ≠ pU xs b ∨ (ok = true ∧ t + b < i + f) ∨ sum ≤ have_
theorem behind_next {xs : List Int} {i m f t : Nat} {ok : Bool} (h : Behind xs i m f t ok) (hm : m ≤ i) (sum hv : Int) : Within xs sum (i + 1) m f t ok hv := fun b hb => by
  rcases h b hb with h1 | ⟨h1, h2⟩
  · exact .inl (by have a := pU_mono (xs := xs) (show i ≤ i + 1 by omega); have c := pU_mono (xs := xs) (show b ≤ i by omega); omega)
  · exact .inr (.inl ⟨h1, by omega⟩)
theorem unknown_next {xs : List Int} {i : Nat} {x : Int} (hx : xs[i]? = some x) (h : x < 0) (f t : Nat) (ok : Bool) : Behind xs (i + 1) (i + 1) f t ok := fun b hb => by
  have a := pU_succ hx
  rw [nv_neg h] at a
  have c := pU_mono (xs := xs) (show b ≤ i by omega)
  exact .inl (by omega)
theorem least_unknown {xs : List Int} {sum : Int} {i f t : Nat} {ok : Bool} {x : Int} (h : LeastOk xs sum (Upto i) f t ok) (hx : xs[i]? = some x) (hn : x < 0) (hs : 1 ≤ sum) : LeastOk xs sum (Upto (i + 1)) f t ok :=
  h.weak (fun b e hD => Nat.le_succ_of_le hD) fun b e hD hv => by
    by_cases he : e = i + 1
    · subst he
      obtain ⟨h1, h2, h3⟩ := hv
      by_cases hb : b = i + 1
      · subst hb; omega
      · have a := pU_succ hx
        rw [nv_neg hn] at a
        have c := pU_mono (xs := xs) (show b ≤ i by omega)
        omega
    · exact .inl (by unfold Upto at *; omega)
/-- The end of the program's round: the window from begin, if it reaches the sum, is taken if it is shorter. -/
theorem least_keep {xs : List Int} {sum : Int} {i m f t : Nat} {ok : Bool} (h : LeastOk xs sum (Upto i) f t ok) (hw : Within xs sum (i + 1) m f t ok (pS xs (i + 1) - pS xs m)) (hlt : m ≤ i) (hnext : pS xs (i + 1) - pS xs (m + 1) < sum)
    (hc : pS xs (i + 1) - pS xs m < sum ∨ (ok = true ∧ t + m ≤ i + 1 + f)) : LeastOk xs sum (Upto (i + 1)) f t ok ∧ Behind xs (i + 1) m f t ok := by
  refine ⟨h.weak (fun b e hD => Nat.le_succ_of_le hD) fun b e hD hv => ?_, fun b hb => ?_⟩
  · by_cases he : e = i + 1
    · subst he
      obtain ⟨h1, h2, h3⟩ := hv
      rcases Nat.lt_trichotomy b m with hb | hb | hb
      · rcases hw b hb with g | ⟨g1, g2⟩ | g
        · exact absurd h2 g
        · exact .inr ⟨g1, .inl g2⟩
        · rcases hc with hc | ⟨hc1, hc2⟩
          · omega
          · exact .inr ⟨hc1, by omega⟩
      · subst hb
        rcases hc with hc | ⟨hc1, hc2⟩
        · omega
        · refine .inr ⟨hc1, ?_⟩
          have := (h.yes hc1).2.1
          unfold Upto at this
          omega
      · have := pS_mono (xs := xs) (show m + 1 ≤ b by omega)
        omega
    · exact .inl (by unfold Upto at *; omega)
  · rcases hw b hb with g | g | g
    · exact .inl g
    · exact .inr g
    · rcases hc with hc | ⟨hc1, hc2⟩
      · omega
      · exact .inr ⟨hc1, by omega⟩
theorem least_take {xs : List Int} {sum : Int} {i m f t : Nat} {ok : Bool} (h : LeastOk xs sum (Upto i) f t ok) (hlt : m ≤ i) (hu : pU xs (i + 1) = pU xs m) (hnext : pS xs (i + 1) - pS xs (m + 1) < sum) (hv : sum ≤ pS xs (i + 1) - pS xs m)
    (hc : ok = false ∨ i + 1 + f < t + m) : LeastOk xs sum (Upto (i + 1)) m (i + 1) true ∧ Behind xs (i + 1) m m (i + 1) true := by
  refine ⟨h.take ⟨by omega, hu, hv⟩ (Nat.le_refl _) hc fun b e hD hv' => ?_, fun b hb => .inr ⟨rfl, by omega⟩⟩
  by_cases he : e = i + 1
  · subst he
    obtain ⟨h1, h2, h3⟩ := hv'
    rcases Nat.lt_trichotomy b m with hb | hb | hb
    · exact .inr (.inl (by omega))
    · subst hb; exact .inr (.inr ⟨rfl, Nat.le_refl _⟩)
    · have := pS_mono (xs := xs) (show m + 1 ≤ b by omega)
      omega
  · exact .inl (by unfold Upto at *; omega)
/-! #### the reference -/
/-- What lies ahead of begin is no shorter than what is known. -/
def BehindR (xs : List Int) (i m : Nat) (f t : Nat) (ok : Bool) : Prop := ∀ b, b < m → pU xs i ≠ pU xs b ∨ (ok = true ∧ t + b ≤ i + f)
theorem half_start {xs : List Int} {sum : Int} {i m f t : Nat} {ok : Bool} (h : LeastOk xs sum (Upto i) f t ok) (hr : BehindR xs i m f t ok) (hm : m ≤ i) : LeastOk xs sum (Half (i + 1) m) f t ok ∧ BehindR xs (i + 1) m f t ok := by
  refine ⟨h.weak (fun b e hD => .inl (by unfold Upto at hD; omega)) fun b e hD hv => ?_, fun b hb => ?_⟩
  · rcases hD with hD | ⟨rfl, hb⟩
    · exact .inl (by unfold Upto; omega)
    · rcases hr b hb with g | ⟨g1, g2⟩
      · have a := pU_mono (xs := xs) (show i ≤ i + 1 by omega)
        have c := pU_mono (xs := xs) (show b ≤ i by omega)
        have := hv.2.1
        omega
      · exact .inr ⟨g1, .inl (by omega)⟩
  · rcases hr b hb with g | ⟨g1, g2⟩
    · exact .inl (by have a := pU_mono (xs := xs) (show i ≤ i + 1 by omega); have c := pU_mono (xs := xs) (show b ≤ i by omega); omega)
    · exact .inr ⟨g1, by omega⟩
theorem half_keep {xs : List Int} {sum : Int} {i m f t : Nat} {ok : Bool} (h : LeastOk xs sum (Half i m) f t ok) (hr : BehindR xs i m f t ok) (hok : ok = true) (hc : t + m ≤ i + f) : LeastOk xs sum (Half i (m + 1)) f t ok ∧ BehindR xs i (m + 1) f t ok := by
  refine ⟨h.weak (fun b e hD => by unfold Half at *; omega) fun b e hD hv => ?_, fun b hb => ?_⟩
  · by_cases hb : e = i ∧ b = m
    · obtain ⟨rfl, rfl⟩ := hb
      have := (h.yes hok).2.1
      exact .inr ⟨hok, by unfold Half at this; omega⟩
    · exact .inl (by unfold Half at *; omega)
  · by_cases hbm : b = m
    · subst hbm; exact .inr ⟨hok, hc⟩
    · exact hr b (by omega)
theorem half_take {xs : List Int} {sum : Int} {i m f t : Nat} {ok : Bool} (h : LeastOk xs sum (Half i m) f t ok) (hm : m ≤ i) (hu : pU xs i = pU xs m) (hv : sum ≤ pS xs i - pS xs m) (hc : ok = false ∨ i + f < t + m) :
    LeastOk xs sum (Half i (m + 1)) m i true ∧ BehindR xs i (m + 1) m i true := by
  refine ⟨h.take ⟨hm, hu, hv⟩ (.inr ⟨rfl, by omega⟩) hc fun b e hD hv' => ?_, fun b hb => .inr ⟨rfl, by omega⟩⟩
  by_cases hb : e = i ∧ b = m
  · obtain ⟨rfl, rfl⟩ := hb; exact .inr (.inr ⟨rfl, Nat.le_refl _⟩)
  · exact .inl (by unfold Half at *; omega)
theorem half_end {xs : List Int} {sum : Int} {i m f t : Nat} {ok : Bool} (h : LeastOk xs sum (Half i m) f t ok) (hm : m ≤ i) (hv : pS xs i - pS xs m < sum) : LeastOk xs sum (Upto i) f t ok :=
  h.weak (fun b e hD => by unfold Half Upto at *; omega) fun b e hD hv' => by
    by_cases hb : e = i ∧ m ≤ b
    · obtain ⟨rfl, hb⟩ := hb
      have := pS_mono (xs := xs) hb
      have := hv'.2.2
      omega
    · exact .inl (by unfold Half Upto at *; omega)
/-- What Least returns. -/
def LeastR (xs : List Int) (sum : Int) (f t : Nat) (ok : Bool) (e : Int) : Prop :=
  if streamR xs ≠ 0 then f = 0 ∧ t = 0 ∧ ok = false ∧ e = streamR xs else if inB sum 1 1000000000000000 = true then LeastOk xs sum (Upto xs.length) f t ok ∧ e = 0 else f = 0 ∧ t = 0 ∧ ok = false ∧ e = 9
theorem LeastR.unique {xs : List Int} {sum : Int} {f t f' t' : Nat} {ok ok' : Bool} {e e' : Int} (h : LeastR xs sum f t ok e) (h' : LeastR xs sum f' t' ok' e') : f = f' ∧ t = t' ∧ ok = ok' ∧ e = e' := by
  unfold LeastR at h h'
  by_cases h1 : streamR xs ≠ 0
  · rw [if_pos h1] at h h'; obtain ⟨rfl, rfl, rfl, rfl⟩ := h; obtain ⟨rfl, rfl, rfl, rfl⟩ := h'; exact ⟨rfl, rfl, rfl, rfl⟩
  · rw [if_neg h1] at h h'
    by_cases h2 : inB sum 1 1000000000000000 = true
    · rw [if_pos h2] at h h'
      obtain ⟨a, b, c⟩ := h.1.unique h'.1
      exact ⟨a, b, c, by rw [h.2, h'.2]⟩
    · rw [if_neg h2] at h h'; obtain ⟨rfl, rfl, rfl, rfl⟩ := h; obtain ⟨rfl, rfl, rfl, rfl⟩ := h'; exact ⟨rfl, rfl, rfl, rfl⟩
end Go.Proofs.Ytafkojlccknicaa
