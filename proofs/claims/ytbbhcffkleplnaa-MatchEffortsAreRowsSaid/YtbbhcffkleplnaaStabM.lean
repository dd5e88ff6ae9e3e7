/-
  A sort that is stable: plain part.
-/
import Derived.Test.YtbbhcffkleplnaaTabM
namespace Go.Proofs.Ytbbhcffkleplnaa
set_option linter.unusedVariables false
set_option linter.unusedSimpArgs false
def swF (f : Nat → Int) (a b n : Nat) : Nat → Int := fun x => if a ≤ x ∧ x < a + n then f (x - a + b) else if b ≤ x ∧ x < b + n then f (x - b + a) else f x
def rotF (f : Nat → Int) (a m b : Nat) : Nat → Int := fun x => if a ≤ x ∧ x < a + (b - m) then f (x - a + m) else if a + (b - m) ≤ x ∧ x < b then f (x - (b - m)) else f x
/-- Two places exchanged. -/
def sw2 (f : Nat → Int) (i j : Nat) : Nat → Int := fun x => if x = i then f j else if x = j then f i else f x
theorem swF_zero (f : Nat → Int) (a b : Nat) : swF f a b 0 = f := by
  funext x; unfold swF; rw [if_neg (by omega), if_neg (by omega)]
theorem swF_succ {f : Nat → Int} {a b n : Nat} (h : a + n < b) : swF f a b (n + 1) = sw2 (swF f a b n) (a + n) (b + n) := by
  funext x
  simp only [swF, sw2]
  repeat' split
  all_goals first | (exfalso; omega) | (congr 1; omega) | rfl
theorem swF_at1 {f : Nat → Int} {a b n : Nat} (h : a + n < b) : swF f a b n (a + n) = f (a + n) := by
  simp only [swF]; rw [if_neg (by omega), if_neg (by omega)]
theorem swF_at2 {f : Nat → Int} {a b n : Nat} (h : a + n < b) : swF f a b n (b + n) = f (b + n) := by
  simp only [swF]; rw [if_neg (by omega), if_neg (by omega)]
theorem tab_sw2 {N i j : Nat} (f : Nat → Int) (hi : i < N) (hj : j < N) : ((tab N f).set i (f j)).set j (f i) = tab N (sw2 f i j) := by
  rw [tab_set (g := fun x => if x = i then f j else f x) hi (by simp) (fun x hx _ => by simp [hx])]
  refine tab_set hj ?_ fun x hx _ => ?_
  · simp only [sw2]; split
    · rename_i h; rw [h]
    · rfl
  · simp only [sw2]; split
    · rfl
    · first
        | rfl
        | rw [if_neg hx]
theorem rot_gt {g : Nat → Int} {m i j : Nat} (hj : 0 < j) (h : j < i) (hm : i ≤ m) : rotF (swF g (m - i) m j) (m - (i - j)) m (m + j) = rotF g (m - i) m (m + j) := by
  funext x
  simp only [swF, rotF]
  repeat' split
  all_goals first | (exfalso; omega) | (congr 1; omega) | rfl
theorem rot_lt {g : Nat → Int} {m i j : Nat} (hi : 0 < i) (h : i < j) (hm : i ≤ m) : rotF (swF g (m - i) (m + j - i) i) (m - i) m (m + (j - i)) = rotF g (m - i) m (m + j) := by
  funext x
  simp only [swF, rotF]
  repeat' split
  all_goals first | (exfalso; omega) | (congr 1; omega) | rfl
theorem rot_eq {g : Nat → Int} {m i : Nat} (hm : i ≤ m) : swF g (m - i) m i = rotF g (m - i) m (m + i) := by
  funext x
  simp only [swF, rotF]
  repeat' split
  all_goals first | (exfalso; omega) | (congr 1; omega) | rfl
section
variable (lt : Int → Int → Bool)
/-- Ahead: less, or as great with a smaller number. -/
def RR (x y : Int) : Prop := lt x y = true ∨ (lt y x = false ∧ x < y)
def SoR (f : Nat → Int) (a b : Nat) : Prop := ∀ i j, a ≤ i → i < j → j < b → RR lt (f i) (f j)
def SaS (f g : Nat → Int) (a b : Nat) : Prop := (∀ x, a ≤ x → x < b → ∃ y, a ≤ y ∧ y < b ∧ f x = g y) ∧ (∀ x, a ≤ x → x < b → ∃ y, a ≤ y ∧ y < b ∧ g x = f y)
/-- A strict weak order. -/
structure Swo : Prop where
  asym : ∀ x y, lt x y = true → lt y x = false
  trans : ∀ x y z, lt x y = true → lt y z = true → lt x z = true
  inc : ∀ x y z, lt x y = false → lt y z = false → lt x z = false
variable {lt}
theorem RR.trans (h : Swo lt) {x y z : Int} (h1 : RR lt x y) (h2 : RR lt y z) : RR lt x z := by
  rcases h1 with h1 | ⟨h1, h1'⟩
  · rcases h2 with h2 | ⟨h2, h2'⟩
    · exact .inl (h.trans _ _ _ h1 h2)
    · left
      cases hz : lt x z with
      | true => rfl
      | false => have := h.inc _ _ _ hz h2; rw [h1] at this; cases this
  · rcases h2 with h2 | ⟨h2, h2'⟩
    · left
      cases hz : lt x z with
      | true => rfl
      | false => have := h.inc _ _ _ h1 hz; rw [h2] at this; cases this
    · exact .inr ⟨h.inc _ _ _ h2 h1, by omega⟩
theorem RR.irr (h : Swo lt) {x : Int} (h1 : RR lt x x) : False := by
  rcases h1 with h1 | ⟨_, h1⟩
  · have := h.asym _ _ h1; rw [h1] at this; cases this
  · omega
theorem SaS.refl (f : Nat → Int) (a b : Nat) : SaS f f a b := ⟨fun x h1 h2 => ⟨x, h1, h2, rfl⟩, fun x h1 h2 => ⟨x, h1, h2, rfl⟩⟩
theorem SaS.trans {f g k : Nat → Int} {a b : Nat} (h1 : SaS f g a b) (h2 : SaS g k a b) : SaS f k a b :=
  ⟨fun x p q => by obtain ⟨y, a1, a2, a3⟩ := h1.1 x p q; obtain ⟨z, b1, b2, b3⟩ := h2.1 y a1 a2; exact ⟨z, b1, b2, a3.trans b3⟩,
   fun x p q => by obtain ⟨y, a1, a2, a3⟩ := h2.2 x p q; obtain ⟨z, b1, b2, b3⟩ := h1.2 y a1 a2; exact ⟨z, b1, b2, a3.trans b3⟩⟩
theorem SaS.sw2 {f : Nat → Int} {a b i j : Nat} (hi : a ≤ i ∧ i < b) (hj : a ≤ j ∧ j < b) : SaS f (sw2 f i j) a b := by
  have key : ∀ x, Go.Proofs.Ytbbhcffkleplnaa.sw2 f i j (if x = i then j else if x = j then i else x) = f x := fun x => by
    unfold Go.Proofs.Ytbbhcffkleplnaa.sw2
    repeat' split
    all_goals first | (congr 1; omega) | (exfalso; omega) | rfl
  refine ⟨fun x p q => ⟨if x = i then j else if x = j then i else x, ?_, ?_, (key x).symm⟩, fun x p q => ⟨if x = i then j else if x = j then i else x, ?_, ?_, ?_⟩⟩
  · repeat' split
    all_goals omega
  · repeat' split
    all_goals omega
  · repeat' split
    all_goals omega
  · repeat' split
    all_goals omega
  · unfold Go.Proofs.Ytbbhcffkleplnaa.sw2
    repeat' split
    all_goals first | (congr 1; omega) | (exfalso; omega) | rfl
theorem SaS.rot {f : Nat → Int} {a m b : Nat} (h1 : a ≤ m) (h2 : m ≤ b) : SaS f (rotF f a m b) a b := by
  refine ⟨fun x p q => ?_, fun x p q => ?_⟩
  · by_cases h : x < m
    · refine ⟨x + (b - m), by omega, by omega, ?_⟩
      simp only [rotF]; rw [if_neg (by omega), if_pos (by omega)]; congr 1; omega
    · refine ⟨x - m + a, by omega, by omega, ?_⟩
      simp only [rotF]; rw [if_pos (by omega)]; congr 1; omega
  · simp only [rotF]
    split
    · exact ⟨x - a + m, by omega, by omega, rfl⟩
    · rw [if_pos (by omega)]; exact ⟨x - (b - m), by omega, by omega, rfl⟩
theorem SaS.widen {f g : Nat → Int} {a b c d : Nat} (h : SaS f g a b) (hc : c ≤ a) (hd : b ≤ d) (hab : a ≤ b) (ho : ∀ x, x < a ∨ b ≤ x → g x = f x) : SaS f g c d := by
  refine ⟨fun x p q => ?_, fun x p q => ?_⟩
  · by_cases hx : a ≤ x ∧ x < b
    · obtain ⟨y, h1, h2, h3⟩ := h.1 x hx.1 hx.2; exact ⟨y, by omega, by omega, h3⟩
    · exact ⟨x, p, q, (ho x (by omega)).symm⟩
  · by_cases hx : a ≤ x ∧ x < b
    · obtain ⟨y, h1, h2, h3⟩ := h.2 x hx.1 hx.2; exact ⟨y, by omega, by omega, h3⟩
    · exact ⟨x, p, q, ho x (by omega)⟩
theorem SaS.join {f g : Nat → Int} {a m b : Nat} (h1 : SaS f g a m) (h2 : SaS f g m b) (ha : a ≤ m) (hb : m ≤ b) : SaS f g a b := by
  refine ⟨fun x p q => ?_, fun x p q => ?_⟩
  · by_cases hx : x < m
    · obtain ⟨y, q1, q2, q3⟩ := h1.1 x p hx; exact ⟨y, q1, by omega, q3⟩
    · obtain ⟨y, q1, q2, q3⟩ := h2.1 x (by omega) q; exact ⟨y, by omega, q2, q3⟩
  · by_cases hx : x < m
    · obtain ⟨y, q1, q2, q3⟩ := h1.2 x p hx; exact ⟨y, q1, by omega, q3⟩
    · obtain ⟨y, q1, q2, q3⟩ := h2.2 x (by omega) q; exact ⟨y, by omega, q2, q3⟩
/-! #### the rows of an insertion -/
/-- The element at j goes to the front; all others are in order, and those behind it come behind it. -/
structure InsI (lt : Int → Int → Bool) (f g : Nat → Int) (a i j : Nat) : Prop where
  so : ∀ x y, a ≤ x → x < y → y ≤ i → x ≠ j → y ≠ j → RR lt (g x) (g y)
  be : ∀ y, j < y → y ≤ i → RR lt (g j) (g y)
  nu : ∀ x, a ≤ x → x ≤ i → x ≠ j → g x < g j
  sa : SaS f g a (i + 1)
  out : ∀ x, x < a ∨ i < x → g x = f x
theorem InsI.start {f : Nat → Int} {a i : Nat} (h : SoR lt f a i) (hu : ∀ x, a ≤ x → x < i → f x < f i) : InsI lt f f a i i :=
  ⟨fun x y h1 h2 h3 h4 h5 => h x y h1 h2 (by omega), fun y h1 h2 => by omega, fun x h1 h2 h3 => hu x h1 (by omega), SaS.refl _ _ _, fun _ _ => rfl⟩
theorem InsI.step {f g : Nat → Int} {a i j : Nat} (h : InsI lt f g a i j) (hj : a < j) (hji : j ≤ i) (hl : lt (g j) (g (j - 1)) = true) : InsI lt f (sw2 g j (j - 1)) a i (j - 1) := by
  have e1 : sw2 g j (j - 1) (j - 1) = g j := by unfold sw2; rw [if_neg (by omega), if_pos rfl]
  have e2 : sw2 g j (j - 1) j = g (j - 1) := by unfold sw2; rw [if_pos rfl]
  have e3 : ∀ x, x ≠ j → x ≠ j - 1 → sw2 g j (j - 1) x = g x := fun x h1 h2 => by unfold sw2; rw [if_neg h1, if_neg h2]
  refine ⟨fun x y h1 h2 h3 h4 h5 => ?_, fun y h1 h2 => ?_, fun x h1 h2 h3 => ?_, h.sa.trans (SaS.sw2 ⟨by omega, by omega⟩ ⟨by omega, by omega⟩), fun x hx => ?_⟩
  · by_cases hx : x = j
    · subst hx; rw [e2, e3 y (by omega) h5]; exact h.so _ _ (by omega) (by omega) h3 (by omega) (by omega)
    · by_cases hy : y = j
      · subst hy; rw [e2, e3 x hx h4]; exact h.so _ _ h1 (by omega) (by omega) hx (by omega)
      · rw [e3 x hx h4, e3 y hy h5]; exact h.so _ _ h1 h2 h3 hx hy
  · rw [e1]
    by_cases hy : y = j
    · subst hy; rw [e2]; exact .inl hl
    · rw [e3 y hy (by omega)]; exact h.be y (by omega) h2
  · rw [e1]
    by_cases hx : x = j
    · subst hx; rw [e2]; exact h.nu _ (by omega) (by omega) (by omega)
    · rw [e3 x hx h3]; exact h.nu x h1 h2 hx
  · rw [e3 x (by omega) (by omega)]; exact h.out x hx
theorem InsI.stop {f g : Nat → Int} {a i j : Nat} (hw : Swo lt) (h : InsI lt f g a i j) (haj : a ≤ j) (hji : j ≤ i) (hl : j = a ∨ lt (g j) (g (j - 1)) = false) : SoR lt g a (i + 1) := by
  intro x y h1 h2 h3
  by_cases hy : y = j
  · subst hy
    rcases hl with hl | hl
    · omega
    · have h4 : RR lt (g (y - 1)) (g y) := .inr ⟨hl, h.nu _ (by omega) (by omega) (by omega)⟩
      by_cases hx : x = y - 1
      · subst hx; exact h4
      · exact RR.trans hw (h.so x (y - 1) h1 (by omega) (by omega) (by omega) (by omega)) h4
  · by_cases hx : x = j
    · subst hx; exact h.be y h2 (by omega)
    · exact h.so x y h1 h2 (by omega) hx hy
/-- A part that was sorted. -/
structure Blo (lt : Int → Int → Bool) (f g : Nat → Int) (a b : Nat) : Prop where
  so : SoR lt g a b
  sa : SaS f g a b
  out : ∀ x, x < a ∨ b ≤ x → g x = f x
/-- Both halves are sorted; the numbers of the left one are smaller. -/
structure MrgI (lt : Int → Int → Bool) (f : Nat → Int) (a m b : Nat) : Prop where
  l : SoR lt f a m
  r : SoR lt f m b
  nu : ∀ x y, a ≤ x → x < m → m ≤ y → y < b → f x < f y
theorem MrgI.cross {f : Nat → Int} {a m b x y : Nat} (h : MrgI lt f a m b) (h1 : a ≤ x) (h2 : x < m) (h3 : m ≤ y) (h4 : y < b) : (lt (f y) (f x) = false → RR lt (f x) (f y)) ∧ (lt (f y) (f x) = true → RR lt (f y) (f x)) :=
  ⟨fun hl => .inr ⟨hl, h.nu x y h1 h2 h3 h4⟩, fun hl => .inl hl⟩
/-- One element on the left: it moves behind those that are less. -/
def mvR (f : Nat → Int) (a k : Nat) : Nat → Int := fun x => if a ≤ x ∧ x < k then f (x + 1) else if x = k then f a else f x
def mvL (f : Nat → Int) (k b : Nat) : Nat → Int := fun x => if x = k then f b else if k < x ∧ x ≤ b then f (x - 1) else f x
theorem mvR_start (f : Nat → Int) (a : Nat) : mvR f a a = f := by
  funext x; unfold mvR; rw [if_neg (by omega)]; split
  · rename_i h; rw [h]
  · rfl
theorem mvR_step {f : Nat → Int} {a k : Nat} (h : a ≤ k) : sw2 (mvR f a k) k (k + 1) = mvR f a (k + 1) := by
  funext x
  simp only [sw2, mvR]
  repeat' split
  all_goals first | (exfalso; omega) | (congr 1; omega) | rfl | exact absurd trivial (by assumption)
theorem mvL_start (f : Nat → Int) (b : Nat) : mvL f b b = f := by
  funext x; unfold mvL; split
  · rename_i h; rw [h]
  · rw [if_neg (by omega)]
theorem mvL_step {f : Nat → Int} {k b : Nat} (h : k < b + 1) (h0 : 0 < k) : sw2 (mvL f k b) k (k - 1) = mvL f (k - 1) b := by
  funext x
  simp only [sw2, mvL]
  repeat' split
  all_goals first | (exfalso; omega) | (congr 1; omega) | rfl | exact absurd trivial (by assumption)
theorem mvR_blo {f : Nat → Int} {a b i : Nat} (hw : Swo lt) (h : MrgI lt f a (a + 1) b) (hi : a + 1 ≤ i) (hib : i ≤ b) (h1 : ∀ x, a + 1 ≤ x → x < i → lt (f x) (f a) = true) (h2 : ∀ x, i ≤ x → x < b → lt (f x) (f a) = false) : Blo lt f (mvR f a (i - 1)) a b := by
  refine ⟨fun x y p q r => ?_, ⟨fun x p q => ?_, fun x p q => ?_⟩, fun x hx => ?_⟩
  · have c1 : ∀ z, a + 1 ≤ z → z < i → RR lt (f z) (f a) := fun z z1 z2 => .inl (h1 z z1 z2)
    have c2 : ∀ z, i ≤ z → z < b → RR lt (f a) (f z) := fun z z1 z2 => (h.cross (Nat.le_refl _) (by omega) (by omega) z2).1 (h2 z z1 z2)
    unfold mvR
    by_cases hx : x < i - 1
    · rw [if_pos (by omega)]
      by_cases hy : y < i - 1
      · rw [if_pos (by omega)]; exact h.r _ _ (by omega) (by omega) (by omega)
      · rw [if_neg (by omega)]
        by_cases hy2 : y = i - 1
        · rw [if_pos hy2]; exact c1 _ (by omega) (by omega)
        · rw [if_neg hy2]; exact h.r _ _ (by omega) (by omega) (by omega)
    · rw [if_neg (by omega), if_neg (show ¬(a ≤ y ∧ y < i - 1) by omega), if_neg (show ¬y = i - 1 by omega)]
      by_cases hx2 : x = i - 1
      · rw [if_pos hx2]; exact c2 _ (by omega) (by omega)
      · rw [if_neg hx2]; exact h.r _ _ (by omega) (by omega) (by omega)
  · unfold mvR
    by_cases hx : x = a
    · exact ⟨i - 1, by omega, by omega, by rw [if_neg (by omega), if_pos rfl, hx]⟩
    · by_cases hx2 : x < i
      · exact ⟨x - 1, by omega, by omega, by rw [if_pos (by omega)]; congr 1; omega⟩
      · exact ⟨x, by omega, by omega, by rw [if_neg (by omega), if_neg (by omega)]⟩
  · unfold mvR
    split
    · exact ⟨x + 1, by omega, by omega, rfl⟩
    · split
      · exact ⟨a, by omega, by omega, rfl⟩
      · exact ⟨x, p, q, rfl⟩
  · unfold mvR; rw [if_neg (by omega), if_neg (by omega)]
theorem mvL_blo {f : Nat → Int} {a m i : Nat} (hw : Swo lt) (h : MrgI lt f a m (m + 1)) (hi : a ≤ i) (him : i ≤ m) (h1 : ∀ x, a ≤ x → x < i → lt (f m) (f x) = false) (h2 : ∀ x, i ≤ x → x < m → lt (f m) (f x) = true) : Blo lt f (mvL f i m) a (m + 1) := by
  refine ⟨fun x y p q r => ?_, ⟨fun x p q => ?_, fun x p q => ?_⟩, fun x hx => ?_⟩
  · have c1 : ∀ z, a ≤ z → z < i → RR lt (f z) (f m) := fun z z1 z2 => (h.cross z1 (by omega) (Nat.le_refl _) (by omega)).1 (h1 z z1 z2)
    have c2 : ∀ z, i ≤ z → z < m → RR lt (f m) (f z) := fun z z1 z2 => .inl (h2 z z1 z2)
    unfold mvL
    by_cases hx : x < i
    · rw [if_neg (by omega), if_neg (show ¬(i < x ∧ x ≤ m) by omega)]
      by_cases hy : y = i
      · rw [if_pos hy]; exact c1 _ p hx
      · rw [if_neg hy]
        by_cases hy2 : i < y ∧ y ≤ m
        · rw [if_pos hy2]; exact h.l _ _ p (by omega) (by omega)
        · rw [if_neg hy2]; exact h.l _ _ p q (by omega)
    · rw [if_neg (show ¬y = i by omega), if_pos (show i < y ∧ y ≤ m by omega)]
      by_cases hx2 : x = i
      · rw [if_pos hx2]; exact c2 _ (by omega) (by omega)
      · rw [if_neg hx2, if_pos (by omega)]; exact h.l _ _ (by omega) (by omega) (by omega)
  · unfold mvL
    by_cases hx : x = m
    · exact ⟨i, by omega, by omega, by rw [if_pos rfl, hx]⟩
    · by_cases hx2 : i ≤ x
      · exact ⟨x + 1, by omega, by omega, by rw [if_neg (by omega), if_pos (by omega)]; congr 1⟩
      · exact ⟨x, by omega, by omega, by rw [if_neg (by omega), if_neg (by omega)]⟩
  · unfold mvL
    split
    · exact ⟨m, by omega, by omega, rfl⟩
    · split
      · exact ⟨x - 1, by omega, by omega, rfl⟩
      · exact ⟨x, p, q, rfl⟩
  · unfold mvL; rw [if_neg (by omega), if_neg (by omega)]
/-- What the search for the place to turn finds. -/
structure Turn (lt : Int → Int → Bool) (f : Nat → Int) (a m b mid s e : Nat) : Prop where
  sz : s + e = mid + m
  rg : a ≤ s ∧ s ≤ m ∧ m ≤ e ∧ e ≤ b
  lo : a < s → e < b → lt (f e) (f (s - 1)) = false
  hi : s < m → m < e → lt (f (e - 1)) (f s) = true
theorem turn_parts {f : Nat → Int} {a m b mid s e : Nat} (hw : Swo lt) (h : MrgI lt f a m b) (ht : Turn lt f a m b mid s e) (hm : a ≤ mid ∧ mid ≤ b) :
    MrgI lt (rotF f s m e) a s mid ∧ MrgI lt (rotF f s m e) mid e b ∧ ∀ x y, a ≤ x → x < mid → mid ≤ y → y < b → RR lt (rotF f s m e x) (rotF f s m e y) := by
  obtain ⟨sz, ⟨r1, r2, r3, r4⟩, lo, hi⟩ := ht
  have a1 : ∀ x, x < s → rotF f s m e x = f x := fun x hx => by simp only [rotF]; rw [if_neg (by omega), if_neg (by omega)]
  have a2 : ∀ x, s ≤ x → x < mid → rotF f s m e x = f (x - s + m) := fun x h1 h2 => by simp only [rotF]; rw [if_pos (by omega)]
  have a3 : ∀ x, mid ≤ x → x < e → rotF f s m e x = f (x - (e - m)) := fun x h1 h2 => by simp only [rotF]; rw [if_neg (by omega), if_pos (by omega)]
  have a4 : ∀ x, e ≤ x → rotF f s m e x = f x := fun x hx => by simp only [rotF]; rw [if_neg (by omega), if_neg (by omega)]
  -- the four quarters
  have lr : ∀ x y, a ≤ x → x < s → e ≤ y → y < b → RR lt (f x) (f y) := fun x y h1 h2 h3 h4 => by
    have h5 := (h.cross (x := s - 1) (y := e) (by omega) (by omega) (by omega) (by omega)).1 (lo (by omega) (by omega))
    have h6 : RR lt (f x) (f e) := by
      by_cases hx : x = s - 1
      · subst hx; exact h5
      · exact RR.trans hw (h.l x (s - 1) h1 (by omega) (by omega)) h5
    by_cases hy : y = e
    · subst hy; exact h6
    · exact RR.trans hw h6 (h.r e y (by omega) (by omega) h4)
  have rl : ∀ x y, m ≤ x → x < e → s ≤ y → y < m → RR lt (f x) (f y) := fun x y h1 h2 h3 h4 => by
    have h5 : RR lt (f (e - 1)) (f s) := .inl (hi (by omega) (by omega))
    have h6 : RR lt (f x) (f s) := by
      by_cases hx : x = e - 1
      · subst hx; exact h5
      · exact RR.trans hw (h.r x (e - 1) h1 (by omega) (by omega)) h5
    by_cases hy : y = s
    · subst hy; exact h6
    · exact RR.trans hw h6 (h.l s y (by omega) (by omega) h4)
  refine ⟨⟨fun x y h1 h2 h3 => ?_, fun x y h1 h2 h3 => ?_, fun x y h1 h2 h3 h4 => ?_⟩, ⟨fun x y h1 h2 h3 => ?_, fun x y h1 h2 h3 => ?_, fun x y h1 h2 h3 h4 => ?_⟩, fun x y h1 h2 h3 h4 => ?_⟩
  · rw [a1 x (by omega), a1 y (by omega)]; exact h.l x y h1 h2 (by omega)
  · rw [a2 x h1 (by omega), a2 y (by omega) h3]; exact h.r _ _ (by omega) (by omega) (by omega)
  · rw [a1 x h2, a2 y h3 h4]; exact h.nu _ _ h1 (by omega) (by omega) (by omega)
  · rw [a3 x h1 (by omega), a3 y (by omega) h3]; exact h.l _ _ (by omega) (by omega) (by omega)
  · rw [a4 x h1, a4 y (by omega)]; exact h.r _ _ (by omega) (by omega) (by omega)
  · rw [a3 x h1 h2, a4 y h3]; exact h.nu _ _ (by omega) (by omega) (by omega) (by omega)
  · by_cases hx : x < s
    · rw [a1 x hx]
      by_cases hy : y < e
      · rw [a3 y h3 hy]; exact h.l _ _ h1 (by omega) (by omega)
      · rw [a4 y (by omega)]; exact lr x y h1 hx (by omega) h4
    · rw [a2 x (by omega) h2]
      by_cases hy : y < e
      · rw [a3 y h3 hy]; exact rl _ _ (by omega) (by omega) (by omega) (by omega)
      · rw [a4 y (by omega)]; exact h.r _ _ (by omega) (by omega) (by omega)
theorem Blo.one {f : Nat → Int} {a b : Nat} (h : SoR lt f a b) : Blo lt f f a b := ⟨h, SaS.refl _ _ _, fun _ _ => rfl⟩
/-- Both halves, sorted one by one. -/
theorem turn_blo {f g k : Nat → Int} {a m b mid s e : Nat} (hw : Swo lt) (h : MrgI lt f a m b) (ht : Turn lt f a m b mid s e) (hm : a ≤ mid ∧ mid ≤ b) (h1 : Blo lt (rotF f s m e) g a mid) (h2 : Blo lt g k mid b) : Blo lt f k a b := by
  obtain ⟨_, _, hx⟩ := turn_parts hw h ht hm
  have hr : SaS f (rotF f s m e) a b := (SaS.rot (f := f) ht.rg.2.1 ht.rg.2.2.1).widen (by have := ht.rg; omega) (by have := ht.rg; omega) (by have := ht.rg; omega) (fun x hx => by simp only [rotF]; rw [if_neg (by have := ht.sz; have := ht.rg; omega), if_neg (by have := ht.sz; have := ht.rg; omega)])
  have hg := h1.sa.widen (c := a) (d := b) (Nat.le_refl _) hm.2 hm.1 h1.out
  have hk := h2.sa.widen (c := a) (d := b) hm.1 (Nat.le_refl _) hm.2 h2.out
  refine ⟨fun x y p q r => ?_, hr.trans (hg.trans hk), fun x hx' => ?_⟩
  · by_cases hy : y < mid
    · rw [h2.out x (by omega), h2.out y (by omega)]; exact h1.so x y p q hy
    · by_cases hxm : mid ≤ x
      · exact h2.so x y hxm q r
      · rw [h2.out x (by omega)]
        obtain ⟨x', p1, p2, p3⟩ := h1.sa.2 x p (by omega)
        obtain ⟨y', q1, q2, q3⟩ := h2.sa.2 y (by omega) r
        rw [p3, q3, h1.out y' (by omega)]
        exact hx x' y' p1 p2 q1 q2
  · rw [h2.out x (by omega), h1.out x (by omega)]
    have := ht.rg
    simp only [rotF]; rw [if_neg (by have := ht.sz; omega), if_neg (by have := ht.sz; omega)]
end
/-- Two lists in one order, with the same elements, are one. -/
theorem sorted_one {R : Int → Int → Prop} (hi : ∀ x, ¬R x x) (ht : ∀ x y z, R x y → R y z → R x z) : ∀ (l k : List Int), l.Pairwise R → k.Pairwise R → (∀ x, x ∈ l ↔ x ∈ k) → l = k
  | [], [], _, _, _ => rfl
  | [], y :: k, _, _, h => by have := (h y).2 (by simp); simp at this
  | x :: l, [], _, _, h => by have := (h x).1 (by simp); simp at this
  | x :: l, y :: k, h1, h2, h => by
    rw [List.pairwise_cons] at h1 h2
    have hxy : x = y := by
      rcases List.mem_cons.1 ((h x).1 (by simp)) with h3 | h3
      · exact h3
      · rcases List.mem_cons.1 ((h y).2 (by simp)) with h4 | h4
        · exact h4.symm
        · exact absurd (ht _ _ _ (h1.1 y h4) (h2.1 x h3)) (hi x)
    subst hxy
    congr 1
    refine sorted_one hi ht l k h1.2 h2.2 fun z => ⟨fun hz => ?_, fun hz => ?_⟩
    · rcases List.mem_cons.1 ((h z).1 (by simp [hz])) with h3 | h3
      · subst h3; exact absurd (h1.1 z hz) (hi z)
      · exact h3
    · rcases List.mem_cons.1 ((h z).2 (by simp [hz])) with h3 | h3
      · subst h3; exact absurd (h2.1 z hz) (hi z)
      · exact h3
end Go.Proofs.Ytbbhcffkleplnaa
