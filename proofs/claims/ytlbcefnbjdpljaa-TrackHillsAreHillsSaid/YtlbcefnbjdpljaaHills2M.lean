/-
  Hills are hills, and all of them are found. No program stands here.
-/
import Derived.Test.YtlbcefnbjdpljaaHillsM
namespace Go.Proofs.Ytlbcefnbjdpljaa
set_option linter.unusedVariables false
/-- One goes up from f to t. -/
def HillP (ss : List SmpR) (f t : Nat) (least dip : Int) : Prop :=
  (∀ j, f ≤ j → j ≤ t → zAt ss f ≤ zAt ss j ∧ zAt ss j ≤ zAt ss t ∧ ∀ k, j ≤ k → k ≤ t → zAt ss j - zAt ss k ≤ dip) ∧ least ≤ zAt ss t - zAt ss f
open Classical in
noncomputable def hillB (ss : List SmpR) (f t : Nat) (least dip : Int) : Bool := decide (HillP ss f t least dip)
theorem hillB_iff {ss : List SmpR} {f t : Nat} {least dip : Int} : hillB ss f t least dip = true ↔ HillP ss f t least dip := by unfold hillB; simp
/-- What the way up from f to t is like, and where it ends. -/
def TopS (ss : List SmpR) (f : Nat) (dip : Int) (t : Nat) : Prop :=
  ∃ s, t < s ∧ s ≤ ss.length ∧ f ≤ t ∧ (∀ j, t < j → j < s → zAt ss j < zAt ss t) ∧ (∀ j, f ≤ j → j < s → zAt ss f ≤ zAt ss j ∧ zAt ss j ≤ zAt ss t) ∧
    (∀ j k, f ≤ j → j ≤ k → k < s → zAt ss j - zAt ss k ≤ dip) ∧ (s = ss.length ∨ zAt ss s < zAt ss f ∨ dip < zAt ss t - zAt ss s)
theorem topG_s {ss : List SmpR} {f : Nat} {dip : Int} : ∀ (n k o : Nat), ss.length ≤ n + k → k ≤ ss.length → f ≤ o → o < k →
    (∀ j, o < j → j < k → zAt ss j < zAt ss o) → (∀ j, f ≤ j → j < k → zAt ss f ≤ zAt ss j ∧ zAt ss j ≤ zAt ss o) → (∀ i j, f ≤ i → i ≤ j → j < k → zAt ss i - zAt ss j ≤ dip) → TopS ss f dip (topG ss f dip n k o)
  | 0, k, o, hn, hk, h1, h2, h3, h4, h5 => ⟨k, h2, hk, h1, h3, h4, h5, .inl (by omega)⟩
  | n + 1, k, o, hn, hk, h1, h2, h3, h4, h5 => by
    by_cases h : k < ss.length ∧ zAt ss f ≤ zAt ss k ∧ zAt ss o - zAt ss k ≤ dip
    · rw [topG_go h]
      obtain ⟨g1, g2, g3⟩ := h
      have hd : ∀ i j, f ≤ i → i ≤ j → j < k + 1 → zAt ss i - zAt ss j ≤ dip ∨ i = j := by
        intro i j a b c
        by_cases hij : i = j
        · exact .inr hij
        · by_cases hjk : j = k
          · subst hjk
            have := h4 i a (by omega)
            exact .inl (by omega)
          · exact .inl (h5 i j a b (by omega))
      have hd0 : 0 ≤ dip := by have := h5 o o h1 (Nat.le_refl _) h2; omega
      have hd' : ∀ i j, f ≤ i → i ≤ j → j < k + 1 → zAt ss i - zAt ss j ≤ dip := fun i j a b c => by
        rcases hd i j a b c with h | h
        · exact h
        · subst h; omega
      by_cases hq : zAt ss o ≤ zAt ss k
      · rw [if_pos hq]
        refine topG_s n (k + 1) k (by omega) (by omega) (by omega) (by omega) (fun j a b => by omega) (fun j a b => ?_) hd'
        by_cases hjk : j = k
        · subst hjk; exact ⟨g2, Int.le_refl _⟩
        · have := h4 j a (by omega); omega
      · rw [if_neg hq]
        refine topG_s n (k + 1) o (by omega) (by omega) (by omega) (by omega) (fun j a b => ?_) (fun j a b => ?_) hd'
        · by_cases hjk : j = k
          · subst hjk; omega
          · exact h3 j a (by omega)
        · by_cases hjk : j = k
          · subst hjk; omega
          · exact h4 j a (by omega)
    · rw [topG_stop h]
      refine ⟨k, h2, hk, h1, h3, h4, h5, ?_⟩
      by_cases a : k < ss.length
      · by_cases b : zAt ss f ≤ zAt ss k
        · by_cases c : zAt ss o - zAt ss k ≤ dip
          · exact absurd ⟨a, b, c⟩ h
          · exact .inr (.inr (by omega))
        · exact .inr (.inl (by omega))
      · exact .inl (by omega)
theorem topR_s {ss : List SmpR} {f : Nat} {dip : Int} (hf : f < ss.length) (hd : 0 ≤ dip) : TopS ss f dip (topR ss f dip) := by
  refine topG_s _ _ _ (by omega) (by omega) (Nat.le_refl _) (by omega) (fun j a b => by omega) (fun j a b => ?_) (fun i j a b c => ?_)
  · have : j = f := by omega
    subst this
    omega
  · have h1 : i = f := by omega
    have h2 : j = f := by omega
    subst i
    subst j
    omega
theorem TopS.hill {ss : List SmpR} {f t : Nat} {least dip : Int} (h : TopS ss f dip t) (hl : least ≤ zAt ss t - zAt ss f) : HillP ss f t least dip := by
  obtain ⟨s, h1, h2, h3, h4, h5, h6, h7⟩ := h
  exact ⟨fun j a b => ⟨(h5 j a (by omega)).1, (h5 j a (by omega)).2, fun k c d => h6 j k a c (by omega)⟩, hl⟩
/-- A hill that begins on the way up lies on it. -/
theorem TopS.cover {ss : List SmpR} {i t f g : Nat} {least dip : Int} (h : TopS ss i dip t) (hi : i ≤ f) (hft : f ≤ t) (hg : g < ss.length) (hh : HillP ss f g least dip) : g ≤ t := by
  obtain ⟨s, h1, h2, h3, h4, h5, h6, h7⟩ := h
  apply Decidable.byContradiction
  intro hlt
  have ht := hh.1 t hft (by omega)
  by_cases hs : g < s
  · have := h4 g (by omega) hs
    omega
  · have hs2 := hh.1 s (by omega) (by omega)
    have h8 := ht.2.2 s (by omega) (by omega)
    have h9 := h5 f hi (by omega)
    omega
theorem hillsG_all {ss : List SmpR} {least dip : Int} (hd : 0 ≤ dip) : ∀ (n i : Nat), ∀ h ∈ hillsG ss least dip n i, ∃ p q : Nat, h = hillAt ss p q ∧ i ≤ p ∧ p ≤ q ∧ q < ss.length ∧ HillP ss p q least dip
  | 0, i, h, hm => by simp [hillsG] at hm
  | n + 1, i, h, hm => by
    by_cases hi : i < ss.length
    · have hb := topR_bd (dip := dip) hi
      by_cases hl : least ≤ zAt ss (topR ss i dip) - zAt ss i
      · rw [hillsG_hill hi hl] at hm
        rcases List.mem_cons.1 hm with rfl | hm
        · exact ⟨i, _, rfl, Nat.le_refl _, hb.1, hb.2, (topR_s hi hd).hill hl⟩
        · obtain ⟨p, q, h1, h2, h3⟩ := hillsG_all hd n _ h hm
          exact ⟨p, q, h1, by omega, h3⟩
      · rw [hillsG_none hi hl] at hm
        obtain ⟨p, q, h1, h2, h3⟩ := hillsG_all hd n _ h hm
        exact ⟨p, q, h1, by omega, h3⟩
    · rw [hillsG_stop hi] at hm; simp at hm
theorem hillsG_seq {ss : List SmpR} {least dip : Int} (hd : 0 ≤ dip) : ∀ (n i j : Nat) (g h : HillR), (hillsG ss least dip n i)[j]? = some g → (hillsG ss least dip n i)[j + 1]? = some h → g.to < h.from_
  | 0, i, j, g, h, hg, _ => by simp [hillsG] at hg
  | n + 1, i, j, g, h, hg, hh => by
    by_cases hi : i < ss.length
    · by_cases hl : least ≤ zAt ss (topR ss i dip) - zAt ss i
      · rw [hillsG_hill hi hl] at hg hh
        cases j with
        | zero =>
          simp at hg hh
          obtain ⟨p, q, rfl, h2, _⟩ := hillsG_all hd n _ h (List.mem_of_getElem? hh)
          subst hg
          show ((topR ss i dip : Nat) : Int) < (p : Int)
          omega
        | succ j => exact hillsG_seq hd n _ j g h (by simpa using hg) (by simpa using hh)
      · rw [hillsG_none hi hl] at hg hh
        exact hillsG_seq hd n _ j g h hg hh
    · rw [hillsG_stop hi] at hg; simp at hg
theorem hillsG_len {ss : List SmpR} {least dip : Int} : ∀ (n i : Nat), (hillsG ss least dip n i).length ≤ ss.length - i
  | 0, i => by simp [hillsG]
  | n + 1, i => by
    by_cases hi : i < ss.length
    · have hb := topR_bd (dip := dip) hi
      by_cases hl : least ≤ zAt ss (topR ss i dip) - zAt ss i
      · rw [hillsG_hill hi hl, List.length_cons]
        have := hillsG_len (ss := ss) (least := least) (dip := dip) n (topR ss i dip + 1)
        omega
      · rw [hillsG_none hi hl]
        have := hillsG_len (ss := ss) (least := least) (dip := dip) n (i + 1)
        omega
    · rw [hillsG_stop hi]; simp
theorem hillsG_cover {ss : List SmpR} {least dip : Int} (hd : 0 ≤ dip) {f g : Nat} (hfg : f ≤ g) (hg : g < ss.length) (hh : HillP ss f g least dip) : ∀ (n i : Nat), ss.length ≤ n + i → i ≤ f → ∃ h ∈ hillsG ss least dip n i, h.from_ ≤ f ∧ (g : Int) ≤ h.to
  | 0, i, hn, hi => by omega
  | n + 1, i, hn, hi => by
    have hil : i < ss.length := by omega
    have hb := topR_bd (dip := dip) hil
    have hT := topR_s hil hd
    by_cases hl : least ≤ zAt ss (topR ss i dip) - zAt ss i
    · rw [hillsG_hill hil hl]
      by_cases hft : f ≤ topR ss i dip
      · have := hT.cover hi hft hg hh
        refine ⟨_, List.mem_cons_self .., ?_, ?_⟩
        · show (i : Int) ≤ f
          omega
        · show (g : Int) ≤ (topR ss i dip : Nat)
          omega
      · obtain ⟨h, h1, h2⟩ := hillsG_cover hd hfg hg hh n (topR ss i dip + 1) (by omega) (by omega)
        exact ⟨h, List.mem_cons_of_mem _ h1, h2⟩
    · rw [hillsG_none hil hl]
      refine hillsG_cover hd hfg hg hh n (i + 1) (by omega) ?_
      apply Decidable.byContradiction
      intro hne
      have hif : i = f := by omega
      subst hif
      have h1 := hT.cover (Nat.le_refl _) hb.1 hg hh
      obtain ⟨s, s1, s2, s3, s4, s5, _⟩ := hT
      have h2 := s5 g hfg (by omega)
      have h3 := hh.2
      omega
theorem hillsR_inv {a : ActD} {l d : Int} (h : (hillsR a l d).2 = 0) : chkA a = 0 ∧ ((1 ≤ l ∧ l ≤ 200000) ∧ (0 ≤ d ∧ d ≤ 200000)) ∧ (hillsR a l d).1 = hillsG a.ss l d a.ss.length 0 := by
  by_cases h1 : chkA a ≠ 0
  · rw [hillsR_e h1] at h; exact absurd h h1
  · have h1 := Decidable.not_not.1 h1
    by_cases h2 : (1 ≤ l ∧ l ≤ 200000) ∧ (0 ≤ d ∧ d ≤ 200000)
    · exact ⟨h1, h2, by rw [hillsR_0 h1 h2]⟩
    · rw [hillsR_9 h1 h2] at h; exact absurd h (by decide)
end Go.Proofs.Ytlbcefnbjdpljaa
