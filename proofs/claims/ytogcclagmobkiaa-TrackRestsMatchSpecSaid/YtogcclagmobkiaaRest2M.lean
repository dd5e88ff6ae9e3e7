/-
  Moving: plain part: what is not covered, swept from the left and counted step by step.
-/
import Derived.Test.YtogcclagmobkiaaRestM
namespace Go.Proofs.Ytogcclagmobkiaa
set_option linter.unusedVariables false
set_option linter.unusedSimpArgs false
def sumK (f : Nat → Int) : Nat → Int
  | 0 => 0
  | k + 1 => sumK f k + f k
theorem sumK_congr {f g : Nat → Int} : ∀ {n : Nat}, (∀ k, k < n → f k = g k) → sumK f n = sumK g n
  | 0, _ => rfl
  | n + 1, h => by rw [sumK, sumK, sumK_congr fun k hk => h k (by omega), h n (by omega)]
theorem sumK_add (f g : Nat → Int) : ∀ n, sumK (fun k => f k + g k) n = sumK f n + sumK g n
  | 0 => rfl
  | n + 1 => by rw [sumK, sumK, sumK, sumK_add f g n]; omega
theorem sumK_zero {f : Nat → Int} : ∀ {n : Nat}, (∀ k, k < n → f k = 0) → sumK f n = 0
  | 0, _ => rfl
  | n + 1, h => by rw [sumK, sumK_zero fun k hk => h k (by omega), h n (by omega)]; rfl
theorem sumK_le {f g : Nat → Int} : ∀ {n : Nat}, (∀ k, k < n → f k ≤ g k) → sumK f n ≤ sumK g n
  | 0, _ => Int.le_refl _
  | n + 1, h => by have := sumK_le (f := f) (g := g) (n := n) fun k hk => h k (by omega); have := h n (by omega); rw [sumK, sumK]; omega
theorem sumK_part (a : Nat → Int) (u v : Nat) (huv : u ≤ v) : ∀ N, sumK (fun k => if u ≤ k ∧ k < v then a (k + 1) - a k else 0) N = if N ≤ u then 0 else if N ≤ v then a N - a u else a v - a u
  | 0 => by rw [if_pos (Nat.zero_le _)]; rfl
  | N + 1 => by
    rw [sumK, sumK_part a u v huv N]
    by_cases h1 : N + 1 ≤ u
    · rw [if_pos (by omega), if_neg (by omega), if_pos h1]; rfl
    · by_cases h2 : N + 1 ≤ v
      · rw [if_pos (show u ≤ N ∧ N < v by omega), if_neg h1, if_pos h2]
        by_cases h3 : N ≤ u
        · rw [if_pos h3, show N = u by omega]; omega
        · rw [if_neg h3, if_pos (by omega)]; omega
      · rw [if_neg (show ¬(u ≤ N ∧ N < v) by omega), if_neg h1, if_neg h2]
        by_cases h3 : N ≤ u
        · rw [if_pos h3, show u = v by omega]; omega
        · rw [if_neg h3]
          by_cases h4 : N ≤ v
          · rw [if_pos h4, show N = v by omega]; omega
          · rw [if_neg h4]; omega
theorem sumK_seg (a : Nat → Int) {u v N : Nat} (huv : u ≤ v) (hv : v ≤ N) : sumK (fun k => if u ≤ k ∧ k < v then a (k + 1) - a k else 0) N = a v - a u := by
  rw [sumK_part a u v huv N]
  by_cases h : N ≤ u
  · rw [if_pos h, show u = v by omega]; omega
  · rw [if_neg h]
    by_cases h2 : N ≤ v
    · rw [if_pos h2, show N = v by omega]
    · rw [if_neg h2]
/-- The step that begins at a second is one of a span. -/
def covS (l : List SpanR) (t : Int) : Bool := l.any fun s => decide (s.from_ ≤ t ∧ t ≤ s.to)
theorem covS_iff {l : List SpanR} {t : Int} : covS l t = true ↔ ∃ s ∈ l, s.from_ ≤ t ∧ t ≤ s.to := by unfold covS; simp
theorem covS_append (l m : List SpanR) (t : Int) : covS (l ++ m) t = (covS l t || covS m t) := by unfold covS; rw [List.any_append]
theorem covS_perm {l m : List SpanR} (h : l.Perm m) (t : Int) : covS l t = covS m t := by
  rw [Bool.eq_iff_iff, covS_iff, covS_iff]
  exact ⟨fun ⟨s, hs, h1⟩ => ⟨s, h.mem_iff.1 hs, h1⟩, fun ⟨s, hs, h1⟩ => ⟨s, h.mem_iff.2 hs, h1⟩⟩
/-- The seconds of the first steps that no span has. -/
def uncS (a : Nat → Int) (l : List SpanR) (N : Nat) : Int := sumK (fun k => if covS l (a k) = true then 0 else a (k + 1) - a k) N
theorem uncS_succ (a : Nat → Int) (l : List SpanR) (N : Nat) : uncS a l (N + 1) = uncS a l N + if covS l (a N) = true then 0 else a (N + 1) - a N := rfl
theorem uncS_nil (a : Nat → Int) : ∀ N, uncS a [] N = a N - a 0
  | 0 => by unfold uncS; rw [sumK]; omega
  | N + 1 => by rw [uncS_succ, uncS_nil a N]; simp [covS]; omega
theorem uncS_perm {a : Nat → Int} {l m : List SpanR} (h : l.Perm m) (N : Nat) : uncS a l N = uncS a m N := sumK_congr fun k _ => by rw [covS_perm h]
/-- Spans of whole steps. -/
def OfS (a : Nat → Int) (N : Nat) (s : SpanR) : Prop := ∃ u v, u < v ∧ v ≤ N ∧ s.from_ = a u ∧ s.to = a v - 1
structure RiseN (a : Nat → Int) (N : Nat) : Prop where
  up : ∀ i j, i < j → j ≤ N → a i < a j
theorem RiseN.le {a : Nat → Int} {N : Nat} (h : RiseN a N) {i j : Nat} (hij : i ≤ j) (hj : j ≤ N) : a i ≤ a j := by
  by_cases e : i = j
  · subst e; exact Int.le_refl _
  · exact Int.le_of_lt (h.up i j (by omega) hj)
theorem RiseN.back {a : Nat → Int} {N : Nat} (h : RiseN a N) {i j : Nat} (hi : i ≤ N) (hj : j ≤ N) (hl : a i < a j) : i < j := by
  by_cases e : i < j
  · exact e
  · have := h.le (i := j) (j := i) (by omega) hi; omega
theorem RiseN.backle {a : Nat → Int} {N : Nat} (h : RiseN a N) {i j : Nat} (hi : i ≤ N) (hj : j ≤ N) (hl : a i ≤ a j) : i ≤ j := by
  by_cases e : i ≤ j
  · exact e
  · have := h.up j i (by omega) hi; omega
/-- The sweep: what is known when the spans up to here were taken. -/
structure Swp (a : Nat → Int) (N : Nat) (pre : List SpanR) (n e : Int) : Prop where
  cnt : n = uncS a pre N
  at_ : ∃ v, v ≤ N ∧ e = a v
  top : ∀ s ∈ pre, s.to < e
  got : e = a 0 ∨ ∃ s ∈ pre, s.to + 1 = e
theorem Swp.start {a : Nat → Int} {N : Nat} {n : Int} (hn : n = a N - a 0) : Swp a N [] n (a 0) :=
  ⟨by rw [uncS_nil]; exact hn, ⟨0, Nat.zero_le _, rfl⟩, fun s h => (by cases h), .inl rfl⟩
theorem Swp.skip {a : Nat → Int} {N : Nat} {pre : List SpanR} {n e : Int} {s : SpanR} (h : Swp a N pre n e) (hr : RiseN a N) (ho : OfS a N s) (hord : ∀ t ∈ pre, t.from_ ≤ s.from_) (hs : s.to < e) : Swp a N (pre ++ [s]) n e := by
  refine ⟨?_, h.at_, fun t ht => ?_, ?_⟩
  · rw [h.cnt]
    refine sumK_congr fun k hk => ?_
    rw [covS_append]
    cases hc : covS [s] (a k) with
    | false => rw [Bool.or_false]
    | true =>
      obtain ⟨t, ht, h1, h2⟩ := covS_iff.1 hc
      rw [List.mem_singleton] at ht; subst ht
      have : covS pre (a k) = true := by
        rcases h.got with h3 | ⟨p, hp, h3⟩
        · obtain ⟨u, v, h4, h5, h6, h7⟩ := ho
          have := hr.le (i := 0) (j := k) (Nat.zero_le _) (by omega)
          omega
        · exact covS_iff.2 ⟨p, hp, by have := hord p hp; omega, by omega⟩
      rw [this]; rfl
  · rcases List.mem_append.1 ht with h1 | h1
    · exact h.top t h1
    · rw [List.mem_singleton] at h1; subst h1; exact hs
  · rcases h.got with h3 | ⟨p, hp, h3⟩
    · exact .inl h3
    · exact .inr ⟨p, List.mem_append_left _ hp, h3⟩
theorem Swp.take {a : Nat → Int} {N : Nat} {pre : List SpanR} {n e : Int} {s : SpanR} (h : Swp a N pre n e) (hr : RiseN a N) (ho : OfS a N s) (hord : ∀ t ∈ pre, t.from_ ≤ s.from_) (hs : e ≤ s.to) : Swp a N (pre ++ [s]) (n - (s.to + 1 - max s.from_ e)) (s.to + 1) := by
  obtain ⟨u, v, h4, h5, h6, h7⟩ := ho
  obtain ⟨w, h8, h9⟩ := h.at_
  have hmax : ∃ m, m ≤ v ∧ max s.from_ e = a m := by
    by_cases h10 : s.from_ ≤ e
    · refine ⟨w, ?_, by omega⟩
      have := hr.back (i := w) (j := v) (by omega) h5 (by omega)
      omega
    · exact ⟨u, by omega, by omega⟩
  obtain ⟨m, hm, he⟩ := hmax
  refine ⟨?_, ⟨v, h5, by omega⟩, fun t ht => ?_, .inr ⟨s, by simp, rfl⟩⟩
  · rw [h.cnt, he, h7]
    have hseg := sumK_seg a hm h5
    have hsum : uncS a pre N = uncS a (pre ++ [s]) N + sumK (fun k => if m ≤ k ∧ k < v then a (k + 1) - a k else 0) N := by
      unfold uncS
      rw [← sumK_add]
      refine sumK_congr fun k hk => ?_
      rw [covS_append]
      have hcs : covS [s] (a k) = true ↔ s.from_ ≤ a k ∧ a k ≤ s.to := by rw [covS_iff]; simp
      by_cases h10 : m ≤ k ∧ k < v
      · have g1 := hr.le (i := m) (j := k) h10.1 (by omega)
        have g2 := hr.up k v h10.2 h5
        have c1 : covS [s] (a k) = true := hcs.2 ⟨by omega, by omega⟩
        have c2 : ¬covS pre (a k) = true := fun hc => by
          obtain ⟨t, ht, h11, h12⟩ := covS_iff.1 hc
          have := h.top t ht
          omega
        rw [if_neg c2, if_pos h10, c1, Bool.or_true, if_pos rfl]; omega
      · rw [if_neg h10]
        cases hc : covS [s] (a k) with
        | false => rw [Bool.or_false]; omega
        | true =>
          obtain ⟨h11, h12⟩ := hcs.1 hc
          have hkv := hr.back (i := k) (j := v) (by omega) h5 (by omega)
          have hkm : k < m := by omega
          have hlt := hr.up k m hkm (by omega)
          have : covS pre (a k) = true := by
            rcases h.got with h3 | ⟨p, hp, h3⟩
            · have := hr.le (i := 0) (j := k) (Nat.zero_le _) (by omega)
              omega
            · exact covS_iff.2 ⟨p, hp, by have := hord p hp; omega, by omega⟩
          rw [this]; rfl
    omega
  · rcases List.mem_append.1 ht with h1 | h1
    · have := h.top t h1; omega
    · rw [List.mem_singleton] at h1; subst h1; omega
theorem uncS_bd {a : Nat → Int} {N : Nat} (hr : RiseN a N) (l : List SpanR) : ∀ K, K ≤ N → 0 ≤ uncS a l K ∧ uncS a l K ≤ a K - a 0
  | 0, _ => by unfold uncS; rw [sumK]; omega
  | K + 1, h => by
    have ih := uncS_bd hr l K (by omega)
    have := hr.up K (K + 1) (Nat.lt_succ_self _) h
    rw [uncS_succ]
    split <;> omega
/-- The place of the first span that does not end before a second. -/
structure PlS (l : List SpanR) (i : Nat) (t : Int) : Prop where
  le : i ≤ l.length
  low : ∀ j s, j < i → l[j]? = some s → s.to < t
theorem PlS.cov {l : List SpanR} {i : Nat} {t : Int} (h : PlS l i t) (hord : ∀ (j k : Nat) (s u : SpanR), j < k → l[j]? = some s → l[k]? = some u → s.from_ ≤ u.from_) (hi : i = l.length ∨ ∃ s, l[i]? = some s ∧ t ≤ s.to) :
    (i = l.length ∨ ∃ s, l[i]? = some s ∧ t < s.from_) ↔ ¬covS l t = true := by
  constructor
  · intro h1 hc
    obtain ⟨s, hs, h2, h3⟩ := covS_iff.1 hc
    obtain ⟨j, hj⟩ := List.mem_iff_getElem?.1 hs
    have hjl := (List.getElem?_eq_some_iff.1 hj).1
    have hji : ¬j < i := fun hlt => by have := h.low j s hlt hj; omega
    rcases h1 with h1 | ⟨u, hu, h4⟩
    · omega
    · by_cases e : i = j
      · subst e; rw [hu] at hj; cases hj; omega
      · have := hord i j u s (by omega) hu hj; omega
  · intro hn
    rcases hi with hi | ⟨s, hs, h1⟩
    · exact .inl hi
    · refine .inr ⟨s, hs, ?_⟩
      by_cases h2 : t < s.from_
      · exact h2
      · exact absurd (covS_iff.2 ⟨s, List.mem_of_getElem? hs, by omega, h1⟩) hn
end Go.Proofs.Ytogcclagmobkiaa
