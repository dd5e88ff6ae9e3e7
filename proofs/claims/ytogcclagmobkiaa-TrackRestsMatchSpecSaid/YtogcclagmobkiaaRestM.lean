/-
  Idle, Still and Moving: plain part.
-/
import Derived.Test.YtogcclagmobkiaaWaysM
namespace Go.Proofs.Ytogcclagmobkiaa
set_option linter.unusedVariables false
set_option linter.unusedSimpArgs false
structure SpanR where
  from_ : Int
  to : Int
deriving DecidableEq
def atN (ss : List SmpR) (k : Nat) : Int := match ss[k]? with | some x => x.at_ | none => 0
theorem atN_get {ss : List SmpR} {k : Nat} {x : SmpR} (h : ss[k]? = some x) : atN ss k = x.at_ := by unfold atN; rw [h]
/-- Rows of steps that are marked, by places. -/
def rowsK (m : Nat → Bool) : Nat → List (Nat × Nat)
  | 0 => []
  | k + 1 => if m k = true then (match (rowsK m k)[(rowsK m k).length - 1]? with
      | some p => if p.2 = k then (rowsK m k).set ((rowsK m k).length - 1) (p.1, k + 1) else rowsK m k ++ [(k, k + 1)]
      | none => rowsK m k ++ [(k, k + 1)]) else rowsK m k
theorem rowsK_no {m : Nat → Bool} {k : Nat} (h : ¬m k = true) : rowsK m (k + 1) = rowsK m k := by rw [rowsK, if_neg h]
theorem rowsK_put {m : Nat → Bool} {k : Nat} {p : Nat × Nat} (h : m k = true) (hp : (rowsK m k)[(rowsK m k).length - 1]? = some p) (hk : p.2 = k) : rowsK m (k + 1) = (rowsK m k).set ((rowsK m k).length - 1) (p.1, k + 1) := by
  rw [rowsK, if_pos h, hp]; exact if_pos hk
theorem rowsK_new {m : Nat → Bool} {k : Nat} {p : Nat × Nat} (h : m k = true) (hp : (rowsK m k)[(rowsK m k).length - 1]? = some p) (hk : p.2 ≠ k) : rowsK m (k + 1) = rowsK m k ++ [(k, k + 1)] := by
  rw [rowsK, if_pos h, hp]; exact if_neg hk
theorem rowsK_one {m : Nat → Bool} {k : Nat} (h : m k = true) (hp : (rowsK m k).length = 0) : rowsK m (k + 1) = rowsK m k ++ [(k, k + 1)] := by
  rw [rowsK, if_pos h, List.getElem?_eq_none (by omega)]
/-- What rows are. -/
structure RowI (m : Nat → Bool) (k : Nat) (R : List (Nat × Nat)) : Prop where
  one : ∀ (i : Nat) (p : Nat × Nat), R[i]? = some p → p.1 < p.2 ∧ p.2 ≤ k ∧ ∀ j, p.1 ≤ j → j < p.2 → m j = true
  ord : ∀ (i j : Nat) (p q : Nat × Nat), i < j → R[i]? = some p → R[j]? = some q → p.2 < q.1
  cov : ∀ j, j < k → m j = true → ∃ (i : Nat) (p : Nat × Nat), R[i]? = some p ∧ p.1 ≤ j ∧ j < p.2
theorem rowI (m : Nat → Bool) : ∀ k, RowI m k (rowsK m k)
  | 0 => ⟨fun i p h => by simp [rowsK] at h, fun i j p q _ h => by simp [rowsK] at h, fun j h => by omega⟩
  | k + 1 => by
    have ih := rowI m k
    by_cases h : m k = true
    · -- a new row
      have new : (∀ (i : Nat) (p : Nat × Nat), (rowsK m k)[i]? = some p → p.2 < k) → rowsK m (k + 1) = rowsK m k ++ [(k, k + 1)] → RowI m (k + 1) (rowsK m (k + 1)) := by
        intro hlt e
        rw [e]
        have hg : ∀ (i : Nat) (p : Nat × Nat), (rowsK m k ++ [(k, k + 1)])[i]? = some p → (rowsK m k)[i]? = some p ∨ (i = (rowsK m k).length ∧ p = (k, k + 1)) := by
          intro i p hp
          rw [List.getElem?_append] at hp
          split at hp
          · exact .inl hp
          · rename_i h1
            cases h2 : i - (rowsK m k).length with
            | zero => rw [h2] at hp; simp at hp; exact .inr ⟨by omega, hp.symm⟩
            | succ n => rw [h2] at hp; simp at hp
        refine ⟨fun i p hp => ?_, fun i j p q hij hp hq => ?_, fun j hj hm => ?_⟩
        · rcases hg i p hp with h1 | ⟨_, rfl⟩
          · obtain ⟨a, b, c⟩ := ih.one i p h1; exact ⟨a, by omega, c⟩
          · exact ⟨Nat.lt_succ_self _, Nat.le_refl _, fun j h1 h2 => by rw [show j = k by dsimp only at h1 h2; omega]; exact h⟩
        · rcases hg j q hq with h2 | ⟨h2, rfl⟩
          · rcases hg i p hp with h1 | ⟨h1, rfl⟩
            · exact ih.ord i j p q hij h1 h2
            · have := (List.getElem?_eq_some_iff.1 h2).1; omega
          · rcases hg i p hp with h1 | ⟨h1, rfl⟩
            · exact hlt i p h1
            · omega
        · by_cases hjk : j = k
          · subst hjk; exact ⟨(rowsK m j).length, (j, j + 1), by simp, Nat.le_refl _, Nat.lt_succ_self _⟩
          · obtain ⟨i, p, h1, h2, h3⟩ := ih.cov j (by omega) hm
            exact ⟨i, p, by rw [List.getElem?_append_left (List.getElem?_eq_some_iff.1 h1).1]; exact h1, h2, h3⟩
      cases hp : (rowsK m k)[(rowsK m k).length - 1]? with
      | none =>
        have hl : (rowsK m k).length = 0 := by have := List.getElem?_eq_none_iff.1 hp; omega
        exact new (fun i p h1 => by have := (List.getElem?_eq_some_iff.1 h1).1; omega) (rowsK_one h hl)
      | some p =>
        have hpl := (List.getElem?_eq_some_iff.1 hp).1
        by_cases hk : p.2 = k
        · have e := rowsK_put h hp hk
          rw [e]
          have hg : ∀ (i : Nat) (q : Nat × Nat), ((rowsK m k).set ((rowsK m k).length - 1) (p.1, k + 1))[i]? = some q → (i < (rowsK m k).length - 1 ∧ (rowsK m k)[i]? = some q) ∨ (i = (rowsK m k).length - 1 ∧ q = (p.1, k + 1)) := by
            intro i q hq
            have hlt := (List.getElem?_eq_some_iff.1 hq).1
            rw [List.length_set] at hlt
            by_cases h1 : i = (rowsK m k).length - 1
            · rw [h1, List.getElem?_set_self hpl] at hq
              exact .inr ⟨h1, (Option.some.inj hq).symm⟩
            · rw [List.getElem?_set_ne (by omega)] at hq
              exact .inl ⟨by omega, hq⟩
          obtain ⟨o1, o2, o3⟩ := ih.one _ p hp
          refine ⟨fun i q hq => ?_, fun i j q r hij hq hr => ?_, fun j hj hm => ?_⟩
          · rcases hg i q hq with ⟨_, h1⟩ | ⟨_, rfl⟩
            · obtain ⟨a, b, c⟩ := ih.one i q h1; exact ⟨a, by omega, c⟩
            · refine ⟨by dsimp only; omega, Nat.le_refl _, fun j h1 h2 => ?_⟩
              dsimp only at h1 h2
              by_cases hjk : j = k
              · rw [hjk]; exact h
              · exact o3 j h1 (by omega)
          · rcases hg j r hr with ⟨h2, h2'⟩ | ⟨h2, rfl⟩
            · rcases hg i q hq with ⟨_, h1⟩ | ⟨h1, rfl⟩
              · exact ih.ord i j q r hij h1 h2'
              · omega
            · rcases hg i q hq with ⟨h3, h1⟩ | ⟨h1, rfl⟩
              · exact ih.ord i _ q p h3 h1 hp
              · omega
          · by_cases hjk : j = k
            · subst hjk
              exact ⟨(rowsK m j).length - 1, (p.1, j + 1), List.getElem?_set_self hpl, by dsimp only; omega, Nat.lt_succ_self _⟩
            · obtain ⟨i, q, h1, h2, h3⟩ := ih.cov j (by omega) hm
              by_cases hi : i = (rowsK m k).length - 1
              · rw [hi, hp] at h1; cases h1
                exact ⟨(rowsK m k).length - 1, (p.1, k + 1), List.getElem?_set_self hpl, h2, by dsimp only; omega⟩
              · exact ⟨i, q, by rw [List.getElem?_set_ne (by omega)]; exact h1, h2, h3⟩
        · refine new (fun i q h1 => ?_) (rowsK_new h hp hk)
          have hlt := (List.getElem?_eq_some_iff.1 h1).1
          have := (ih.one _ p hp).2.1
          by_cases hi : i = (rowsK m k).length - 1
          · rw [hi, hp] at h1; cases h1; omega
          · have h2 := ih.ord i _ q p (by omega) h1 hp
            have := (ih.one _ p hp).1
            omega
    · rw [rowsK_no h]
      refine ⟨fun i p hp => ?_, ih.ord, fun j hj hm => ?_⟩
      · obtain ⟨a, b, c⟩ := ih.one i p hp; exact ⟨a, by omega, c⟩
      · by_cases hjk : j = k
        · subst hjk; exact absurd hm h
        · exact ih.cov j (by omega) hm
def spanO (ss : List SmpR) (p : Nat × Nat) : SpanR := ⟨atN ss p.1, atN ss p.2 - 1⟩
def rowsS (ss : List SmpR) (m : Nat → Bool) (k : Nat) : List SpanR := (rowsK m k).map (spanO ss)
def least (n : Int) (s : SpanR) : Bool := decide (n ≤ s.to - s.from_ + 1)
theorem rowsS_len (ss : List SmpR) (m : Nat → Bool) (k : Nat) : (rowsS ss m k).length = (rowsK m k).length := List.length_map _
theorem rowsS_get {ss : List SmpR} {m : Nat → Bool} {k i : Nat} {s : SpanR} (h : (rowsS ss m k)[i]? = some s) : ∃ p, (rowsK m k)[i]? = some p ∧ s = spanO ss p := by
  unfold rowsS at h
  rw [List.getElem?_map] at h
  cases hp : (rowsK m k)[i]? with
  | none => rw [hp] at h; cases h
  | some p => rw [hp] at h; exact ⟨p, rfl, (Option.some.inj h).symm⟩
end Go.Proofs.Ytogcclagmobkiaa
