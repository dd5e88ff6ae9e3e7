/-
  Rows of steps, as the program and the reference make them.
-/
import Derived.Test.YtogcclagmobkiaaRest2M
namespace Go.Proofs.Ytogcclagmobkiaa
set_option linter.unusedVariables false
set_option linter.unusedSimpArgs false
theorem rise_far {st : Int} {ss : List SmpR} (h : SmpOk st ss) : ∀ (d i : Nat) (x y : SmpR), ss[i]? = some x → ss[i + d + 1]? = some y → x.at_ < y.at_
  | 0, i, x, y, hx, hy => h.rise i x y hx hy
  | d + 1, i, x, y, hx, hy => by
    have hlt : i + d + 1 < ss.length := by have := (List.getElem?_eq_some_iff.1 hy).1; omega
    have hz := List.getElem?_eq_getElem hlt
    have h1 := rise_far h d i x _ hx hz
    have h2 := h.rise _ _ _ hz (by rw [show i + d + 1 + 1 = i + (d + 1) + 1 by omega]; exact hy)
    omega
theorem riseN {st : Int} {ss : List SmpR} (h : SmpOk st ss) : RiseN (atN ss) (ss.length - 1) := by
  refine ⟨fun i j hij hj => ?_⟩
  have hi := List.getElem?_eq_getElem (l := ss) (i := i) (by omega)
  have hj2 := List.getElem?_eq_getElem (l := ss) (i := j) (by omega)
  rw [atN_get hi, atN_get hj2]
  exact rise_far h (j - i - 1) i _ _ hi (by rw [show i + (j - i - 1) + 1 = j by omega]; exact hj2)
theorem atN_bd {st : Int} {ss : List SmpR} (h : SmpOk st ss) (k : Nat) : 0 ≤ atN ss k ∧ atN ss k ≤ 1000000 := by
  unfold atN
  cases hx : ss[k]? with
  | none => exact ⟨Int.le_refl _, by show (0 : Int) ≤ 1000000; omega⟩
  | some x => have := h.bd x (List.mem_of_getElem? hx); exact ⟨this.1, this.2.1⟩
theorem atN_zero {st : Int} {ss : List SmpR} (h : SmpOk st ss) : atN ss 0 = 0 := by
  unfold atN
  cases hx : ss[0]? with
  | none => rfl
  | some x => exact h.first x hx
theorem atN_last (ss : List SmpR) : atN ss (ss.length - 1) = spanL ss := rfl
theorem rowsS_put {ss : List SmpR} {m : Nat → Bool} {k : Nat} {p : Nat × Nat} {x : SmpR} (h : m k = true) (hp : (rowsK m k)[(rowsK m k).length - 1]? = some p) (hk : p.2 = k) (hx : ss[k + 1]? = some x) : rowsS ss m (k + 1) = (rowsS ss m k).set ((rowsK m k).length - 1) ⟨atN ss p.1, x.at_ - 1⟩ := by
  unfold rowsS
  rw [rowsK_put h hp hk, List.map_set]
  unfold spanO
  rw [atN_get hx]
theorem rowsS_new {ss : List SmpR} {m : Nat → Bool} {k : Nat} {x y : SmpR} (h : m k = true) (hno : ∀ p, (rowsK m k)[(rowsK m k).length - 1]? = some p → p.2 ≠ k) (hx : ss[k]? = some x) (hy : ss[k + 1]? = some y) : rowsS ss m (k + 1) = rowsS ss m k ++ [⟨x.at_, y.at_ - 1⟩] := by
  have e : rowsK m (k + 1) = rowsK m k ++ [(k, k + 1)] := by
    cases hp : (rowsK m k)[(rowsK m k).length - 1]? with
    | none => exact rowsK_one h (by have := List.getElem?_eq_none_iff.1 hp; omega)
    | some p => exact rowsK_new h hp (hno p hp)
  unfold rowsS
  rw [e, List.map_append]
  unfold spanO
  rw [List.map_cons, List.map_nil, atN_get hx, atN_get hy]
theorem rowsK_len_put {m : Nat → Bool} {k : Nat} {p : Nat × Nat} (h : m k = true) (hp : (rowsK m k)[(rowsK m k).length - 1]? = some p) (hk : p.2 = k) : (rowsK m (k + 1)).length = (rowsK m k).length := by
  rw [rowsK_put h hp hk, List.length_set]
theorem rowsK_len_new {m : Nat → Bool} {k : Nat} (h : m k = true) (hno : ∀ p, (rowsK m k)[(rowsK m k).length - 1]? = some p → p.2 ≠ k) : (rowsK m (k + 1)).length = (rowsK m k).length + 1 := by
  have e : rowsK m (k + 1) = rowsK m k ++ [(k, k + 1)] := by
    cases hp : (rowsK m k)[(rowsK m k).length - 1]? with
    | none => exact rowsK_one h (by have := List.getElem?_eq_none_iff.1 hp; omega)
    | some p => exact rowsK_new h hp (hno p hp)
  rw [e, List.length_append]; rfl
theorem rowsK_le (m : Nat → Bool) : ∀ k, (rowsK m k).length ≤ k
  | 0 => Nat.le_refl _
  | k + 1 => by
    have := rowsK_le m k
    by_cases h : m k = true
    · rw [rowsK, if_pos h]
      split
      · split
        · rw [List.length_set]; omega
        · rw [List.length_append]; show _ + 1 ≤ _; omega
      · rw [List.length_append]; show _ + 1 ≤ _; omega
    · rw [rowsK_no h]; omega
/-- What rows gives. -/
def rowsR (ss : List SmpR) (m : Nat → Bool) (l : Int) : List SpanR := (rowsS ss m (ss.length - 1)).filter fun s => !decide (s.to - s.from_ + 1 < l)
theorem rowsR_of {ss : List SmpR} {m : Nat → Bool} {l : Int} {s : SpanR} (h : s ∈ rowsR ss m l) : OfS (atN ss) (ss.length - 1) s := by
  have h1 := (List.mem_filter.1 h).1
  obtain ⟨i, hi⟩ := List.mem_iff_getElem?.1 h1
  obtain ⟨p, hp, rfl⟩ := rowsS_get hi
  have := (rowI m (ss.length - 1)).one i p hp
  exact ⟨p.1, p.2, this.1, this.2.1, rfl, rfl⟩
theorem rowsR_len (ss : List SmpR) (m : Nat → Bool) (l : Int) : (rowsR ss m l).length ≤ ss.length - 1 := by
  have h1 := List.length_filter_le (fun s : SpanR => !decide (s.to - s.from_ + 1 < l)) (rowsS ss m (ss.length - 1))
  have h2 := rowsK_le m (ss.length - 1)
  rw [rowsS_len] at h1
  unfold rowsR; omega
/-- A row that begins at i and has steps up to j. -/
theorem rowsK_run {m : Nat → Bool} {i : Nat} (hc : ∀ p, (rowsK m i)[(rowsK m i).length - 1]? = some p → p.2 ≠ i) : ∀ {d : Nat}, (∀ t, i ≤ t → t ≤ i + d → m t = true) → rowsK m (i + d + 1) = rowsK m i ++ [(i, i + d + 1)]
  | 0, h => by
    have hm := h i (Nat.le_refl _) (by omega)
    cases hp : (rowsK m i)[(rowsK m i).length - 1]? with
    | none => exact rowsK_one hm (by have := List.getElem?_eq_none_iff.1 hp; omega)
    | some p => exact rowsK_new hm hp (hc p hp)
  | d + 1, h => by
    have ih := rowsK_run hc (d := d) fun t h1 h2 => h t h1 (by omega)
    have hm := h (i + d + 1) (by omega) (by omega)
    have hl : (rowsK m (i + d + 1)).length - 1 = (rowsK m i).length := by rw [ih, List.length_append]; rfl
    have hp : (rowsK m (i + d + 1))[(rowsK m (i + d + 1)).length - 1]? = some (i, i + d + 1) := by rw [hl, ih]; simp
    have e := rowsK_put (k := i + d + 1) hm hp rfl
    rw [show i + (d + 1) + 1 = i + d + 1 + 1 by omega, e, hl, ih]
    simp
/-- Behind what has no mark a new row begins. -/
theorem closed_next {m : Nat → Bool} {i : Nat} (h : ¬m i = true) : ∀ p, (rowsK m (i + 1))[(rowsK m (i + 1)).length - 1]? = some p → p.2 ≠ i + 1 := by
  intro p hp
  rw [rowsK_no h] at hp
  have := (rowI m i).one _ p hp
  omega
/-- What the reference has taken, up to step i. -/
def takeS (ss : List SmpR) (m : Nat → Bool) (l : Int) (i : Nat) : List SpanR := (rowsS ss m i).filter fun s => !decide (s.to - s.from_ + 1 < l)
theorem takeS_no {ss : List SmpR} {m : Nat → Bool} {l : Int} {i : Nat} (h : ¬m i = true) : takeS ss m l (i + 1) = takeS ss m l i := by unfold takeS rowsS; rw [rowsK_no h]
theorem takeS_run {ss : List SmpR} {m : Nat → Bool} {l : Int} {i d : Nat} (hc : ∀ p, (rowsK m i)[(rowsK m i).length - 1]? = some p → p.2 ≠ i) (h : ∀ t, i ≤ t → t ≤ i + d → m t = true) {s : SpanR} (hs : s = ⟨atN ss i, atN ss (i + d + 1) - 1⟩) :
    takeS ss m l (i + d + 1) = if s.to - s.from_ + 1 ≥ l then takeS ss m l i ++ [s] else takeS ss m l i := by
  unfold takeS rowsS
  rw [rowsK_run hc h, List.map_append, List.filter_append]
  subst hs
  by_cases h1 : (⟨atN ss i, atN ss (i + d + 1) - 1⟩ : SpanR).to - (⟨atN ss i, atN ss (i + d + 1) - 1⟩ : SpanR).from_ + 1 ≥ l
  · rw [if_pos h1]
    congr 1
    simp only [List.map_cons, List.map_nil]
    rw [List.filter_cons_of_pos (by
      dsimp only at h1
      have e1 : ¬(atN ss (i + d + 1) - 1 - atN ss i + 1 < l) := by omega
      show (!decide (atN ss (i + d + 1) - 1 - atN ss i + 1 < l)) = true
      rw [decide_eq_false e1]; rfl)]
    rfl
  · rw [if_neg h1]
    simp only [List.map_cons, List.map_nil]
    rw [List.filter_cons_of_neg (by
      dsimp only at h1
      have e1 : atN ss (i + d + 1) - 1 - atN ss i + 1 < l := by omega
      show ¬(!decide (atN ss (i + d + 1) - 1 - atN ss i + 1 < l)) = true
      rw [decide_eq_true e1]; decide)]
    simp
theorem rowsR_take (ss : List SmpR) (m : Nat → Bool) (l : Int) : rowsR ss m l = takeS ss m l (ss.length - 1) := rfl
theorem takeS_len (ss : List SmpR) (m : Nat → Bool) (l : Int) (i : Nat) : (takeS ss m l i).length ≤ i := by
  have h1 := List.length_filter_le (fun s : SpanR => !decide (s.to - s.from_ + 1 < l)) (rowsS ss m i)
  have h2 := rowsK_le m i
  rw [rowsS_len] at h1
  unfold takeS; omega
theorem filter_0_1 {st : Int} {ss : List SmpR} (h : SmpOk st ss) (m : Nat → Bool) : rowsR ss m 1 = rowsR ss m 0 := by
  unfold rowsR
  refine List.filter_congr fun s hs => ?_
  obtain ⟨i, hi⟩ := List.mem_iff_getElem?.1 hs
  obtain ⟨p, hp, rfl⟩ := rowsS_get hi
  have h1 := (rowI m (ss.length - 1)).one i p hp
  have h2 := (riseN h).up p.1 p.2 h1.1 h1.2.1
  have e1 : ¬(atN ss p.2 - 1 - atN ss p.1 + 1 < 1) := by omega
  have e2 : ¬(atN ss p.2 - 1 - atN ss p.1 + 1 < 0) := by omega
  show (!decide (atN ss p.2 - 1 - atN ss p.1 + 1 < 1)) = !decide (atN ss p.2 - 1 - atN ss p.1 + 1 < 0)
  rw [decide_eq_false e1, decide_eq_false e2]
end Go.Proofs.Ytogcclagmobkiaa
