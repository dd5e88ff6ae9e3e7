/-
  Laps: plain part.
-/
import Derived.Test.YtafkojlccknicaaEffRef
import Derived.Test.YtafkojlccknicaaHw
namespace Go.Proofs.Ytafkojlccknicaa
open Go Go.RowKit Hx
set_option linter.unusedVariables false
set_option linter.unusedSimpArgs false
theorem strm_lenL {ss : List SmpR} {st : Int} (h : SmpOk st ss) (kind : Int) : ((strmL kind ss (ss.length - 1)).length : Int) = spanL ss := by
  cases hx : ss[ss.length - 1]? with
  | none =>
    have := List.getElem?_eq_none_iff.1 hx
    have h3 : ss = [] := List.length_eq_zero_iff.1 (by omega)
    subst h3; rfl
  | some x =>
    rw [strmL_len h kind _ _ hx]
    have hlt := (List.getElem?_eq_some_iff.1 hx).1
    rw [spanL_get hx (by omega)]
def eLap (f t : Int) : LapR := ⟨f, t, ⟨#[]⟩⟩
/-- The laps after t seconds, and where the next one begins. -/
def lapsSt (full : Nat → Bool) (span : Nat) : Nat → List LapR × Nat
  | 0 => ([], 0)
  | t + 1 => if full t = true ∨ t + 1 = span then ((lapsSt full span t).1 ++ [eLap (lapsSt full span t).2 ((t : Int) + 1)], t + 1) else lapsSt full span t
section
variable {full : Nat → Bool} {span : Nat}
theorem lapsSt_yes {t : Nat} (h : full t = true ∨ t + 1 = span) : lapsSt full span (t + 1) = ((lapsSt full span t).1 ++ [eLap (lapsSt full span t).2 ((t : Int) + 1)], t + 1) := by rw [lapsSt, if_pos h]
theorem lapsSt_no {t : Nat} (h : ¬(full t = true ∨ t + 1 = span)) : lapsSt full span (t + 1) = lapsSt full span t := by rw [lapsSt, if_neg h]
theorem lapsSt_from : ∀ t, (lapsSt full span t).2 ≤ t
  | 0 => Nat.le_refl _
  | t + 1 => by
    rw [lapsSt]
    split
    · exact Nat.le_refl _
    · have := lapsSt_from t; omega
theorem lapsSt_len : ∀ t, (lapsSt full span t).1.length ≤ t
  | 0 => Nat.le_refl _
  | t + 1 => by
    rw [lapsSt]
    split
    · have := lapsSt_len t; simp; omega
    · have := lapsSt_len t; omega
theorem lapsSt_ahead : ∀ t, t < span → lapsSt full span t = lapsSt full 0 t
  | 0, _ => rfl
  | t + 1, h => by
    rw [lapsSt, lapsSt, lapsSt_ahead t (by omega)]
    by_cases hf : full t = true
    · rw [if_pos (.inl hf), if_pos (.inl hf)]
    · rw [if_neg (by intro h2; rcases h2 with h2 | h2; exact hf h2; omega), if_neg (by intro h2; rcases h2 with h2 | h2; exact hf h2; omega)]
/-- With the tail: as the reference has it. -/
theorem lapsSt_tail : (lapsSt full span span).1 = if (lapsSt full 0 span).2 < span then (lapsSt full 0 span).1 ++ [eLap (lapsSt full 0 span).2 span] else (lapsSt full 0 span).1 := by
  cases span with
  | zero => rfl
  | succ s =>
    rw [lapsSt_yes (.inr rfl), lapsSt_ahead s (by omega)]
    have hf := lapsSt_from (full := full) (span := 0) s
    by_cases h : full s = true
    · rw [lapsSt_yes (span := 0) (.inl h), if_neg (by simp)]
    · rw [lapsSt_no (span := 0) (by intro h2; rcases h2 with h2 | h2; exact h h2; omega), if_pos (by omega)]
      simp
theorem lapsSt_stay {a b : Nat} (hab : a ≤ b) (h : ∀ t, a ≤ t → t < b → ¬(full t = true ∨ t + 1 = span)) : lapsSt full span b = lapsSt full span a := by
  induction b with
  | zero => rw [show a = 0 by omega]
  | succ b ih =>
    by_cases hb : a = b + 1
    · rw [hb]
    · rw [lapsSt_no (h b (by omega) (by omega))]
      exact ih (by omega) (fun t h1 h2 => h t h1 (by omega))
/-- Where a lap must begin. -/
def toAt (l : List LapR) : Nat → Int
  | 0 => 0
  | k + 1 => match l[k]? with | some x => x.to | none => 0
def ChainL (l : List LapR) : Prop := ∀ k x, l[k]? = some x → x.from_ = toAt l k ∧ x.from_ < x.to
theorem toAt_app {l m : List LapR} {k : Nat} (hk : k ≤ l.length) : toAt (l ++ m) k = toAt l k := by
  cases k with
  | zero => rfl
  | succ k => simp only [toAt]; rw [List.getElem?_append_left (by omega)]
theorem toAt_snoc (l : List LapR) (x : LapR) : toAt (l ++ [x]) (l.length + 1) = x.to := by simp [toAt]
theorem toAt_get {l : List LapR} {k : Nat} {x : LapR} (h : l[k]? = some x) : toAt l (k + 1) = x.to := by simp only [toAt]; rw [h]
theorem chainL_snoc {l : List LapR} {x : LapR} (h : ChainL l) (h1 : x.from_ = toAt l l.length) (h2 : x.from_ < x.to) : ChainL (l ++ [x]) := by
  intro k y hy
  have hk := (List.getElem?_eq_some_iff.1 hy).1
  rw [List.length_append, List.length_singleton] at hk
  by_cases hkl : k < l.length
  · rw [List.getElem?_append_left hkl] at hy
    rw [toAt_app (by omega)]
    exact h k y hy
  · have he : k = l.length := by omega
    subst he
    rw [List.getElem?_concat_length] at hy
    cases hy
    rw [toAt_app (Nat.le_refl _)]
    exact ⟨h1, h2⟩
theorem lapsSt_chain : ∀ t, ChainL (lapsSt full span t).1 ∧ toAt (lapsSt full span t).1 (lapsSt full span t).1.length = (lapsSt full span t).2
  | 0 => ⟨fun k x h => by simp [lapsSt] at h, rfl⟩
  | t + 1 => by
    obtain ⟨h1, h2⟩ := lapsSt_chain t
    by_cases h : full t = true ∨ t + 1 = span
    · rw [lapsSt_yes h]
      have hf := lapsSt_from (full := full) (span := span) t
      refine ⟨chainL_snoc h1 h2.symm ?_, ?_⟩
      · show ((lapsSt full span t).2 : Int) < ((t : Int) + 1); omega
      · dsimp only; rw [List.length_append, List.length_singleton, toAt_snoc]; rfl
    · rw [lapsSt_no h]; exact ⟨h1, h2⟩
end
/-- What is there at a place, or 0. -/
def atI (xs : List Int) (k : Nat) : Int := match xs[k]? with | some x => x | none => 0
theorem atI_get {xs : List Int} {k : Nat} {x : Int} (h : xs[k]? = some x) : atI xs k = x := by unfold atI; rw [h]
/-- How far was gone since the last lap. -/
def goneW (xs : List Int) (way : Int) : Nat → Int
  | 0 => 0
  | t + 1 => if goneW xs way t + atI xs t < way then goneW xs way t + atI xs t else 0
def fullW (xs : List Int) (way : Int) (t : Nat) : Bool := decide (¬(goneW xs way t + atI xs t < way))
theorem goneW_bd {xs : List Int} {way : Int} (hw : 1 ≤ way ∧ way ≤ 1000000000) (h : ∀ x ∈ xs, -1 ≤ x) : ∀ t : Nat, -(t : Int) ≤ goneW xs way t ∧ goneW xs way t ≤ 1000000000
  | 0 => by simp [goneW]
  | t + 1 => by
    have h1 := goneW_bd hw h t
    have h2 : -1 ≤ atI xs t := by
      unfold atI
      split
      · rename_i x hx; exact h x (List.mem_of_getElem? hx)
      · omega
    rw [goneW]
    split <;> omega
def fullT (s : Int) (t : Nat) : Bool := decide (((t : Int) + 1) % s = 0)
theorem fullT_step {s span f : Nat} (hs : 1 ≤ s) (hf : f % s = 0) (hlt : f < span) (hst : (lapsSt (fullT s) span f).2 = f) :
    lapsSt (fullT s) span (min (f + s) span) = ((lapsSt (fullT s) span f).1 ++ [eLap f ((min (f + s) span : Nat) : Int)], min (f + s) span) := by
  obtain ⟨m, hm⟩ : ∃ m, m + 1 = min (f + s) span := ⟨min (f + s) span - 1, by omega⟩
  have tm : ∀ t : Nat, fullT s t = decide ((t + 1) % s = 0) := by
    intro t
    unfold fullT
    have e : ((t : Int) + 1) % (s : Int) = (((t + 1) % s : Nat) : Int) := by first | (push_cast; rfl) | simp
    rw [Bool.eq_iff_iff, decide_eq_true_eq, decide_eq_true_eq, e]
    omega
  have h1 : lapsSt (fullT s) span m = lapsSt (fullT s) span f := by
    refine lapsSt_stay (by omega) (fun t a b hh => ?_)
    rcases hh with hh | hh
    · rw [tm, decide_eq_true_eq] at hh
      obtain ⟨q, hq⟩ := Nat.dvd_of_mod_eq_zero hf
      have e1 : t + 1 = s * q + (t + 1 - f) := by omega
      rw [e1, Nat.mul_add_mod, Nat.mod_eq_of_lt (by omega)] at hh
      omega
    · omega
  have e9 : ((min (f + s) span : Nat) : Int) = (m : Int) + 1 := by omega
  rw [e9, ← hm, lapsSt_yes, h1, hst]
  by_cases h2 : m + 1 = span
  · exact .inr h2
  · left
    rw [tm, decide_eq_true_eq, show m + 1 = f + s by omega, Nat.add_mod, hf, Nat.mod_self]
    simp
def manyR (l : List LapR) : List LapR × Int := if 200 < l.length then ([], 3) else (l, 0)
theorem manyR_3 {l : List LapR} (h : 200 < l.length) : manyR l = ([], 3) := if_pos h
theorem manyR_0 {l : List LapR} (h : ¬200 < l.length) : manyR l = (l, 0) := if_neg h
noncomputable def wayS (ss : List SmpR) : List Int := strmL 4 ss (ss.length - 1)
noncomputable def everyWayR (a : ActD) (way : Int) : List LapR × Int :=
  if chkA a ≠ 0 then ([], chkA a) else if ¬(1 ≤ way ∧ way ≤ 1000000000) then ([], 9) else manyR (lapsSt (fullW (wayS a.ss) way) (wayS a.ss).length (wayS a.ss).length).1
theorem everyWayR_e {a : ActD} {way : Int} (h : chkA a ≠ 0) : everyWayR a way = ([], chkA a) := if_pos h
theorem everyWayR_9 {a : ActD} {way : Int} (h : chkA a = 0) (h1 : ¬(1 ≤ way ∧ way ≤ 1000000000)) : everyWayR a way = ([], 9) := by unfold everyWayR; rw [if_neg (by simp [h]), if_pos h1]
theorem everyWayR_0 {a : ActD} {way : Int} (h : chkA a = 0) (h1 : 1 ≤ way ∧ way ≤ 1000000000) : everyWayR a way = manyR (lapsSt (fullW (wayS a.ss) way) (wayS a.ss).length (wayS a.ss).length).1 := by
  unfold everyWayR; rw [if_neg (by simp [h]), if_neg (fun h2 => h2 h1)]
def everyTimeR (a : ActD) (s : Int) : List LapR × Int :=
  if chkA a ≠ 0 then ([], chkA a) else if ¬(1 ≤ s ∧ s ≤ 1000000) then ([], 9) else manyR (lapsSt (fullT s) (spanL a.ss).toNat (spanL a.ss).toNat).1
theorem everyTimeR_e {a : ActD} {s : Int} (h : chkA a ≠ 0) : everyTimeR a s = ([], chkA a) := if_pos h
theorem everyTimeR_9 {a : ActD} {s : Int} (h : chkA a = 0) (h1 : ¬(1 ≤ s ∧ s ≤ 1000000)) : everyTimeR a s = ([], 9) := by unfold everyTimeR; rw [if_neg (by simp [h]), if_pos h1]
theorem everyTimeR_0 {a : ActD} {s : Int} (h : chkA a = 0) (h1 : 1 ≤ s ∧ s ≤ 1000000) : everyTimeR a s = manyR (lapsSt (fullT s) (spanL a.ss).toNat (spanL a.ss).toNat).1 := by
  unfold everyTimeR; rw [if_neg (by simp [h]), if_neg (fun h2 => h2 h1)]
theorem chainL_nil : ChainL [] := fun k x h => by simp at h
theorem chainL_many {l : List LapR} (h : ChainL l) : ChainL (manyR l).1 := by
  unfold manyR; split
  · exact chainL_nil
  · exact h
theorem everyWay_chain (a : ActD) (way : Int) : ChainL (everyWayR a way).1 := by
  unfold everyWayR; split
  · exact chainL_nil
  · split
    · exact chainL_nil
    · exact chainL_many (lapsSt_chain _).1
theorem everyTime_chain (a : ActD) (s : Int) : ChainL (everyTimeR a s).1 := by
  unfold everyTimeR; split
  · exact chainL_nil
  · split
    · exact chainL_nil
    · exact chainL_many (lapsSt_chain _).1
theorem many_len (l : List LapR) : (manyR l).1.length ≤ 200 := by
  unfold manyR; split
  · exact Nat.zero_le _
  · dsimp only; omega
theorem everyWay_len (a : ActD) (way : Int) : (everyWayR a way).1.length ≤ 200 := by
  unfold everyWayR; split
  · exact Nat.zero_le _
  · split
    · exact Nat.zero_le _
    · exact many_len _
theorem everyTime_len (a : ActD) (s : Int) : (everyTimeR a s).1.length ≤ 200 := by
  unfold everyTimeR; split
  · exact Nat.zero_le _
  · split
    · exact Nat.zero_le _
    · exact many_len _
end Go.Proofs.Ytafkojlccknicaa
