/-
  Quotients that are rounded up, and splits: plain part.
-/
import Derived.Test.YtogcclagmobkiaaWaysM
namespace Go.Proofs.Ytogcclagmobkiaa
open Go Go.RowKit Hx
set_option linter.unusedVariables false
set_option linter.unusedSimpArgs false
/-- A quotient, rounded up. -/
def upD (x d : Int) : Int := (x + d - 1) / d
theorem upD_eq {x d : Int} (hd : 1 ≤ d) : x / d + (if 0 < x % d then 1 else 0) = upD x d := by
  unfold upD
  have h1 := Int.emod_nonneg x (show d ≠ 0 by omega)
  have h2 := Int.emod_lt_of_pos x (show 0 < d by omega)
  have h3 := Int.mul_ediv_add_emod x d
  split
  · have e : x + d - 1 = (x % d - 1) + d * (x / d + 1) := by rw [Int.mul_add]; omega
    have e0 : (x % d - 1) / d = 0 := Int.ediv_eq_zero_of_lt (by omega) (by omega)
    rw [e, Int.add_mul_ediv_left _ _ (show d ≠ 0 by omega), e0]; omega
  · have e : x + d - 1 = (d - 1) + d * (x / d) := by omega
    have e0 : (d - 1) / d = 0 := Int.ediv_eq_zero_of_lt (by omega) (by omega)
    rw [e, Int.add_mul_ediv_left _ _ (show d ≠ 0 by omega), e0]; omega
theorem upD_mono {x y d : Int} (hd : 1 ≤ d) (h : x ≤ y) : upD x d ≤ upD y d := Int.ediv_le_ediv (by omega) (by omega)
theorem upD_bd {x d n : Int} (h0 : 0 ≤ x) (hd : 1 ≤ d) (h : x ≤ n * d) : 0 ≤ upD x d ∧ upD x d ≤ n := by
  unfold upD
  refine ⟨Int.ediv_nonneg (by omega) (by omega), ?_⟩
  have : (x + d - 1) / d < n + 1 := Int.ediv_lt_of_lt_mul (by omega) (by rw [Int.add_mul]; omega)
  omega
structure SplitR where
  way : Int
  at_ : Int
section
variable (ss : List SmpR) (way : Int)
noncomputable def spN (k : Nat) : Nat := (wayN ss k / way).toNat
noncomputable def splJ (k j : Nat) : SplitR := match ss[k]?, ss[k + 1]? with
  | some p, some q => ⟨((j : Int) + 1) * way, 1000 * p.at_ + upD ((((j : Int) + 1) * way - wayN ss k) * (1000 * (q.at_ - p.at_))) (wayN ss (k + 1) - wayN ss k)⟩
  | _, _ => ⟨0, 0⟩
noncomputable def splK : Nat → List SplitR
  | 0 => []
  | k + 1 => splK k ++ (List.range' (spN ss way k) (spN ss way (k + 1) - spN ss way k)).map (splJ ss way k)
noncomputable def midK (k m : Nat) : List SplitR := splK ss way k ++ (List.range' (spN ss way k) m).map (splJ ss way k)
variable {ss way}
theorem midK_zero (k : Nat) : midK ss way k 0 = splK ss way k := by simp [midK]
theorem midK_succ (k m : Nat) : midK ss way k (m + 1) = midK ss way k m ++ [splJ ss way k (spN ss way k + m)] := by
  unfold midK
  rw [List.range'_concat, List.map_append, List.append_assoc, Nat.one_mul]; rfl
theorem midK_done (k : Nat) : midK ss way k (spN ss way (k + 1) - spN ss way k) = splK ss way (k + 1) := rfl
theorem splJ_eq {k : Nat} {p q : SmpR} (hp : ss[k]? = some p) (hq : ss[k + 1]? = some q) (j : Nat) :
    splJ ss way k j = ⟨((j : Int) + 1) * way, 1000 * p.at_ + upD ((((j : Int) + 1) * way - wayN ss k) * (1000 * (q.at_ - p.at_))) (wayN ss (k + 1) - wayN ss k)⟩ := by unfold splJ; rw [hp, hq]
theorem atI_le {st : Int} {k : Nat} {p q : SmpR} (hok : SmpOk st ss) (hp : ss[k]? = some p) (hq : ss[k + 1]? = some q) : 0 ≤ p.at_ ∧ p.at_ < q.at_ ∧ q.at_ ≤ 1000000 :=
  ⟨(hok.bd p (List.mem_of_getElem? hp)).1, hok.rise k p q hp hq, (hok.bd q (List.mem_of_getElem? hq)).2.1⟩
variable {st : Int} (hok : SmpOk st ss) (hw : 1 ≤ way)
include hok hw
theorem spN_eq (k : Nat) : ((spN ss way k : Nat) : Int) = wayN ss k / way := by
  have h1 := wayN_bd hok k
  have h2 : 0 ≤ wayN ss k / way := Int.ediv_nonneg h1.1 (by omega)
  unfold spN
  omega
theorem spN_mono {i j : Nat} (h : i ≤ j) : spN ss way i ≤ spN ss way j := by
  have h1 := wayN_mono hok h
  have h2 : wayN ss i / way ≤ wayN ss j / way := Int.ediv_le_ediv (by omega) h1
  have h3 := spN_eq hok hw i
  have h4 := spN_eq hok hw j
  omega
theorem splK_len : ∀ k, (splK ss way k).length = spN ss way k
  | 0 => by
    have h3 := spN_eq hok hw 0
    rw [wayN_zero] at h3
    simp at h3
    rw [show (splK ss way 0) = [] from rfl]
    simp
    omega
  | k + 1 => by
    rw [splK, List.length_append, List.length_map, List.length_range', splK_len k]
    have := spN_mono hok hw (show k ≤ k + 1 by omega)
    omega
theorem midK_len (k m : Nat) : (midK ss way k m).length = spN ss way k + m := by
  unfold midK
  rw [List.length_append, List.length_map, List.length_range', splK_len hok hw k]
/-- A split lies in the step: as both programs ask. -/
theorem spN_cond (k j : Nat) : ((j : Int) + 1) * way ≤ wayN ss k ↔ j < spN ss way k := by
  have h3 := spN_eq hok hw k
  rw [← Int.le_ediv_iff_mul_le (by omega), ← h3]
  omega
theorem spN_above {k j : Nat} (h : spN ss way k ≤ j) : wayN ss k < ((j : Int) + 1) * way := by
  have h1 := spN_cond hok hw k j
  have h2 : ¬ ((j : Int) + 1) * way ≤ wayN ss k := fun h3 => by have := h1.1 h3; omega
  omega
theorem split_bd {k j : Nat} {p q : SmpR} (hp : ss[k]? = some p) (hq : ss[k + 1]? = some q) (h1 : spN ss way k ≤ j) (h2 : j < spN ss way (k + 1)) :
    1 ≤ ((j : Int) + 1) * way - wayN ss k ∧ ((j : Int) + 1) * way - wayN ss k ≤ wayN ss (k + 1) - wayN ss k ∧ wayN ss (k + 1) - wayN ss k ≤ 300000000 ∧
    0 ≤ (((j : Int) + 1) * way - wayN ss k) * (1000 * (q.at_ - p.at_)) ∧ 0 ≤ upD ((((j : Int) + 1) * way - wayN ss k) * (1000 * (q.at_ - p.at_))) (wayN ss (k + 1) - wayN ss k) ∧
    upD ((((j : Int) + 1) * way - wayN ss k) * (1000 * (q.at_ - p.at_))) (wayN ss (k + 1) - wayN ss k) ≤ 1000 * (q.at_ - p.at_) := by
  have a1 := spN_above hok hw h1
  have a2 := (spN_cond hok hw (k + 1) j).2 h2
  have a3 := wayN_succ (stepsL_get hp hq)
  have a4 := lenD_bd (hok.place (List.mem_of_getElem? hp)) (hok.place (List.mem_of_getElem? hq))
  have a5 := atI_le hok hp hq
  have a6 : 0 ≤ (((j : Int) + 1) * way - wayN ss k) * (1000 * (q.at_ - p.at_)) := Int.mul_nonneg (by omega) (by omega)
  have a7 : (((j : Int) + 1) * way - wayN ss k) * (1000 * (q.at_ - p.at_)) ≤ (wayN ss (k + 1) - wayN ss k) * (1000 * (q.at_ - p.at_)) := Int.mul_le_mul_of_nonneg_right (by omega) (by omega)
  have a8 := upD_bd a6 (show 1 ≤ wayN ss (k + 1) - wayN ss k by omega) (n := 1000 * (q.at_ - p.at_)) (by rw [Int.mul_comm (1000 * _)]; exact a7)
  refine ⟨by omega, by omega, ?_, a6, a8.1, a8.2⟩
  rw [a3]
  have : lenD (p, q).1 (p, q).2 = lenD p q := rfl
  omega
end
def SpOk (way : Int) (l : List SplitR) (T : Int) : Prop := ∀ (i : Nat) (x : SplitR), l[i]? = some x → x.way = ((i : Int) + 1) * way ∧ 0 ≤ x.at_ ∧ x.at_ ≤ T ∧ ∀ y, 1 ≤ i → l[i - 1]? = some y → y.at_ ≤ x.at_
theorem spOk_nil (way T : Int) : SpOk way [] T := fun i x h => by simp at h
theorem SpOk.le {way T T' : Int} {l : List SplitR} (h : SpOk way l T) (hT : T ≤ T') : SpOk way l T' := fun i x hx => by
  obtain ⟨h1, h2, h3, h4⟩ := h i x hx
  exact ⟨h1, h2, Int.le_trans h3 hT, h4⟩
theorem SpOk.snoc {way T : Int} {l : List SplitR} {x : SplitR} (h : SpOk way l T) (h1 : x.way = ((l.length : Int) + 1) * way) (h2 : T ≤ x.at_) (h0 : 0 ≤ x.at_) : SpOk way (l ++ [x]) x.at_ := by
  intro i y hy
  have hi := (List.getElem?_eq_some_iff.1 hy).1
  rw [List.length_append, List.length_singleton] at hi
  by_cases hl : i < l.length
  · rw [List.getElem?_append_left hl] at hy
    obtain ⟨b1, b2, b3, b4⟩ := h i y hy
    exact ⟨b1, b2, by omega, fun z hz hzz => b4 z hz (by rw [List.getElem?_append_left (by omega)] at hzz; exact hzz)⟩
  · have he : i = l.length := by omega
    subst he
    rw [List.getElem?_concat_length] at hy
    cases hy
    refine ⟨h1, h0, Int.le_refl _, fun z hz hzz => ?_⟩
    rw [List.getElem?_append_left (by omega)] at hzz
    have := (h _ z hzz).2.2.1
    omega
theorem midK_ok {ss : List SmpR} {way st : Int} (hok : SmpOk st ss) (hw : 1 ≤ way) {k : Nat} {p q : SmpR} (hp : ss[k]? = some p) (hq : ss[k + 1]? = some q) (h : SpOk way (splK ss way k) (1000 * p.at_)) :
    ∀ m, spN ss way k + m ≤ spN ss way (k + 1) → ∃ T, SpOk way (midK ss way k m) T ∧ T ≤ 1000 * q.at_ ∧ (m = 0 → T = 1000 * p.at_) ∧ (∀ m', m = m' + 1 → T = (splJ ss way k (spN ss way k + m')).at_)
  | 0, _ => by
    have := atI_le hok hp hq
    exact ⟨1000 * p.at_, by rw [midK_zero]; exact h, by omega, fun _ => rfl, fun m' h => by omega⟩
  | m + 1, hm => by
    obtain ⟨T, t1, t2, t3, t4⟩ := midK_ok hok hw hp hq h m (by omega)
    have b := split_bd hok hw hp hq (j := spN ss way k + m) (by omega) (by omega)
    have a5 := atI_le hok hp hq
    have e := splJ_eq (way := way) hp hq (spN ss way k + m)
    have hT : T ≤ (splJ ss way k (spN ss way k + m)).at_ := by
      cases m with
      | zero => rw [t3 rfl, e]; dsimp only; omega
      | succ m' =>
        rw [t4 m' rfl, e, splJ_eq hp hq]
        dsimp only
        have b0 := split_bd hok hw hp hq (j := spN ss way k + m') (by omega) (by omega)
        have : upD (((((spN ss way k + m' : Nat) : Int) + 1) * way - wayN ss k) * (1000 * (q.at_ - p.at_))) (wayN ss (k + 1) - wayN ss k) ≤ upD (((((spN ss way k + (m' + 1) : Nat) : Int) + 1) * way - wayN ss k) * (1000 * (q.at_ - p.at_))) (wayN ss (k + 1) - wayN ss k) := by
          refine upD_mono (by omega) (Int.mul_le_mul_of_nonneg_right ?_ (by omega))
          have : (((spN ss way k + m' : Nat) : Int) + 1) * way ≤ (((spN ss way k + (m' + 1) : Nat) : Int) + 1) * way := Int.mul_le_mul_of_nonneg_right (by omega) (by omega)
          omega
        omega
    refine ⟨(splJ ss way k (spN ss way k + m)).at_, ?_, ?_, fun h => by omega, fun m' hm' => by rw [show m' = m by omega]⟩
    · rw [midK_succ]
      refine t1.snoc ?_ hT ?_
      · rw [e, midK_len hok hw]
      · rw [e]; dsimp only; omega
    · rw [e]; dsimp only; omega
theorem splK_ok {ss : List SmpR} {way st : Int} (hok : SmpOk st ss) (hw : 1 ≤ way) : ∀ (k : Nat) (p : SmpR), ss[k]? = some p → SpOk way (splK ss way k) (1000 * p.at_)
  | 0, p, hp => spOk_nil _ _
  | k + 1, q, hq => by
    have hlt := (List.getElem?_eq_some_iff.1 hq).1
    have hp : ss[k]? = some (ss[k]'(by omega)) := List.getElem?_eq_getElem _
    obtain ⟨T, t1, t2, _⟩ := midK_ok hok hw hp hq (splK_ok hok hw k _ hp) (spN ss way (k + 1) - spN ss way k) (by have := spN_mono hok hw (show k ≤ k + 1 by omega); omega)
    rw [midK_done] at t1
    exact t1.le t2
noncomputable def splitsR (a : ActD) (way : Int) : List SplitR × Int :=
  if chkA a ≠ 0 then ([], chkA a) else if ¬(1 ≤ way ∧ way ≤ 1000000000) then ([], 9) else if 10000 < wayN a.ss (a.ss.length - 1) / way then ([], 3) else (splK a.ss way (a.ss.length - 1), 0)
theorem splitsR_e {a : ActD} {f : Int} (h : chkA a ≠ 0) : splitsR a f = ([], chkA a) := if_pos h
theorem splitsR_9 {a : ActD} {f : Int} (h : chkA a = 0) (h1 : ¬(1 ≤ f ∧ f ≤ 1000000000)) : splitsR a f = ([], 9) := by unfold splitsR; rw [if_neg (by simp [h]), if_pos h1]
theorem splitsR_3 {a : ActD} {f : Int} (h : chkA a = 0) (h1 : 1 ≤ f ∧ f ≤ 1000000000) (h2 : 10000 < wayN a.ss (a.ss.length - 1) / f) : splitsR a f = ([], 3) := by unfold splitsR; rw [if_neg (by simp [h]), if_neg (fun h3 => h3 h1), if_pos h2]
theorem splitsR_0 {a : ActD} {f : Int} (h : chkA a = 0) (h1 : 1 ≤ f ∧ f ≤ 1000000000) (h2 : ¬10000 < wayN a.ss (a.ss.length - 1) / f) : splitsR a f = (splK a.ss f (a.ss.length - 1), 0) := by
  unfold splitsR; rw [if_neg (by simp [h]), if_neg (fun h3 => h3 h1), if_neg h2]
end Go.Proofs.Ytogcclagmobkiaa
