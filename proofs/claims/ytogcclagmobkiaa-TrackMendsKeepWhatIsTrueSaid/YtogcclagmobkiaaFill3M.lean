/-
  Filling a right activity gives a right one; what the second law of Fill and Level needs.
-/
import Derived.Test.YtogcclagmobkiaaFill2M
namespace Go.Proofs.Ytogcclagmobkiaa
set_option linter.unusedVariables false
set_option linter.unusedSimpArgs false
theorem smp_chkF {st : Int} {ss : List SmpR} (h : SmpOk st ss) : chkE (fS st) none ss = 0 := by
  have key : ∀ k, k ≤ ss.length → chkE (fS st) none ss = chkE (fS st) (ahead ss k) (ss.drop k) := by
    intro k
    induction k with
    | zero => intro _; exact chkE_start _ _
    | succ k ih =>
      intro hk
      have hx : ss[k]? = some (ss[k]'(by omega)) := List.getElem?_eq_getElem _
      refine chkE_next (ih (by omega)) hx ?_
      have hb := h.bd _ (List.mem_of_getElem? hx)
      have ho : ordS (ahead ss k) (ss[k]'(by omega)) = false := by
        cases k with
        | zero => rw [ahead_zero]; exact decide_eq_false (by have := h.first _ hx; omega)
        | succ m =>
          have hy : ss[m]? = some (ss[m]'(by omega)) := List.getElem?_eq_getElem _
          rw [ahead_succ hy]
          exact decide_eq_false (by have := h.rise m _ _ hy hx; omega)
      have hi : smpIn (ss[k]'(by omega)) = true := by
        unfold smpIn
        simp only [Bool.and_eq_true]
        exact ⟨⟨⟨inB_iff.2 hb.2.2.2.1, inB_iff.2 hb.2.2.2.2.1⟩, inB_iff.2 hb.2.2.2.2.2.1⟩, ⟨inB_iff.2 hb.2.2.2.2.2.2.1, inB_iff.2 hb.2.2.2.2.2.2.2.1⟩, inB_iff.2 hb.2.2.2.2.2.2.2.2⟩
      unfold fS
      rw [if_neg (by rw [ho]; simp), if_neg]
      rintro (h | h | h)
      · omega
      · omega
      · rw [hi] at h; cases h
  exact chkE_end (key ss.length (Nat.le_refl _)) (Nat.le_refl _)
theorem fillAll_span {st : Int} {ss : List SmpR} (gap : Int) : spanL (fillAll gap ss) = spanL ss := by
  unfold spanL
  rw [fillAll_len]
  cases hx : (fillAll gap ss)[ss.length - 1]? with
  | none =>
    have h := List.getElem?_eq_none_iff.1 hx
    rw [fillAll_len] at h
    rw [List.getElem?_eq_none h]
  | some x =>
    have hlt := (List.getElem?_eq_some_iff.1 hx).1
    rw [fillAll_len] at hlt
    have hy := List.getElem?_eq_getElem hlt
    rw [hy]
    exact (fillW_oth gap ss 3 _ x _ hx hy).1
def fillD (a : ActD) (gap : Int) : ActD := ⟨a.name, a.sport, a.start, fillAll gap a.ss, a.ls, a.ts⟩
theorem fillD_good {a : ActD} (h : GoodA a) (gap : Int) : GoodA (fillD a gap) := by
  refine ⟨⟨h.head.1, h.head.2.1, h.head.2.2.1, ?_, h.head.2.2.2.2.1, h.head.2.2.2.2.2⟩, smp_chkF (fillAll_ok gap h.smp), ?_, h.t⟩
  · show (fillAll gap a.ss).length ≤ 20000
    rw [fillAll_len]; exact h.head.2.2.2.1
  · show chkE (fL (spanL (fillAll gap a.ss))) none a.ls = 0
    rw [fillAll_span (st := a.start)]; exact h.l
theorem fillR_is {a : ActD} {gap : Int} (h : (fillR a gap).2 = 0) : GoodA a ∧ ¬(gap < 0 ∨ 1000000 < gap) ∧ fillR a gap = (fillD a gap, 0) := by
  by_cases h1 : chkA a ≠ 0
  · rw [fillR_e h1] at h; exact absurd h h1
  · by_cases h2 : gap < 0 ∨ 1000000 < gap
    · rw [fillR_9 h1 h2] at h; cases h
    · exact ⟨goodA (Decidable.not_not.1 h1), h2, fillR_0 h1 h2⟩
theorem fillR_twice {a : ActD} {gap : Int} (h : (fillR a gap).2 = 0) : fillR (fillR a gap).1 gap = fillR a gap := by
  obtain ⟨h1, h2, h3⟩ := fillR_is h
  rw [h3]
  show fillR (fillD a gap) gap = _
  rw [fillR_0 (by rw [(fillD_good h1 gap).chk]; simp) h2]
  show (fillD (fillD a gap) gap, 0) = (fillD a gap, 0)
  unfold fillD
  rw [fillAll_twice gap h1.smp]
theorem levelR_is {a : ActD} {w : Int} (h : (levelR a w).2 = 0) : GoodA a ∧ ¬(w < 0 ∨ 50 < w) ∧ (levelR a w).1.ss = levelN a.ss w a.ss.length := by
  by_cases h1 : chkA a ≠ 0
  · rw [levelR_e h1] at h; exact absurd h h1
  · by_cases h2 : w < 0 ∨ 50 < w
    · rw [levelR_9 h1 h2] at h; cases h
    · exact ⟨goodA (Decidable.not_not.1 h1), h2, by rw [levelR_0 h1 h2]⟩
theorem level_any {ss : List SmpR} {w : Int} {i : Nat} {x : SmpR} (hw : ¬(w < 0 ∨ 50 < w)) (hi : i < ss.length) (hx : (levelN ss w ss.length)[i]? = some x) {lo hi2 : Int} (h1 : lo = max 0 ((i : Int) - w)) (h2 : hi2 = min (ss.length : Int) ((i : Int) + w + 1)) :
    ((ss.drop lo.toNat).take (hi2.toNat - lo.toNat)).any (fun q => decide (q.z = x.z)) = true := by
  have hb := win_bd (n := ss.length) (w := w) (i := i) (by omega) hi
  have hs := List.getElem?_eq_getElem hi
  rw [levelN_at hs hi] at hx
  cases hx
  have hl := winI_len (ss := ss) (w := w) (i := i) (by omega) hi
  have hm := medZ_mem (l := winI ss w i) (by omega)
  unfold winI winZ at hm
  obtain ⟨q, hq, hz⟩ := List.mem_map.1 hm
  rw [List.any_eq_true]
  have e1 : lo.toNat = loN w i := by unfold loN; omega
  have e2 : hi2.toNat = hiN ss.length w i := by unfold hiN; omega
  refine ⟨q, by rw [e1, e2]; exact hq, ?_⟩
  rw [decide_eq_true_eq, hz]; rfl
end Go.Proofs.Ytogcclagmobkiaa
