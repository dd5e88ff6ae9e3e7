/-
  Level and Fill: plain part.
-/
import Derived.Test.YtogcclagmobkiaaWhereM
namespace Go.Proofs.Ytogcclagmobkiaa
set_option linter.unusedVariables false
set_option linter.unusedSimpArgs false
/-! #### Level -/
def SmpR.setZ (x : SmpR) (v : Int) : SmpR := ⟨x.at_, x.x, x.y, v, x.pulse, x.power, x.steps⟩
def winZ (ss : List SmpR) (lo m : Nat) : List Int := ((ss.drop lo).take m).map (·.z)
def medZ (l : List Int) : Int := (l.mergeSort fun x y => decide (x ≤ y)).getD ((l.length - 1) / 2) 0
def loN (w : Int) (i : Nat) : Nat := (max ((i : Int) - w) 0).toNat
def hiN (n : Nat) (w : Int) (i : Nat) : Nat := (min ((i : Int) + w + 1) (n : Int)).toNat
def winI (ss : List SmpR) (w : Int) (i : Nat) : List Int := winZ ss (loN w i) (hiN ss.length w i - loN w i)
theorem winZ_succ {ss : List SmpR} {lo m : Nat} {x : SmpR} (h : ss[lo + m]? = some x) : winZ ss lo (m + 1) = winZ ss lo m ++ [x.z] := by
  have h2 : (ss.drop lo)[m]? = some x := by rw [List.getElem?_drop]; exact h
  unfold winZ; rw [take_succ_get h2, List.map_append]; rfl
theorem winZ_len {ss : List SmpR} {lo m : Nat} (h : lo + m ≤ ss.length) : (winZ ss lo m).length = m := by
  unfold winZ; rw [List.length_map, List.length_take, List.length_drop]; omega
theorem win_bd {n : Nat} {w : Int} {i : Nat} (hw : 0 ≤ w ∧ w ≤ 50) (hi : i < n) : loN w i ≤ i ∧ i < hiN n w i ∧ hiN n w i ≤ n ∧ hiN n w i ≤ i + 51 ∧ i ≤ loN w i + 50 := by
  unfold loN hiN; omega
theorem winI_len {ss : List SmpR} {w : Int} {i : Nat} (hw : 0 ≤ w ∧ w ≤ 50) (hi : i < ss.length) : (winI ss w i).length = hiN ss.length w i - loN w i := by
  have := win_bd hw hi
  exact winZ_len (by omega)
def levelN (ss : List SmpR) (w : Int) : Nat → List SmpR
  | 0 => ss
  | k + 1 => match ss[k]? with | some x => (levelN ss w k).set k (x.setZ (medZ (winI ss w k))) | none => levelN ss w k
theorem levelN_succ {ss : List SmpR} {w : Int} {k : Nat} {x : SmpR} (h : ss[k]? = some x) : levelN ss w (k + 1) = (levelN ss w k).set k (x.setZ (medZ (winI ss w k))) := by rw [levelN, h]
theorem levelN_len (ss : List SmpR) (w : Int) : ∀ k, (levelN ss w k).length = ss.length
  | 0 => rfl
  | k + 1 => by
    cases h : ss[k]? with
    | none => rw [levelN, h]; exact levelN_len ss w k
    | some x => rw [levelN_succ h, List.length_set]; exact levelN_len ss w k
theorem levelN_get {ss : List SmpR} {w : Int} : ∀ {k j : Nat}, k ≤ j → (levelN ss w k)[j]? = ss[j]?
  | 0, j, _ => rfl
  | k + 1, j, h => by
    cases hx : ss[k]? with
    | none => rw [levelN, hx]; exact levelN_get (by omega)
    | some x => rw [levelN_succ hx, List.getElem?_set_ne (by omega)]; exact levelN_get (by omega)
theorem levelN_at {ss : List SmpR} {w : Int} {i : Nat} {x : SmpR} (hx : ss[i]? = some x) : ∀ {k : Nat}, i < k → (levelN ss w k)[i]? = some (x.setZ (medZ (winI ss w i)))
  | 0, h => by omega
  | k + 1, h => by
    by_cases hk : i = k
    · subst hk
      have hlt := (List.getElem?_eq_some_iff.1 hx).1
      rw [levelN_succ hx, List.getElem?_set_self (by rw [levelN_len]; exact hlt)]
    · cases hy : ss[k]? with
      | none => rw [levelN, hy]; exact levelN_at hx (by omega)
      | some y => rw [levelN_succ hy, List.getElem?_set_ne (by omega)]; exact levelN_at hx (by omega)
/-- What Level returns. -/
def levelR (a : ActD) (w : Int) : ActD × Int :=
  if chkA a ≠ 0 then (noA, chkA a) else if w < 0 ∨ 50 < w then (noA, 9) else (⟨a.name, a.sport, a.start, levelN a.ss w a.ss.length, a.ls, a.ts⟩, 0)
theorem levelR_e {a : ActD} {w : Int} (h : chkA a ≠ 0) : levelR a w = (noA, chkA a) := if_pos h
theorem levelR_9 {a : ActD} {w : Int} (h : ¬chkA a ≠ 0) (h2 : w < 0 ∨ 50 < w) : levelR a w = (noA, 9) := by rw [levelR, if_neg h, if_pos h2]
theorem levelR_0 {a : ActD} {w : Int} (h : ¬chkA a ≠ 0) (h2 : ¬(w < 0 ∨ 50 < w)) : levelR a w = (⟨a.name, a.sport, a.start, levelN a.ss w a.ss.length, a.ls, a.ts⟩, 0) := by rw [levelR, if_neg h, if_neg h2]
/-! #### a list put in order by exchanges -/
structure InsL (xs ys : List Int) (i k : Nat) : Prop where
  perm : ys.Perm xs
  ord : ∀ (p q : Nat) (x y : Int), p < q → q ≤ i → p ≠ k → q ≠ k → ys[p]? = some x → ys[q]? = some y → x ≤ y
  right : ∀ (q : Nat) (x y : Int), k < q → q ≤ i → ys[k]? = some x → ys[q]? = some y → x ≤ y
def SorL (ys : List Int) (i : Nat) : Prop := ∀ (p q : Nat) (x y : Int), p < q → q < i → ys[p]? = some x → ys[q]? = some y → x ≤ y
theorem InsL.start {xs ys : List Int} {i : Nat} (hp : ys.Perm xs) (h : SorL ys i) : InsL xs ys i i :=
  ⟨hp, fun p q x y h1 h2 h3 h4 => h p q x y h1 (by omega), fun q x y h1 h2 => by omega⟩
theorem get_swap {ys : List Int} {k : Nat} {x y : Int} (hk : 0 < k) (hx : ys[k]? = some x) (hy : ys[k - 1]? = some y) (q : Nat) : ((ys.set k y).set (k - 1) x)[q]? = if q = k - 1 then some x else if q = k then some y else ys[q]? := by
  have h1 := (List.getElem?_eq_some_iff.1 hx).1
  rw [List.getElem?_set, List.getElem?_set, List.length_set]
  by_cases h : q = k - 1
  · rw [if_pos h.symm, if_pos h, if_pos (by omega)]
  · rw [if_neg (fun e => h e.symm), if_neg h]
    by_cases h2 : q = k
    · rw [if_pos h2.symm, if_pos h2, if_pos h1]
    · rw [if_neg (fun e => h2 e.symm), if_neg h2]
theorem perm_swap {ys : List Int} {k : Nat} {x y : Int} (hx : ys[k]? = some x) (hy : ys[k - 1]? = some y) : ((ys.set k y).set (k - 1) x).Perm ys := by
  obtain ⟨h1, rfl⟩ := List.getElem?_eq_some_iff.1 hx
  obtain ⟨h2, rfl⟩ := List.getElem?_eq_some_iff.1 hy
  exact List.set_set_perm h1 h2
theorem InsL.step {xs ys : List Int} {i k : Nat} {x y : Int} (h : InsL xs ys i k) (hk : 0 < k) (hki : k ≤ i) (hx : ys[k]? = some x) (hy : ys[k - 1]? = some y) (hl : x < y) : InsL xs ((ys.set k y).set (k - 1) x) i (k - 1) := by
  refine ⟨(perm_swap hx hy).trans h.perm, fun p q u v h1 h2 h3 h4 hu hv => ?_, fun q u v h1 h2 hu hv => ?_⟩
  · rw [get_swap hk hx hy, if_neg h3] at hu
    rw [get_swap hk hx hy, if_neg h4] at hv
    by_cases hp : p = k
    · rw [if_pos hp] at hu; cases hu
      rw [if_neg (by omega)] at hv
      exact h.ord (k - 1) q _ _ (by omega) h2 (by omega) (by omega) hy hv
    · rw [if_neg hp] at hu
      by_cases hq : q = k
      · rw [if_pos hq] at hv; cases hv
        exact h.ord p (k - 1) _ _ (by omega) (by omega) (by omega) (by omega) hu hy
      · rw [if_neg hq] at hv
        exact h.ord p q u v h1 h2 hp hq hu hv
  · rw [get_swap hk hx hy, if_pos rfl] at hu; cases hu
    rw [get_swap hk hx hy, if_neg (by omega)] at hv
    by_cases hq : q = k
    · rw [if_pos hq] at hv; cases hv; omega
    · rw [if_neg hq] at hv
      exact h.right q _ _ (by omega) h2 hx hv
theorem InsL.stop {xs ys : List Int} {i k : Nat} (h : InsL xs ys i k) (hki : k ≤ i) (hs : k = 0 ∨ ∃ x y, ys[k]? = some x ∧ ys[k - 1]? = some y ∧ y ≤ x) : SorL ys (i + 1) := by
  intro p q u v h1 h2 hu hv
  by_cases hp : p = k
  · subst hp; exact h.right q u v h1 (by omega) hu hv
  · by_cases hq : q = k
    · subst hq
      rcases hs with h0 | ⟨x, y, hx, hy, hyx⟩
      · omega
      · rw [hv] at hx; cases hx
        by_cases hpk : p = q - 1
        · subst hpk; rw [hu] at hy; cases hy; exact hyx
        · have := h.ord p (q - 1) u y (by omega) (by omega) hp (by omega) hu hy; omega
    · exact h.ord p q u v h1 (by omega) hp hq hu hv
theorem sor_med {xs ys : List Int} {m : Int} (hp : ys.Perm xs) (hs : SorL ys ys.length) (hm : ys[(xs.length - 1) / 2]? = some m) : medZ xs = m := by
  have h1 : ys.Pairwise (· ≤ ·) := by
    rw [List.pairwise_iff_getElem]
    intro i j hi hj hij
    exact hs i j _ _ hij hj (List.getElem?_eq_getElem hi) (List.getElem?_eq_getElem hj)
  have h2 : (xs.mergeSort fun x y => decide (x ≤ y)).Pairwise (· ≤ ·) := by
    have h := List.pairwise_mergeSort (le := fun x y : Int => decide (x ≤ y)) (fun a b c h1 h2 => by simp at *; omega) (fun a b => by simp; omega) xs
    exact h.imp fun h => by simpa using h
  have h3 : ys = xs.mergeSort fun x y => decide (x ≤ y) := List.Perm.eq_of_pairwise (le := (· ≤ ·)) (fun a b _ _ h1 h2 => Int.le_antisymm h1 h2) h1 h2 (hp.trans (List.mergeSort_perm _ _).symm)
  unfold medZ
  rw [← h3]; simp [List.getD, hm]
theorem medZ_mem {l : List Int} (h : 0 < l.length) : medZ l ∈ l := by
  unfold medZ
  have hl : (l.mergeSort fun x y => decide (x ≤ y)).length = l.length := List.length_mergeSort _
  have hx := List.getElem?_eq_getElem (l := l.mergeSort fun x y => decide (x ≤ y)) (i := (l.length - 1) / 2) (by omega)
  have h2 : (l.mergeSort fun x y => decide (x ≤ y)).getD ((l.length - 1) / 2) 0 = (l.mergeSort fun x y => decide (x ≤ y))[(l.length - 1) / 2] := by simp [List.getD, hx]
  rw [h2]
  have h3 : (l.mergeSort fun x y => decide (x ≤ y))[(l.length - 1) / 2] ∈ (l.mergeSort fun x y => decide (x ≤ y)) := List.getElem_mem _
  exact List.mem_mergeSort.1 h3
/-! #### Fill -/
def SmpR.num (f : Nat) (x : SmpR) : Int := if f = 0 then x.pulse else if f = 1 then x.power else x.steps
def SmpR.setNum (f : Nat) (x : SmpR) (v : Int) : SmpR := if f = 0 then ⟨x.at_, x.x, x.y, x.z, v, x.power, x.steps⟩ else if f = 1 then ⟨x.at_, x.x, x.y, x.z, x.pulse, v, x.steps⟩ else ⟨x.at_, x.x, x.y, x.z, x.pulse, x.power, v⟩
def fillIn (f : Nat) (p q : SmpR) (l : List SmpR) (k0 : Nat) : Nat → List SmpR
  | 0 => l
  | d + 1 => match (fillIn f p q l k0 d)[k0 + d]? with
    | some x => (fillIn f p q l k0 d).set (k0 + d) (x.setNum f (btw (p.num f) (q.num f) (x.at_ - p.at_) (q.at_ - p.at_)))
    | none => fillIn f p q l k0 d
theorem fillIn_succ {f : Nat} {p q : SmpR} {l : List SmpR} {k0 d : Nat} {x : SmpR} (h : (fillIn f p q l k0 d)[k0 + d]? = some x) : fillIn f p q l k0 (d + 1) = (fillIn f p q l k0 d).set (k0 + d) (x.setNum f (btw (p.num f) (q.num f) (x.at_ - p.at_) (q.at_ - p.at_))) := by rw [fillIn, h]
def fillS (f : Nat) (gap : Int) (cur : List SmpR) (s : List SmpR × Int) (i : Nat) (q : SmpR) : List SmpR × Int :=
  if q.num f < 0 then s
  else match (if 0 ≤ s.2 then cur[s.2.toNat]? else none) with
    | none => (s.1, (i : Int))
    | some p => if q.at_ - p.at_ ≤ gap then (fillIn f p q s.1 (s.2.toNat + 1) (i - (s.2.toNat + 1)), (i : Int)) else (s.1, (i : Int))
def fillN (f : Nat) (gap : Int) (cur : List SmpR) : Nat → List SmpR × Int
  | 0 => (cur, -1)
  | i + 1 => match cur[i]? with
    | none => fillN f gap cur i
    | some q => fillS f gap cur (fillN f gap cur i) i q
theorem fillN_a {f : Nat} {gap : Int} {cur : List SmpR} {i : Nat} {q : SmpR} (h : cur[i]? = some q) (h1 : q.num f < 0) : fillN f gap cur (i + 1) = fillN f gap cur i := by rw [fillN, h]; exact if_pos h1
theorem fillN_b {f : Nat} {gap : Int} {cur : List SmpR} {i : Nat} {q : SmpR} (h : cur[i]? = some q) (h1 : ¬q.num f < 0) (h2 : ¬0 ≤ (fillN f gap cur i).2) : fillN f gap cur (i + 1) = ((fillN f gap cur i).1, (i : Int)) := by
  rw [fillN, h]
  show fillS f gap cur (fillN f gap cur i) i q = _
  rw [fillS, if_neg h1, if_neg h2]
theorem fillN_c {f : Nat} {gap : Int} {cur : List SmpR} {i : Nat} {p q : SmpR} (h : cur[i]? = some q) (h1 : ¬q.num f < 0) (h2 : 0 ≤ (fillN f gap cur i).2) (hp : cur[(fillN f gap cur i).2.toNat]? = some p) (h3 : ¬q.at_ - p.at_ ≤ gap) : fillN f gap cur (i + 1) = ((fillN f gap cur i).1, (i : Int)) := by
  rw [fillN, h]
  show fillS f gap cur (fillN f gap cur i) i q = _
  rw [fillS, if_neg h1, if_pos h2, hp]
  exact if_neg h3
theorem fillN_d {f : Nat} {gap : Int} {cur : List SmpR} {i : Nat} {p q : SmpR} (h : cur[i]? = some q) (h1 : ¬q.num f < 0) (h2 : 0 ≤ (fillN f gap cur i).2) (hp : cur[(fillN f gap cur i).2.toNat]? = some p) (h3 : q.at_ - p.at_ ≤ gap) : fillN f gap cur (i + 1) = (fillIn f p q (fillN f gap cur i).1 ((fillN f gap cur i).2.toNat + 1) (i - ((fillN f gap cur i).2.toNat + 1)), (i : Int)) := by
  rw [fillN, h]
  show fillS f gap cur (fillN f gap cur i) i q = _
  rw [fillS, if_neg h1, if_pos h2, hp]
  exact if_pos h3
/-- Equal, but for one number. -/
def ButF (f : Nat) (l m : List SmpR) : Prop := l.length = m.length ∧ ∀ (i : Nat) (x y : SmpR), l[i]? = some x → m[i]? = some y → x.setNum f 0 = y.setNum f 0
theorem ButF.refl (f : Nat) (l : List SmpR) : ButF f l l := ⟨rfl, fun i x y hx hy => by rw [hx] at hy; cases hy; rfl⟩
theorem setNum_setNum (f : Nat) (x : SmpR) (v u : Int) : (x.setNum f v).setNum f u = x.setNum f u := by
  unfold SmpR.setNum
  by_cases h : f = 0
  · simp [h]
  · by_cases h1 : f = 1
    · simp [h1]
    · simp [h, h1]
theorem num_setNum (f : Nat) (x : SmpR) (v : Int) : (x.setNum f v).num f = v := by
  unfold SmpR.setNum SmpR.num
  by_cases h : f = 0
  · simp [h]
  · by_cases h1 : f = 1
    · simp [h1]
    · simp [h, h1]
theorem setNum_num (f : Nat) (x : SmpR) : x.setNum f (x.num f) = x := by
  unfold SmpR.setNum SmpR.num
  by_cases h : f = 0
  · simp [h]
  · by_cases h1 : f = 1
    · simp [h1]
    · simp [h, h1]
theorem setNum_at (f : Nat) (x : SmpR) (v : Int) : (x.setNum f v).at_ = x.at_ := by
  unfold SmpR.setNum; split <;> (try split) <;> rfl
theorem ButF.at {f : Nat} {x y : SmpR} (h : x.setNum f 0 = y.setNum f 0) : x.at_ = y.at_ := by
  rw [← setNum_at f x 0, h, setNum_at]
theorem ButF.set {f : Nat} {l m : List SmpR} {k : Nat} {x : SmpR} {v : Int} (h : ButF f l m) (hx : l[k]? = some x) : ButF f (l.set k (x.setNum f v)) m := by
  refine ⟨by rw [List.length_set]; exact h.1, fun i u y hu hy => ?_⟩
  have hlt := (List.getElem?_eq_some_iff.1 hx).1
  by_cases hik : k = i
  · subst hik
    rw [List.getElem?_set_self hlt] at hu; cases hu
    rw [setNum_setNum]; exact h.2 k x y hx hy
  · rw [List.getElem?_set_ne hik] at hu
    exact h.2 i u y hu hy
theorem fillIn_but {f : Nat} {p q : SmpR} {l m : List SmpR} {k0 : Nat} (h : ButF f l m) : ∀ d, ButF f (fillIn f p q l k0 d) m
  | 0 => h
  | d + 1 => by
    cases hx : (fillIn f p q l k0 d)[k0 + d]? with
    | none => rw [fillIn, hx]; exact fillIn_but h d
    | some x => rw [fillIn_succ hx]; exact (fillIn_but h d).set hx
theorem fillIn_out {f : Nat} {p q : SmpR} {l : List SmpR} {k0 : Nat} : ∀ (d j : Nat), j < k0 ∨ k0 + d ≤ j → (fillIn f p q l k0 d)[j]? = l[j]?
  | 0, j, _ => rfl
  | d + 1, j, h => by
    cases hx : (fillIn f p q l k0 d)[k0 + d]? with
    | none => rw [fillIn, hx]; exact fillIn_out d j (by omega)
    | some x => rw [fillIn_succ hx, List.getElem?_set_ne (by omega)]; exact fillIn_out d j (by omega)
/-- What the passes keep. -/
structure FillI (f : Nat) (gap : Int) (cur : List SmpR) (i : Nat) : Prop where
  but : ButF f (fillN f gap cur i).1 cur
  ahead : ∀ j, i ≤ j → (fillN f gap cur i).1[j]? = cur[j]?
  last : (fillN f gap cur i).2 = -1 ∨ ∃ (k : Nat) (p : SmpR), (fillN f gap cur i).2 = (k : Int) ∧ k < i ∧ cur[k]? = some p ∧ 0 ≤ p.num f
theorem fillI (f : Nat) (gap : Int) (cur : List SmpR) : ∀ i, FillI f gap cur i
  | 0 => ⟨ButF.refl _ _, fun _ _ => rfl, .inl rfl⟩
  | i + 1 => by
    have ih := fillI f gap cur i
    cases hq : cur[i]? with
    | none =>
      have e : fillN f gap cur (i + 1) = fillN f gap cur i := by rw [fillN, hq]
      refine ⟨by rw [e]; exact ih.but, fun j hj => by rw [e]; exact ih.ahead j (by omega), ?_⟩
      rw [e]
      rcases ih.last with h | ⟨k, p, h1, h2, h3⟩
      · exact .inl h
      · exact .inr ⟨k, p, h1, by omega, h3⟩
    | some q =>
      by_cases h1 : q.num f < 0
      · rw [show FillI f gap cur (i + 1) = FillI f gap cur (i + 1) from rfl]
        have e := fillN_a (gap := gap) hq h1
        refine ⟨by rw [e]; exact ih.but, fun j hj => by rw [e]; exact ih.ahead j (by omega), ?_⟩
        rw [e]
        rcases ih.last with h | ⟨k, p, h1, h2, h3⟩
        · exact .inl h
        · exact .inr ⟨k, p, h1, by omega, h3⟩
      · have hl : ∀ l, fillN f gap cur (i + 1) = (l, (i : Int)) → (fillN f gap cur (i + 1)).2 = -1 ∨ ∃ (k : Nat) (p : SmpR), (fillN f gap cur (i + 1)).2 = (k : Int) ∧ k < i + 1 ∧ cur[k]? = some p ∧ 0 ≤ p.num f := fun l e => by
          rw [e]; exact .inr ⟨i, q, rfl, by omega, hq, by omega⟩
        rcases ih.last with h | ⟨k, p, h2, h3, h4, h5⟩
        · have e := fillN_b (gap := gap) hq h1 (by omega)
          exact ⟨by rw [e]; exact ih.but, fun j hj => by rw [e]; exact ih.ahead j (by omega), hl _ e⟩
        · have hp : cur[(fillN f gap cur i).2.toNat]? = some p := by rw [h2, Int.toNat_natCast]; exact h4
          by_cases h6 : q.at_ - p.at_ ≤ gap
          · have e := fillN_d hq h1 (by omega) hp h6
            refine ⟨by rw [e]; exact fillIn_but ih.but _, fun j hj => ?_, hl _ e⟩
            rw [e]
            show (fillIn f p q (fillN f gap cur i).1 ((fillN f gap cur i).2.toNat + 1) (i - ((fillN f gap cur i).2.toNat + 1)))[j]? = _
            rw [fillIn_out _ _ (by omega)]
            exact ih.ahead j (by omega)
          · have e := fillN_c hq h1 (by omega) hp h6
            exact ⟨by rw [e]; exact ih.but, fun j hj => by rw [e]; exact ih.ahead j (by omega), hl _ e⟩
def fillP (f : Nat) (gap : Int) (ss : List SmpR) : List SmpR := (fillN f gap ss ss.length).1
theorem fillP_but (f : Nat) (gap : Int) (ss : List SmpR) : ButF f (fillP f gap ss) ss := (fillI f gap ss ss.length).but
def fillAll (gap : Int) (ss : List SmpR) : List SmpR := fillP 2 gap (fillP 1 gap (fillP 0 gap ss))
/-- What Fill returns. -/
def fillR (a : ActD) (gap : Int) : ActD × Int :=
  if chkA a ≠ 0 then (noA, chkA a) else if gap < 0 ∨ 1000000 < gap then (noA, 9) else (⟨a.name, a.sport, a.start, fillAll gap a.ss, a.ls, a.ts⟩, 0)
theorem fillR_e {a : ActD} {g : Int} (h : chkA a ≠ 0) : fillR a g = (noA, chkA a) := if_pos h
theorem fillR_9 {a : ActD} {g : Int} (h : ¬chkA a ≠ 0) (h2 : g < 0 ∨ 1000000 < g) : fillR a g = (noA, 9) := by rw [fillR, if_neg h, if_pos h2]
theorem fillR_0 {a : ActD} {g : Int} (h : ¬chkA a ≠ 0) (h2 : ¬(g < 0 ∨ 1000000 < g)) : fillR a g = (⟨a.name, a.sport, a.start, fillAll g a.ss, a.ls, a.ts⟩, 0) := by rw [fillR, if_neg h, if_neg h2]
end Go.Proofs.Ytogcclagmobkiaa
