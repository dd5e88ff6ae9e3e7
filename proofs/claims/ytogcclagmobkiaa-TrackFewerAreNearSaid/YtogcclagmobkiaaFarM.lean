/-
  What is left out is near to what is kept. No program stands here.
-/
import Derived.Test.YtogcclagmobkiaaFewestM
import Derived.Test.YtogcclagmobkiaaOnlyM
namespace Go.Proofs.Ytogcclagmobkiaa
set_option linter.unusedVariables false
set_option linter.unusedSimpArgs false
/-- A chain of numbers, from i to j, all neighbours enough. -/
def ChP (en : Nat → Nat → Bool) : Nat → List Int → Nat → Prop
  | i, [], j => i < j ∧ en i j = true
  | i, x :: r, j => ∃ m : Nat, x = m ∧ i < m ∧ en i m = true ∧ ChP en m r j
section
variable {en : Nat → Nat → Bool} {n : Nat}
theorem ChP.lt : ∀ {i j : Nat} {l : List Int}, ChP en i l j → i < j
  | _, _, [], h => h.1
  | _, _, x :: r, h => by
    obtain ⟨m, _, h1, _, h2⟩ := h
    have := h2.lt
    omega
theorem ChP.app {k j : Nat} {r : List Int} (h2 : ChP en k r j) : ∀ {i : Nat} {l : List Int}, ChP en i l k → ChP en i (l ++ [(k : Int)] ++ r) j
  | i, [], h => ⟨k, rfl, h.1, h.2, h2⟩
  | i, x :: l, h => by
    obtain ⟨m, h0, h1, h3, h4⟩ := h
    exact ⟨m, h0, h1, h3, ChP.app h2 h4⟩
theorem wst_no_all {E : Nat → Int} {M : Int} {i : Nat} : ∀ c, (wst E M i c).1 < 0 → ∀ k, i < k → k < i + 1 + c → E k ≤ M
  | 0, _, k, h1, h2 => by omega
  | c + 1, h, k, h1, h2 => by
    rw [wst] at h
    by_cases h3 : (wst E M i c).2 < E (i + 1 + c)
    · rw [if_pos h3] at h; dsimp only at h; omega
    · rw [if_neg h3] at h
      by_cases hk : k = i + 1 + c
      · subst hk
        rcases (wst_bd (E := E) (M := M) (i := i) c).2 with h4 | ⟨m, a, _⟩
        · omega
        · omega
      · exact wst_no_all c h k h1 (by omega)
theorem simpL_ch {ss : List SmpR} {M : Int} : ∀ (f i j : Nat), i < j → j - i ≤ f → ChP (enoughB ss M) i (simpL ss M f i j) j
  | 0, i, j, h1, h2 => by omega
  | f + 1, i, j, h1, h2 => by
    rcases worst_bd ss M i j with h | ⟨m, h, a, b⟩
    · rw [simpL_none (by omega)]
      exact ⟨h1, enoughB_iff.2 fun k hk1 hk2 => wst_no_all (E := fun k => errI ss i k j) (j - (i + 1)) (by have : worst ss M i j < 0 := by omega
                                                                                                           exact this) k hk1 (by omega)⟩
    · rw [simpL_some h]
      exact ChP.app (simpL_ch f m j b (by omega)) (simpL_ch f i m a (by omega))
theorem manyL_top {m j : Nat} (hm : m + 1 ≤ n) (h : n - 1 - m ≤ j) : manyL en n (n - 1) j = manyL en n m j := by
  have := manyL_stay (en := en) (n := n) m (n - 1 - m) j (by omega) h
  rw [show m + (n - 1 - m) = n - 1 by omega] at this
  exact this
theorem manyL_last : ∀ m, m + 1 ≤ n → manyL en n m (n - 1) = 0
  | 0, _ => rfl
  | m + 1, h => by rw [manyL, if_neg (by omega)]; exact manyL_last m (by omega)
theorem fewR_min {mf : Nat → Int} {i : Nat} : ∀ c k, i < k → k < i + 1 + c → en i k = true → 0 ≤ fewR en mf i c ∧ mf (fewR en mf i c).toNat ≤ mf k
  | 0, k, h1, h2, _ => by omega
  | c + 1, k, h1, h2, he => by
    rw [fewR]
    by_cases hk : k = i + 1 + c
    · subst hk
      by_cases h : fewR en mf i c < 0 ∨ mf (i + 1 + c) < mf (fewR en mf i c).toNat
      · rw [if_pos ⟨h, he⟩]
        exact ⟨by omega, by rw [Int.toNat_natCast]; exact Int.le_refl _⟩
      · rw [if_neg (fun h2 => h h2.1)]
        exact ⟨by omega, by omega⟩
    · obtain ⟨h3, h4⟩ := fewR_min (mf := mf) c k h1 (by omega) he
      split
      · rename_i h
        exact ⟨by omega, by rw [Int.toNat_natCast]; rcases h.1 with h5 | h5 <;> omega⟩
      · exact ⟨h3, h4⟩
theorem fewR_en {mf : Nat → Int} {i : Nat} : ∀ c, 0 ≤ fewR en mf i c → en i (fewR en mf i c).toNat = true
  | 0, h => by rw [fewR] at h; omega
  | c + 1, h => by
    rw [fewR] at h ⊢
    split
    · rename_i h2; rw [Int.toNat_natCast]; exact h2.2
    · rename_i h2
      rw [if_neg h2] at h
      exact fewR_en c h
theorem many_is {i : Nat} (hi : i + 1 < n) : manyL en n (n - 1) i = manyL en n (n - 1) (fewR en (manyL en n (n - 2 - i)) i (n - 2 - i + 1)).toNat + 1 ∨ fewR en (manyL en n (n - 2 - i)) i (n - 2 - i + 1) < 0 := by
  by_cases h0 : fewR en (manyL en n (n - 2 - i)) i (n - 2 - i + 1) < 0
  · exact .inr h0
  · left
    rw [manyL_top (m := n - 2 - i + 1) (by omega) (by omega), manyL, if_pos (by omega), show n - 2 - (n - 2 - i) = i by omega]
    rw [manyL_top (m := n - 2 - i) (by omega)]
    rcases fewR_bd (en := en) (manyL en n (n - 2 - i)) i (n - 2 - i + 1) with h | ⟨k, a, b, c⟩
    · omega
    · omega
theorem manyL_le {i k : Nat} (h1 : i < k) (h2 : k < n) (he : en i k = true) : manyL en n (n - 1) i ≤ manyL en n (n - 1) k + 1 := by
  obtain ⟨h3, h4⟩ := fewR_min (en := en) (mf := manyL en n (n - 2 - i)) (i := i) (n - 2 - i + 1) k h1 (by omega) he
  rcases fewR_bd (en := en) (manyL en n (n - 2 - i)) i (n - 2 - i + 1) with h | ⟨x, a, b, c⟩
  · omega
  · rcases many_is (en := en) (n := n) (i := i) (by omega) with h | h
    · rw [h, manyL_top (m := n - 2 - i) (j := k) (by omega) (by omega), manyL_top (m := n - 2 - i) (by omega) (by omega)]
      omega
    · omega
theorem ChP.many (hn : 1 < n) : ∀ {l : List Int} {i : Nat}, ChP en i l (n - 1) → manyL en n (n - 1) i ≤ l.length + 1
  | [], i, h => by
    have := manyL_le (en := en) (n := n) h.1 (by omega) h.2
    rw [manyL_last (n - 1) (by omega)] at this
    simpa using this
  | x :: r, i, h => by
    obtain ⟨m, _, h1, h3, h4⟩ := h
    have := ChP.many hn h4
    have h5 := h4.lt
    have h6 := manyL_le (en := en) (n := n) h1 (by omega) h3
    simp only [List.length_cons]
    omega
theorem chainF_ch (he : ∀ i, en i (i + 1) = true) : ∀ (f i : Nat), i + 1 < n → n ≤ i + f → ∃ l : List Int, chainF en n f i = (i : Int) :: (l ++ [((n - 1 : Nat) : Int)]) ∧ ChP en i l (n - 1) ∧ (l.length : Int) + 1 = manyL en n (n - 1) i
  | 0, i, h1, h2 => by omega
  | f + 1, i, h1, h2 => by
    obtain ⟨k, a, b, c⟩ := nextF_spec he h1
    have e1 : nextF en n (n - 1) i = fewR en (manyL en n (n - 2 - i)) i (n - 2 - i + 1) := by
      have := nextF_stay (en := en) (n := n) (n - 2 - i + 1) (n - 1 - (n - 2 - i + 1)) i (by omega) (by omega)
      rw [show n - 2 - i + 1 + (n - 1 - (n - 2 - i + 1)) = n - 1 by omega] at this
      rw [this, nextF, if_pos (by omega), show n - 2 - (n - 2 - i) = i by omega]
    have e2 : fewR en (manyL en n (n - 2 - i)) i (n - 2 - i + 1) = k := by rw [← e1, a]
    have hen : en i k = true := by
      have := fewR_en (en := en) (mf := manyL en n (n - 2 - i)) (i := i) (n - 2 - i + 1) (by omega)
      rw [e2, Int.toNat_natCast] at this
      exact this
    have hm : manyL en n (n - 1) i = manyL en n (n - 1) k + 1 := by
      rcases many_is (en := en) (n := n) h1 with h | h
      · rw [e2, Int.toNat_natCast] at h; exact h
      · omega
    rw [chainF_go (by omega) (by omega) a]
    by_cases hk : k + 1 < n
    · obtain ⟨l, q1, q2, q3⟩ := chainF_ch he f k hk (by omega)
      exact ⟨(k : Int) :: l, by rw [q1]; rfl, ⟨k, rfl, b, hen, q2⟩, by rw [hm, ← q3]; simp only [List.length_cons]; omega⟩
    · obtain rfl : k = n - 1 := by omega
      obtain ⟨f', rfl⟩ : ∃ f', f = f' + 1 := ⟨f - 1, by omega⟩
      exact ⟨[], by rw [chainF_end (by omega) rfl]; rfl, ⟨b, hen⟩, by rw [hm, manyL_last _ (by omega)]; rfl⟩
end
/-- What both lists are. -/
def Chain (ss : List SmpR) (M : Int) (F : List Int) : Prop := (ss.length = 1 ∧ F = [0]) ∨ (1 < ss.length ∧ ∃ l, F = 0 :: (l ++ [((ss.length - 1 : Nat) : Int)]) ∧ ChP (enoughB ss M) 0 l (ss.length - 1))
theorem simple_chain {ss : List SmpR} {M : Int} (h : 0 < ss.length) : Chain ss M (simpleL ss M) := by
  unfold simpleL
  rw [if_neg (by omega)]
  by_cases h1 : ss.length = 1
  · rw [if_pos h1]; exact .inl ⟨h1, rfl⟩
  · rw [if_neg h1]
    exact .inr ⟨by omega, simpL ss M ss.length 0 (ss.length - 1), by simp, simpL_ch ss.length 0 (ss.length - 1) (by omega) (by omega)⟩
theorem fewest_chain {ss : List SmpR} {M : Int} (h : 0 < ss.length) : Chain ss M (fewestL ss M) := by
  by_cases h1 : ss.length = 1
  · refine .inl ⟨h1, ?_⟩
    unfold fewestL
    rw [chainF_end h (by omega)]; rfl
  · obtain ⟨l, q1, q2, _⟩ := chainF_ch (en := enoughB ss M) (n := ss.length) (fun i => enoughB_next ss M i) (ss.length + 1) 0 (by omega) (by omega)
    exact .inr ⟨by omega, l, q1, q2⟩
theorem few_less {ss : List SmpR} {M : Int} : (fewestL ss M).length ≤ (simpleL ss M).length := by
  by_cases h0 : ss.length = 0
  · unfold fewestL simpleL
    rw [if_pos h0, chainF_stop (by omega)]
    exact Nat.le_refl _
  · by_cases h1 : ss.length = 1
    · rcases fewest_chain (ss := ss) (M := M) (by omega) with ⟨_, h⟩ | ⟨h, _⟩
      · rcases simple_chain (ss := ss) (M := M) (by omega) with ⟨_, h'⟩ | ⟨h', _⟩
        · rw [h, h']; exact Nat.le_refl _
        · omega
      · omega
    · obtain ⟨l, q1, q2, q3⟩ := chainF_ch (en := enoughB ss M) (n := ss.length) (fun i => enoughB_next ss M i) (ss.length + 1) 0 (by omega) (by omega)
      have h3 := ChP.many (by omega) (simpL_ch (ss := ss) (M := M) ss.length 0 (ss.length - 1) (by omega) (by omega))
      unfold fewestL simpleL
      rw [if_neg h0, if_neg h1, q1]
      simp
      omega
theorem ris_cons {x : Int} {l : List Int} (h : ∀ y, l[0]? = some y → x < y) (hl : RisP l) : RisP (x :: l)
  | 0, a, b, ha, hb => by simp at ha; subst ha; exact h b (by simpa using hb)
  | i + 1, a, b, ha, hb => hl i a b (by simpa using ha) (by simpa using hb)
theorem ChP.ris {en : Nat → Nat → Bool} {j : Nat} : ∀ {l : List Int} {i : Nat}, ChP en i l j → RisP ((i : Int) :: (l ++ [(j : Int)]))
  | [], i, h => by
    refine ris_cons (fun y hy => ?_) (ris_cons (fun y hy => by simp at hy) (fun a b c d => by simp at d))
    simp at hy; subst hy
    have := h.1
    omega
  | x :: r, i, h => by
    obtain ⟨m, rfl, h1, h3, h4⟩ := h
    refine ris_cons (fun y hy => ?_) (by rw [List.cons_append]; exact h4.ris)
    simp at hy; subst hy; omega
theorem ChP.inn {en : Nat → Nat → Bool} {j : Nat} : ∀ {l : List Int} {i : Nat}, ChP en i l j → ∀ x ∈ (i : Int) :: (l ++ [(j : Int)]), 0 ≤ x ∧ x ≤ j
  | [], i, h, x, hx => by
    have := h.1
    simp at hx
    omega
  | x :: r, i, h, y, hy => by
    obtain ⟨m, rfl, h1, h3, h4⟩ := h
    have h5 := h4.lt
    rcases List.mem_cons.1 hy with h6 | h6
    · omega
    · exact h4.inn y h6
theorem Chain.ris {ss : List SmpR} {M : Int} {F : List Int} (h : Chain ss M F) : RisP F := by
  rcases h with ⟨_, rfl⟩ | ⟨_, l, rfl, h⟩
  · exact ris_cons (fun y hy => by simp at hy) (fun a b c d => by simp at d)
  · exact h.ris
theorem Chain.inn {ss : List SmpR} {M : Int} {F : List Int} (h : Chain ss M F) : InP ss F := by
  rcases h with ⟨h1, rfl⟩ | ⟨h1, l, rfl, h⟩
  · intro x hx
    simp at hx
    omega
  · intro x hx
    have := h.inn x hx
    omega
theorem kept_cons {ss : List SmpR} {x : Nat} {s : SmpR} {r : List Int} (h : ss[x]? = some s) : keptL ss ((x : Int) :: r) = s :: keptL ss r := by
  unfold keptL
  rw [List.filterMap_cons]
  simp [h]
theorem sqD_self (s : SmpR) : sqD s s = 0 := by unfold sqD; simp
section
variable {st : Int} {ss : List SmpR} (hok : SmpOk st ss) {M : Int} (hM : 0 ≤ M)
include hok hM
theorem near_ch {s : SmpR} {k j : Nat} (hs : ss[k]? = some s) (hj : j < ss.length) (hkj : k ≤ j) : ∀ {l : List Int} {i : Nat} {a : SmpR}, ChP (enoughB ss M) i l j → i < k → ss[i]? = some a → sqD s (whereL s.at_ (some a) (keptL ss (l ++ [(j : Int)]))) ≤ M
  | [], i, a, h, hik, ha => by
    have hc : ss[j]? = some (ss[j]'hj) := List.getElem?_eq_getElem _
    rw [List.nil_append, kept_cons hc, whereL_cons]
    have h2 := at_up hok hs (j - k) _ (by rw [show k + (j - k) = j by omega]; exact hc)
    by_cases h1 : k = j
    · subst h1
      rw [hs] at hc
      have := Option.some.inj hc
      rw [← this, if_pos rfl, sqD_self]; exact hM
    · rw [if_neg (by have := h2.2 (by omega); omega), if_neg (by omega)]
      have := enoughB_iff.1 h.2 k hik (by omega)
      rw [errI_eq ha hs hc] at this
      exact this
  | x :: r, i, a, h, hik, ha => by
    obtain ⟨m, rfl, h1, h3, h4⟩ := h
    have hmj := h4.lt
    have hc : ss[m]? = some (ss[m]'(by omega)) := List.getElem?_eq_getElem _
    rw [List.cons_append, kept_cons hc, whereL_cons]
    by_cases hk : k = m
    · subst hk
      rw [hs] at hc
      have := Option.some.inj hc
      rw [← this, if_pos rfl, sqD_self]; exact hM
    · by_cases hlt : k < m
      · have h2 := (at_up hok hs (m - k) _ (by rw [show k + (m - k) = m by omega]; exact hc)).2 (by omega)
        rw [if_neg (by omega), if_neg (by omega)]
        have := enoughB_iff.1 h3 k hik hlt
        rw [errI_eq ha hs hc] at this
        exact this
      · have h2 := (at_up hok hc (k - m) _ (by rw [show m + (k - m) = k by omega]; exact hs)).2 (by omega)
        rw [if_neg (by omega), if_pos h2]
        exact near_ch hs hj hkj h4 (by omega) hc
theorem near_chain {F : List Int} (h : Chain ss M F) {s : SmpR} {k : Nat} (hs : ss[k]? = some s) : sqD s (whereV (keptL ss F) s.at_) ≤ M := by
  have hk := (List.getElem?_eq_some_iff.1 hs).1
  have h0 : ss[0]? = some (ss[0]'(by omega)) := List.getElem?_eq_getElem _
  unfold whereV
  rcases h with ⟨h1, rfl⟩ | ⟨h1, l, rfl, h⟩
  · obtain rfl : k = 0 := by omega
    rw [show [(0 : Int)] = [((0 : Nat) : Int)] from rfl, kept_cons hs, whereL_cons, if_pos rfl, sqD_self]; exact hM
  · rw [show (0 : Int) = ((0 : Nat) : Int) from rfl, kept_cons h0, whereL_cons]
    by_cases hk0 : k = 0
    · subst hk0
      rw [hs] at h0
      have := Option.some.inj h0
      rw [← this, if_pos rfl, sqD_self]; exact hM
    · have h2 := (at_up hok h0 (k - 0) _ (by rw [show 0 + (k - 0) = k by omega]; exact hs)).2 (by omega)
      rw [if_neg (by omega), if_pos h2]
      exact near_ch hok hM hs (by omega) (by omega) h (by omega) h0
end
theorem kept_get {ss : List SmpR} : ∀ {F : List Int}, InP ss F → ∀ (i : Nat) (x : SmpR), (keptL ss F)[i]? = some x → ∃ n : Nat, F[i]? = some (n : Int) ∧ ss[n]? = some x
  | [], _, i, x, h => by simp [keptL] at h
  | y :: r, hin, i, x, h => by
    have hy := hin y (by simp)
    obtain ⟨m, rfl⟩ := Int.eq_ofNat_of_zero_le hy.1
    have hm : ss[m]? = some (ss[m]'(by omega)) := List.getElem?_eq_getElem _
    rw [kept_cons hm] at h
    cases i with
    | zero => simp at h; subst h; exact ⟨m, rfl, hm⟩
    | succ i =>
      obtain ⟨k, a, b⟩ := kept_get (F := r) (fun z hz => hin z (by simp [hz])) i x (by simpa using h)
      exact ⟨k, by simpa using a, b⟩
theorem kept_lenI {ss : List SmpR} : ∀ {F : List Int}, InP ss F → (keptL ss F).length = F.length
  | [], _ => rfl
  | y :: r, hin => by
    have hy := hin y (by simp)
    obtain ⟨m, rfl⟩ := Int.eq_ofNat_of_zero_le hy.1
    have hm : ss[m]? = some (ss[m]'(by omega)) := List.getElem?_eq_getElem _
    rw [kept_cons hm, List.length_cons, List.length_cons, kept_lenI (F := r) (fun z hz => hin z (by simp [hz]))]
theorem kept_ok {st : Int} {ss : List SmpR} (hok : SmpOk st ss) {F : List Int} (hr : RisP F) (hin : InP ss F) (h0 : F[0]? = some 0) : SmpOk st (keptL ss F) := by
  refine ⟨?_, fun x hx => ?_, fun i x y hx hy => ?_, fun x hx => hok.bd x (kept_in x hx)⟩
  · rw [kept_lenI hin]
    exact Nat.le_trans (ris_len hr hin) hok.len
  · obtain ⟨n, a, b⟩ := kept_get hin 0 x hx
    rw [h0] at a
    have : (0 : Int) = n := Option.some.inj a
    obtain rfl : n = 0 := by omega
    exact hok.first x b
  · obtain ⟨n, a, b⟩ := kept_get hin i x hx
    obtain ⟨m, c, d⟩ := kept_get hin (i + 1) y hy
    have h1 := hr i _ _ a c
    exact (at_up hok b (m - n) y (by rw [show n + (m - n) = m by omega]; exact d)).2 (by omega)
theorem smp_chk {st : Int} {ss : List SmpR} (h : SmpOk st ss) : chkE (fS st) none ss = 0 := by
  have key : ∀ k, k ≤ ss.length → chkE (fS st) none ss = chkE (fS st) (ahead ss k) (ss.drop k) := by
    intro k
    induction k with
    | zero => intro _; exact chkE_start _ _
    | succ k ih =>
      intro hk
      have hx : ss[k]? = some (ss[k]'(by omega)) := List.getElem?_eq_getElem _
      refine chkE_next (ih (by omega)) hx ?_
      have hb := h.bd _ (List.mem_of_getElem? hx)
      have ho : ordS (ahead ss k) (ss[k]'(by omega)) = false := by
        cases k with
        | zero => rw [ahead_zero]; exact decide_eq_false (by have := h.first _ hx; omega)
        | succ m =>
          have hy : ss[m]? = some (ss[m]'(by omega)) := List.getElem?_eq_getElem _
          rw [ahead_succ hy]
          exact decide_eq_false (by have := h.rise m _ _ hy hx; omega)
      have hi : smpIn (ss[k]'(by omega)) = true := by
        unfold smpIn
        simp only [Bool.and_eq_true]
        exact ⟨⟨⟨inB_iff.2 hb.2.2.2.1, inB_iff.2 hb.2.2.2.2.1⟩, inB_iff.2 hb.2.2.2.2.2.1⟩, ⟨inB_iff.2 hb.2.2.2.2.2.2.1, inB_iff.2 hb.2.2.2.2.2.2.2.1⟩, inB_iff.2 hb.2.2.2.2.2.2.2.2⟩
      unfold fS
      rw [if_neg (by rw [ho]; simp), if_neg]
      rintro (h | h | h)
      · omega
      · omega
      · rw [hi] at h; cases h
  exact chkE_end (key ss.length (Nat.le_refl _)) (Nat.le_refl _)
theorem Chain.zero {ss : List SmpR} {M : Int} {F : List Int} (h : Chain ss M F) : F[0]? = some 0 := by
  rcases h with ⟨_, rfl⟩ | ⟨_, l, rfl, _⟩ <;> rfl
/-- The activity without laps. -/
def noLaps (a : ActD) : ActD := ⟨a.name, a.sport, a.start, a.ss, [], a.ts⟩
def keptD (a : ActD) (F : List Int) : ActD := ⟨a.name, a.sport, a.start, keptL a.ss F, [], a.ts⟩
theorem noLaps_good {a : ActD} (h : GoodA a) : GoodA (noLaps a) := ⟨⟨h.head.1, h.head.2.1, h.head.2.2.1, h.head.2.2.2.1, Nat.zero_le _, h.head.2.2.2.2.2⟩, h.s, rfl, h.t⟩
theorem keptD_good {a : ActD} (h : GoodA a) {M : Int} {F : List Int} (hc : Chain a.ss M F) : GoodA (keptD a F) :=
  have hk := kept_ok h.smp hc.ris hc.inn hc.zero
  ⟨⟨h.head.1, h.head.2.1, h.head.2.2.1, hk.len, Nat.zero_le _, h.head.2.2.2.2.2⟩, smp_chk hk, rfl, h.t⟩
theorem only_kept {a : ActD} (h : chkA a = 0) {M : Int} {F : List Int} (hc : Chain a.ss M F) : onlyR (noLaps a) F = (keptD a F, 0) := by
  have hg := goodA h
  have hk := keptD_good hg hc
  have hf : firstAt (keptL a.ss F) = 0 := by
    cases hx : (keptL a.ss F)[0]? with
    | none => simp [firstAt, hx]
    | some x => rw [firstAt_eq hx]; exact hk.smp.first x hx
  have hp : partD (noLaps a) (keptL a.ss F) 0 = keptD a F := by
    unfold partD
    rw [backS_zero]
    unfold noLaps keptD
    simp [backL]
  rw [onlyR_0 (a := noLaps a) (noLaps_good hg).chk hc.ris hc.inn]
  show partR (noLaps a) (keptL a.ss F) (firstAt (keptL a.ss F)) = _
  rw [hf, partR_0 (by rw [hp, hk.chk]; simp), hp]
theorem kept_span {st : Int} {ss : List SmpR} (hok : SmpOk st ss) {M : Int} {F : List Int} (hc : Chain ss M F) {s : SmpR} {k : Nat} (hs : ss[k]? = some s) : 0 ≤ s.at_ ∧ s.at_ ≤ spanL (keptL ss F) ∧ (keptL ss F).length ≠ 0 := by
  have hk := (List.getElem?_eq_some_iff.1 hs).1
  have hb := hok.bd s (List.mem_of_getElem? hs)
  have hlen := kept_lenI hc.inn
  have hF : F[F.length - 1]? = some ((ss.length - 1 : Nat) : Int) ∧ 0 < F.length := by
    rcases hc with ⟨h1, rfl⟩ | ⟨h1, l, rfl, _⟩
    · rw [h1]; exact ⟨rfl, by decide⟩
    · refine ⟨?_, by simp⟩
      rw [← List.getLast?_eq_getElem?]
      simp [List.getLast?_cons, List.getLast?_append]
  refine ⟨hb.1, ?_, by omega⟩
  have hl : (keptL ss F)[(keptL ss F).length - 1]? = some ((keptL ss F)[(keptL ss F).length - 1]'(by omega)) := List.getElem?_eq_getElem _
  obtain ⟨n, a, b⟩ := kept_get hc.inn _ _ hl
  rw [hlen, hF.1] at a
  have := Option.some.inj a
  obtain rfl : n = ss.length - 1 := by omega
  rw [spanL_get hl (by omega)]
  have := (at_up hok hs (ss.length - 1 - k) _ (by rw [show k + (ss.length - 1 - k) = ss.length - 1 by omega]; exact b)).1
  exact this
end Go.Proofs.Ytogcclagmobkiaa
