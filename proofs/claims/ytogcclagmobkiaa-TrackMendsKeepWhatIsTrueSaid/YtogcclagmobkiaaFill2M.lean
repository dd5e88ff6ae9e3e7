/-
  Fill: filling twice is filling once; what is known stays; a filled activity is right.
-/
import Derived.Test.YtogcclagmobkiaaFillM
namespace Go.Proofs.Ytogcclagmobkiaa
set_option linter.unusedVariables false
set_option linter.unusedSimpArgs false
/-- Between known numbers that are not neighbours there are more seconds than the gap. -/
def Gaps (f : Nat) (gap : Int) (l : List SmpR) : Prop := ∀ (L i : Nat) (p q : SmpR), L + 1 < i → l[L]? = some p → l[i]? = some q → 0 ≤ p.num f → 0 ≤ q.num f → (∀ (j : Nat) (x : SmpR), L < j → j < i → l[j]? = some x → x.num f < 0) → gap < q.at_ - p.at_
theorem Gaps.sam {f : Nat} {gap : Int} {l m : List SmpR} (h : Gaps f gap l) (hs : SamF f m l) : Gaps f gap m := by
  intro L i p q hL hp hq h1 h2 hn
  obtain ⟨p', hp', e1, e2⟩ := hs.get hp
  obtain ⟨q', hq', e3, e4⟩ := hs.get hq
  have := h L i p' q' hL hp' hq' (by omega) (by omega) (fun j x h3 h4 hx => by
    obtain ⟨x', hx', e5, e6⟩ := hs.symm.get hx
    have := hn j x' h3 h4 hx'
    omega)
  omega
/-- Nothing is known behind the last. -/
theorem fillN_none {f : Nat} {gap : Int} {cur : List SmpR} : ∀ (i : Nat) (j : Nat) (x : SmpR), (fillN f gap cur i).2 < (j : Int) → j < i → cur[j]? = some x → x.num f < 0
  | i + 1, j, x, h, hj, hx => by
    cases hq : cur[i]? with
    | none =>
      have : cur.length ≤ i := List.getElem?_eq_none_iff.1 hq
      have e : fillN f gap cur (i + 1) = fillN f gap cur i := by rw [fillN, hq]
      rw [e] at h
      by_cases hji : j = i
      · subst hji; rw [hq] at hx; cases hx
      · exact fillN_none i j x h (by omega) hx
    | some q =>
      by_cases h1 : q.num f < 0
      · have e := fillN_a (gap := gap) hq h1
        rw [e] at h
        by_cases hji : j = i
        · subst hji; rw [hq] at hx; cases hx; exact h1
        · exact fillN_none i j x h (by omega) hx
      · exfalso
        have e2 : (fillN f gap cur (i + 1)).2 = (i : Int) := by
          rw [fillN, hq]
          show (fillS f gap cur (fillN f gap cur i) i q).2 = _
          unfold fillS
          rw [if_neg h1]
          split
          · rfl
          · split <;> rfl
        omega
theorem gaps_same {f : Nat} {gap : Int} {l : List SmpR} (h : Gaps f gap l) : ∀ i, (fillN f gap l i).1 = l
  | 0 => rfl
  | i + 1 => by
    have ih := gaps_same h i
    have hI := fillI f gap l i
    cases hq : l[i]? with
    | none => rw [fillN, hq]; exact ih
    | some q =>
      by_cases h1 : q.num f < 0
      · rw [fillN_a hq h1]; exact ih
      · rcases hI.last with h2 | ⟨L, p, h2, h3, h4, h5⟩
        · rw [fillN_b hq h1 (by omega)]; exact ih
        · have hp : l[(fillN f gap l i).2.toNat]? = some p := by rw [h2, Int.toNat_natCast]; exact h4
          by_cases h6 : q.at_ - p.at_ ≤ gap
          · rw [fillN_d hq h1 (by omega) hp h6, h2, Int.toNat_natCast]
            by_cases hL : L + 1 < i
            · have := h L i p q hL h4 hq h5 (by omega) (fun j x h7 h8 hx => fillN_none (gap := gap) i j x (by rw [h2]; omega) h8 hx)
              omega
            · rw [show i - (L + 1) = 0 by omega]; exact ih
          · rw [fillN_c hq h1 (by omega) hp h6]; exact ih
theorem gaps_fix {f : Nat} {gap : Int} {l : List SmpR} (h : Gaps f gap l) : fillP f gap l = l := gaps_same h _
/-! #### what a pass writes -/
theorem btw_pos {p q n d : Int} (hn : 0 ≤ n) (hd : 1 ≤ d) (h : n ≤ d) (hp : 0 ≤ p) (hq : 0 ≤ q) : 0 ≤ btw p q n d := by
  have h1 := nearV_bd (a := q - p) hn hd h
  unfold btw
  by_cases h2 : 0 ≤ q - p
  · have := h1.1 h2; omega
  · have := h1.2 (by omega); omega
theorem btw_top {p q n d M : Int} (hn : 0 ≤ n) (hd : 1 ≤ d) (h : n ≤ d) (hp : p ≤ M) (hq : q ≤ M) : btw p q n d ≤ M := by
  have h1 := nearV_bd (a := q - p) hn hd h
  unfold btw
  by_cases h2 : 0 ≤ q - p
  · have := h1.1 h2; omega
  · have := h1.2 (by omega); omega
/-- What a pass leaves: a number that was not there is between known ones. -/
structure FillO (f : Nat) (gap : Int) (cur : List SmpR) (i : Nat) : Prop where
  keep : ∀ (j : Nat) (x : SmpR), cur[j]? = some x → 0 ≤ x.num f → (fillN f gap cur i).1[j]? = some x
  top : ∀ M : Int, (∀ (j : Nat) (x : SmpR), cur[j]? = some x → x.num f ≤ M) → ∀ (j : Nat) (x : SmpR), (fillN f gap cur i).1[j]? = some x → x.num f ≤ M
  low : ∀ m : Int, m ≤ 0 → (∀ (j : Nat) (x : SmpR), cur[j]? = some x → m ≤ x.num f) → ∀ (j : Nat) (x : SmpR), (fillN f gap cur i).1[j]? = some x → m ≤ x.num f
  gaps : ∀ (L j : Nat) (p q : SmpR), L + 1 < j → j < i → (fillN f gap cur i).1[L]? = some p → (fillN f gap cur i).1[j]? = some q → 0 ≤ p.num f → 0 ≤ q.num f → (∀ (k : Nat) (x : SmpR), L < k → k < j → (fillN f gap cur i).1[k]? = some x → x.num f < 0) → gap < q.at_ - p.at_
  free : ∀ (j : Nat) (x : SmpR), (fillN f gap cur i).2 < (j : Int) → j < i → (fillN f gap cur i).1[j]? = some x → x.num f < 0
theorem fillIn_get {f : Nat} {p q : SmpR} {l : List SmpR} {k0 : Nat} : ∀ (d j : Nat) (x : SmpR), k0 ≤ j → j < k0 + d → l[j]? = some x → (fillIn f p q l k0 d)[j]? = some (x.setNum f (btw (p.num f) (q.num f) (x.at_ - p.at_) (q.at_ - p.at_)))
  | 0, j, x, h1, h2, _ => by omega
  | d + 1, j, x, h1, h2, hx => by
    cases hy : (fillIn f p q l k0 d)[k0 + d]? with
    | none =>
      rw [fillIn, hy]
      by_cases hj : j = k0 + d
      · subst hj; rw [fillIn_out d (k0 + d) (by omega), hx] at hy; cases hy
      · exact fillIn_get d j x h1 (by omega) hx
    | some y =>
      rw [fillIn_succ hy]
      by_cases hj : j = k0 + d
      · subst hj
        have hlt := (List.getElem?_eq_some_iff.1 hy).1
        rw [fillIn_out d (k0 + d) (by omega), hx] at hy
        cases hy
        rw [List.getElem?_set_self hlt]
      · rw [List.getElem?_set_ne (by omega)]
        exact fillIn_get d j x h1 (by omega) hx
theorem fillO {f : Nat} (gap : Int) {cur : List SmpR} (hc : FOk f cur) : ∀ i, FillO f gap cur i
  | 0 => ⟨fun j x hx _ => hx, fun M h => h, fun m _ h => h, fun L j p q h1 h2 => by omega, fun j x h1 h2 => by omega⟩
  | i + 1 => by
    have ih := fillO gap hc i
    have hI := fillI f gap cur i
    cases hq : cur[i]? with
    | none =>
      have hlen : cur.length ≤ i := List.getElem?_eq_none_iff.1 hq
      have e : fillN f gap cur (i + 1) = fillN f gap cur i := by rw [fillN, hq]
      have hgo : ∀ (j : Nat) (x : SmpR), (fillN f gap cur i).1[j]? = some x → j < i := fun j x hx => by
        have := (List.getElem?_eq_some_iff.1 hx).1; rw [fillN_len] at this; omega
      refine ⟨?_, ?_, ?_, ?_, ?_⟩ <;> rw [e]
      · exact ih.keep
      · exact ih.top
      · exact ih.low
      · exact fun L j p q h1 h2 h3 h4 => ih.gaps L j p q h1 (hgo _ _ h4) h3 h4
      · exact fun j x h1 h2 h3 => ih.free j x h1 (hgo _ _ h3) h3
    | some q =>
      have hrq : (fillN f gap cur i).1[i]? = some q := by rw [hI.ahead i (Nat.le_refl _)]; exact hq
      by_cases h1 : q.num f < 0
      · have e := fillN_a (gap := gap) hq h1
        refine ⟨?_, ?_, ?_, ?_, ?_⟩ <;> rw [e]
        · exact ih.keep
        · exact ih.top
        · exact ih.low
        · intro L j p q2 h2 h3 h4 h5 h6 h7
          by_cases hji : j = i
          · subst hji; rw [hrq] at h5; cases h5; omega
          · exact ih.gaps L j p q2 h2 (by omega) h4 h5 h6 h7
        · intro j x h2 h3 h4
          by_cases hji : j = i
          · subst hji; rw [hrq] at h4; cases h4; exact h1
          · exact ih.free j x h2 (by omega) h4
      · have plain : ∀ l2 : Int, fillN f gap cur (i + 1) = ((fillN f gap cur i).1, (i : Int)) → (∀ (L : Nat) (p : SmpR), L + 1 < i → (fillN f gap cur i).1[L]? = some p → 0 ≤ p.num f → (∀ (k : Nat) (x : SmpR), L < k → k < i → (fillN f gap cur i).1[k]? = some x → x.num f < 0) → gap < q.at_ - p.at_) → FillO f gap cur (i + 1) := by
          intro l2 e hg
          refine ⟨?_, ?_, ?_, ?_, ?_⟩ <;> rw [e]
          · exact ih.keep
          · exact ih.top
          · exact ih.low
          · intro L j p q2 h2 h3 h4 h5 h6 h7 h8
            by_cases hji : j = i
            · subst hji; dsimp only at h5; rw [hrq] at h5; cases h5; exact hg L p h2 h4 h6 h8
            · exact ih.gaps L j p q2 h2 (by omega) h4 h5 h6 h7 h8
          · intro j x h2 h3 h4
            dsimp only at h2; omega
        rcases hI.last with h2 | ⟨K, p, h2, h3, h4, h5⟩
        · refine plain 0 (fillN_b hq h1 (by omega)) fun L p' h6 h7 h8 h9 => ?_
          have := ih.free L p' (by omega) (by omega) h7
          omega
        · have hp : cur[(fillN f gap cur i).2.toNat]? = some p := by rw [h2, Int.toNat_natCast]; exact h4
          have hrp : (fillN f gap cur i).1[K]? = some p := by rw [fillN_last h2]; exact h4
          by_cases h6 : q.at_ - p.at_ ≤ gap
          · have e := fillN_d hq h1 (by omega) hp h6
            rw [h2, Int.toNat_natCast] at e
            have hpq := hc.rise K i p q h3 h4 hq
            -- seconds of the row
            have hat : ∀ (j : Nat) (x : SmpR), (fillN f gap cur i).1[j]? = some x → ∃ y, cur[j]? = some y ∧ y.at_ = x.at_ := fun j x hx => by
              have hlt := (List.getElem?_eq_some_iff.1 hx).1
              rw [fillN_len] at hlt
              exact ⟨_, List.getElem?_eq_getElem hlt, (ButF.at (hI.but.2 j x _ hx (List.getElem?_eq_getElem hlt))).symm⟩
            have hbt : ∀ (j : Nat) (x : SmpR), K < j → j < i → (fillN f gap cur i).1[j]? = some x → p.at_ < x.at_ ∧ x.at_ < q.at_ := fun j x h7 h8 hx => by
              obtain ⟨y, hy, ey⟩ := hat j x hx
              have g1 := hc.rise K j p y h7 h4 hy
              have g2 := hc.rise j i y q h8 hy hq
              omega
            have hout : ∀ j, ¬(K < j ∧ j < i) → (fillN f gap cur (i + 1)).1[j]? = (fillN f gap cur i).1[j]? := fun j hj => by
              rw [e]; exact fillIn_out _ _ (by omega)
            have hget : ∀ j, K < j → j < i → ∃ x, (fillN f gap cur i).1[j]? = some x := fun j h7 h8 => by
              have hlt := (List.getElem?_eq_some_iff.1 hrq).1
              exact ⟨_, List.getElem?_eq_getElem (by omega)⟩
            have hin : ∀ (j : Nat) (x : SmpR), K < j → j < i → (fillN f gap cur (i + 1)).1[j]? = some x → ∃ y, (fillN f gap cur i).1[j]? = some y ∧ x.num f = btw (p.num f) (q.num f) (y.at_ - p.at_) (q.at_ - p.at_) ∧ p.at_ < y.at_ ∧ y.at_ < q.at_ ∧ x.at_ = y.at_ := fun j x h7 h8 hx => by
              obtain ⟨y, hy⟩ := hget j h7 h8
              rw [e] at hx
              dsimp only at hx
              rw [fillIn_get (i - (K + 1)) j y (by omega) (by omega) hy] at hx
              cases hx
              have := hbt j y h7 h8 hy
              exact ⟨y, hy, num_setNum _ _ _, this.1, this.2, setNum_at _ _ _⟩
            have hpos : ∀ (j : Nat) (x : SmpR), K < j → j < i → (fillN f gap cur (i + 1)).1[j]? = some x → 0 ≤ x.num f := fun j x h7 h8 hx => by
              obtain ⟨y, hy, e2, h9, h10, _⟩ := hin j x h7 h8 hx
              rw [e2]; exact btw_pos (by omega) (by omega) (by omega) h5 (by omega)
            have e2 : (fillN f gap cur (i + 1)).2 = (i : Int) := by rw [e]
            refine ⟨fun j x hx h7 => ?_, fun M hM j x hx => ?_, fun m hm hM j x hx => ?_, fun L j p2 q2 h7 h8 h9 h10 h11 h12 h13 => ?_, fun j x h7 h8 h9 => by omega⟩
            · by_cases hj : K < j ∧ j < i
              · have := fillN_none (gap := gap) (cur := cur) i j x (by rw [h2]; omega) hj.2 hx
                omega
              · rw [hout j hj]; exact ih.keep j x hx h7
            · by_cases hj : K < j ∧ j < i
              · obtain ⟨y, hy, e3, h9, h10, _⟩ := hin j x hj.1 hj.2 hx
                rw [e3]; exact btw_top (by omega) (by omega) (by omega) (hM K p h4) (hM i q hq)
              · rw [hout j hj] at hx; exact ih.top M hM j x hx
            · by_cases hj : K < j ∧ j < i
              · have := hpos j x hj.1 hj.2 hx; omega
              · rw [hout j hj] at hx; exact ih.low m hm hM j x hx
            · have hlt := (List.getElem?_eq_some_iff.1 hrq).1
              by_cases hjK : j ≤ K
              · rw [hout j (by omega)] at h10
                rw [hout L (by omega)] at h9
                exact ih.gaps L j p2 q2 h7 (by omega) h9 h10 h11 h12 (fun k x h14 h15 hx => h13 k x h14 h15 (by rw [hout k (by omega)]; exact hx))
              · exfalso
                by_cases hjk : j = K + 1
                · have := h13 K p (by omega) (by omega) (by rw [hout K (by omega)]; exact hrp); omega
                · have hl2 : (fillN f gap cur (i + 1)).1.length = cur.length := fillN_len _ _ _ _
                  have hl1 : (fillN f gap cur i).1.length = cur.length := fillN_len _ _ _ _
                  have hz := List.getElem?_eq_getElem (l := (fillN f gap cur (i + 1)).1) (i := j - 1) (by omega)
                  have g1 := hpos (j - 1) _ (by omega) (by omega) hz
                  have g2 := h13 (j - 1) _ (by omega) (by omega) hz
                  omega
          · refine plain 0 (fillN_c hq h1 (by omega) hp h6) fun L p' h7 h8 h9 h10 => ?_
            by_cases hL : L = K
            · subst hL; rw [hrp] at h8; cases h8; omega
            · exfalso
              by_cases hLK : L < K
              · have := h10 K p hLK (by omega) hrp; omega
              · have := ih.free L p' (by omega) (by omega) h8; omega
theorem fillP_gaps {f : Nat} (gap : Int) {l : List SmpR} (h : FOk f l) : Gaps f gap (fillP f gap l) := by
  intro L i p q h1 h2 h3 h4 h5 h6
  have hlt := (List.getElem?_eq_some_iff.1 h3).1
  unfold fillP at hlt h2 h3 h6
  rw [fillN_len] at hlt
  exact (fillO gap h l.length).gaps L i p q h1 hlt h2 h3 h4 h5 h6
/-! #### all three passes -/
theorem fillAll_sam (gap : Int) (ss : List SmpR) {g : Nat} (hg : g < 3) : SamF g (fillAll gap ss) (fillP g gap (fillW gap ss g)) := fillW_later gap ss hg 3 hg (Nat.le_refl _)
theorem fillAll_twice {st : Int} {ss : List SmpR} (gap : Int) (h : SmpOk st ss) : fillAll gap (fillAll gap ss) = fillAll gap ss := by
  have hg : ∀ g, g < 3 → fillP g gap (fillAll gap ss) = fillAll gap ss := fun g hg => gaps_fix ((fillP_gaps gap (fillW_ok h hg)).sam (fillAll_sam gap ss hg))
  show fillP 2 gap (fillP 1 gap (fillP 0 gap (fillAll gap ss))) = _
  rw [hg 0 (by omega), hg 1 (by omega), hg 2 (by omega)]
/-- The other cells of a sample. -/
def OthS (x y : SmpR) : Prop := x.at_ = y.at_ ∧ x.x = y.x ∧ x.y = y.y ∧ x.z = y.z
theorem oth_of {f : Nat} {x y : SmpR} (h : x.setNum f 0 = y.setNum f 0) : OthS x y := by
  have e : ∀ z : SmpR, OthS (z.setNum f 0) z := fun z => by
    unfold SmpR.setNum OthS
    split
    · exact ⟨rfl, rfl, rfl, rfl⟩
    · split <;> exact ⟨rfl, rfl, rfl, rfl⟩
  obtain ⟨a1, a2, a3, a4⟩ := e x
  obtain ⟨b1, b2, b3, b4⟩ := e y
  rw [h] at a1 a2 a3 a4
  exact ⟨by omega, by omega, by omega, by omega⟩
theorem fillW_oth (gap : Int) (ss : List SmpR) : ∀ (k i : Nat) (x y : SmpR), (fillW gap ss k)[i]? = some x → ss[i]? = some y → OthS x y
  | 0, i, x, y, hx, hy => by
    change ss[i]? = _ at hx
    rw [hx] at hy; cases hy; exact ⟨rfl, rfl, rfl, rfl⟩
  | k + 1, i, x, y, hx, hy => by
    have hlt := (List.getElem?_eq_some_iff.1 hy).1
    have hz := List.getElem?_eq_getElem (l := fillW gap ss k) (i := i) (by rw [fillW_len]; exact hlt)
    obtain ⟨a1, a2, a3, a4⟩ := oth_of ((fillP_but k gap (fillW gap ss k)).2 i x _ hx hz)
    obtain ⟨b1, b2, b3, b4⟩ := fillW_oth gap ss k i _ y hz hy
    exact ⟨by omega, by omega, by omega, by omega⟩
theorem fillAll_len (gap : Int) (ss : List SmpR) : (fillAll gap ss).length = ss.length := fillW_len gap ss 3
/-- What is known stays; what is filled is in the range of the known. -/
theorem fillAll_num {st : Int} {ss : List SmpR} (gap : Int) (h : SmpOk st ss) {g : Nat} (hg : g < 3) {i : Nat} {x y : SmpR} (hx : (fillAll gap ss)[i]? = some x) (hy : ss[i]? = some y) :
    (0 ≤ y.num g → x.num g = y.num g) ∧ (∀ M : Int, (∀ (j : Nat) (x : SmpR), ss[j]? = some x → x.num g ≤ M) → x.num g ≤ M) ∧ (∀ m : Int, m ≤ 0 → (∀ (j : Nat) (x : SmpR), ss[j]? = some x → m ≤ x.num g) → m ≤ x.num g) := by
  have hO := fillO gap (fillW_ok (gap := gap) h hg) (fillW gap ss g).length
  obtain ⟨x1, hx1, _, e1⟩ := (fillAll_sam gap ss hg).get hx
  have hs := fillW_sam gap ss hg g (Nat.le_refl _)
  obtain ⟨y1, hy1, _, e2⟩ := hs.symm.get hy
  unfold fillP at hx1
  refine ⟨fun h0 => ?_, fun M hM => ?_, fun m hm hM => ?_⟩
  · have := hO.keep i y1 hy1 (by omega)
    rw [hx1] at this
    cases this; omega
  · have := hO.top M (fun j z hz => by obtain ⟨z', hz', _, e3⟩ := hs.get hz; have := hM j z' hz'; omega) i x1 hx1
    omega
  · have := hO.low m hm (fun j z hz => by obtain ⟨z', hz', _, e3⟩ := hs.get hz; have := hM j z' hz'; omega) i x1 hx1
    omega
theorem fillAll_ok {st : Int} {ss : List SmpR} (gap : Int) (h : SmpOk st ss) : SmpOk st (fillAll gap ss) := by
  have hget : ∀ (i : Nat) (x : SmpR), (fillAll gap ss)[i]? = some x → ∃ y, ss[i]? = some y ∧ OthS x y := fun i x hx => by
    have hlt := (List.getElem?_eq_some_iff.1 hx).1
    rw [fillAll_len] at hlt
    exact ⟨_, List.getElem?_eq_getElem hlt, fillW_oth gap ss 3 i x _ hx (List.getElem?_eq_getElem hlt)⟩
  refine ⟨by rw [fillAll_len]; exact h.len, fun x hx => ?_, fun i x y hx hy => ?_, fun x hx => ?_⟩
  · obtain ⟨y, hy, e, _⟩ := hget 0 x hx
    rw [e]; exact h.first y hy
  · obtain ⟨x', hx', e, _⟩ := hget i x hx
    obtain ⟨y', hy', e2, _⟩ := hget (i + 1) y hy
    have := h.rise i x' y' hx' hy'
    omega
  · obtain ⟨i, hi⟩ := List.mem_iff_getElem?.1 hx
    obtain ⟨y, hy, e1, e2, e3, e4⟩ := hget i x hi
    have hb := h.bd y (List.mem_of_getElem? hy)
    have hB := fun j z (hz : ss[j]? = some z) => h.bd z (List.mem_of_getElem? hz)
    have g0 := fillAll_num gap h (g := 0) (by omega) hi hy
    have g1 := fillAll_num gap h (g := 1) (by omega) hi hy
    have g2 := fillAll_num gap h (g := 2) (by omega) hi hy
    have p0 := g0.2.1 300 (fun j z hz => (hB j z hz).2.2.2.2.2.2.1.2)
    have p1 := g1.2.1 3000 (fun j z hz => (hB j z hz).2.2.2.2.2.2.2.1.2)
    have p2 := g2.2.1 300 (fun j z hz => (hB j z hz).2.2.2.2.2.2.2.2.2)
    have q0 := g0.2.2 (-1) (by omega) (fun j z hz => (hB j z hz).2.2.2.2.2.2.1.1)
    have q1 := g1.2.2 (-1) (by omega) (fun j z hz => (hB j z hz).2.2.2.2.2.2.2.1.1)
    have q2 := g2.2.2 (-1) (by omega) (fun j z hz => (hB j z hz).2.2.2.2.2.2.2.2.1)
    rw [e1, e2, e3, e4]
    refine ⟨hb.1, hb.2.1, hb.2.2.1, hb.2.2.2.1, hb.2.2.2.2.1, hb.2.2.2.2.2.1, ⟨q0, p0⟩, ⟨q1, p1⟩, ⟨q2, p2⟩⟩
end Go.Proofs.Ytogcclagmobkiaa
