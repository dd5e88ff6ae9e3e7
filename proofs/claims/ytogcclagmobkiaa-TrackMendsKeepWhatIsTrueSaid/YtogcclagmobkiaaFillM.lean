/-
  Fill: plain part, what the walks and the second law need.
-/
import Derived.Test.YtogcclagmobkiaaMendM
namespace Go.Proofs.Ytogcclagmobkiaa
set_option linter.unusedVariables false
set_option linter.unusedSimpArgs false
theorem fillN_last {f : Nat} {gap : Int} {cur : List SmpR} : ∀ {i k : Nat}, (fillN f gap cur i).2 = (k : Int) → (fillN f gap cur i).1[k]? = cur[k]?
  | 0, k, h => rfl
  | i + 1, k, h => by
    have ih := fillI f gap cur i
    cases hq : cur[i]? with
    | none =>
      have e : fillN f gap cur (i + 1) = fillN f gap cur i := by rw [fillN, hq]
      rw [e] at h ⊢; exact fillN_last h
    | some q =>
      by_cases h1 : q.num f < 0
      · have e := fillN_a (gap := gap) hq h1
        rw [e] at h ⊢; exact fillN_last h
      · rcases ih.last with h2 | ⟨L, p, h2, h3, h4, h5⟩
        · have e := fillN_b (gap := gap) hq h1 (by omega)
          rw [e] at h ⊢
          have hik : i = k := by have h9 : (i : Int) = (k : Int) := h; omega
          subst hik; exact ih.ahead i (Nat.le_refl _)
        · have hp : cur[(fillN f gap cur i).2.toNat]? = some p := by rw [h2, Int.toNat_natCast]; exact h4
          by_cases h6 : q.at_ - p.at_ ≤ gap
          · have e := fillN_d hq h1 (by omega) hp h6
            rw [e] at h ⊢
            have hik : i = k := by have h9 : (i : Int) = (k : Int) := h; omega
            subst hik
            show (fillIn f p q (fillN f gap cur i).1 ((fillN f gap cur i).2.toNat + 1) (i - ((fillN f gap cur i).2.toNat + 1)))[i]? = _
            rw [fillIn_out _ _ (by omega)]; exact ih.ahead i (Nat.le_refl _)
          · have e := fillN_c hq h1 (by omega) hp h6
            rw [e] at h ⊢
            have hik : i = k := by have h9 : (i : Int) = (k : Int) := h; omega
            subst hik; exact ih.ahead i (Nat.le_refl _)
theorem fillIn_congr {f : Nat} {p p' q q' : SmpR} {l : List SmpR} {k : Nat} (h1 : p.num f = p'.num f) (h2 : q.num f = q'.num f) (h3 : p.at_ = p'.at_) (h4 : q.at_ = q'.at_) : ∀ d, fillIn f p q l k d = fillIn f p' q' l k d
  | 0 => rfl
  | d + 1 => by rw [fillIn, fillIn, fillIn_congr h1 h2 h3 h4 d, h1, h2, h3, h4]
/-- What a pass needs of its row. -/
structure FOk (f : Nat) (l : List SmpR) : Prop where
  rise : ∀ (i j : Nat) (x y : SmpR), i < j → l[i]? = some x → l[j]? = some y → x.at_ < y.at_
  bd : ∀ (i : Nat) (x : SmpR), l[i]? = some x → 0 ≤ x.at_ ∧ x.at_ ≤ 1000000 ∧ -100000000 ≤ x.num f ∧ x.num f ≤ 100000000
theorem rise_all {ss : List SmpR} (h : ∀ i x y, ss[i]? = some x → ss[i + 1]? = some y → x.at_ < y.at_) : ∀ (d i : Nat) (x y : SmpR), ss[i]? = some x → ss[i + d + 1]? = some y → x.at_ < y.at_
  | 0, i, x, y, hx, hy => h i x y hx hy
  | d + 1, i, x, y, hx, hy => by
    have hlt : i + d + 1 < ss.length := by have := (List.getElem?_eq_some_iff.1 hy).1; omega
    have hz := List.getElem?_eq_getElem hlt
    have h1 := rise_all h d i x _ hx hz
    have h2 := h _ _ _ hz (by rw [show i + d + 1 + 1 = i + (d + 1) + 1 by omega]; exact hy)
    omega
theorem SmpOk.fok {st : Int} {ss : List SmpR} (h : SmpOk st ss) (f : Nat) : FOk f ss := by
  refine ⟨fun i j x y hij hx hy => rise_all h.rise (j - i - 1) i x y hx (by rw [show i + (j - i - 1) + 1 = j by omega]; exact hy), fun i x hx => ?_⟩
  have hb := h.bd x (List.mem_of_getElem? hx)
  refine ⟨by omega, by omega, ?_⟩
  unfold SmpR.num
  split
  · omega
  · split <;> omega
/-- The same seconds and the same numbers. -/
def SamF (f : Nat) (l m : List SmpR) : Prop := l.length = m.length ∧ ∀ (i : Nat) (x y : SmpR), l[i]? = some x → m[i]? = some y → x.at_ = y.at_ ∧ x.num f = y.num f
theorem SamF.refl (f : Nat) (l : List SmpR) : SamF f l l := ⟨rfl, fun i x y hx hy => by rw [hx] at hy; cases hy; exact ⟨rfl, rfl⟩⟩
theorem SamF.get {f : Nat} {l m : List SmpR} (h : SamF f l m) {i : Nat} {x : SmpR} (hx : l[i]? = some x) : ∃ y, m[i]? = some y ∧ x.at_ = y.at_ ∧ x.num f = y.num f := by
  have hlt := (List.getElem?_eq_some_iff.1 hx).1
  rw [h.1] at hlt
  exact ⟨_, List.getElem?_eq_getElem hlt, h.2 i x _ hx (List.getElem?_eq_getElem hlt)⟩
theorem SamF.symm {f : Nat} {l m : List SmpR} (h : SamF f l m) : SamF f m l := ⟨h.1.symm, fun i x y hx hy => ⟨(h.2 i y x hy hx).1.symm, (h.2 i y x hy hx).2.symm⟩⟩
theorem SamF.trans {f : Nat} {l m n : List SmpR} (h : SamF f l m) (h2 : SamF f m n) : SamF f l n := by
  refine ⟨h.1.trans h2.1, fun i x z hx hz => ?_⟩
  obtain ⟨y, hy, e1, e2⟩ := h.get hx
  have := h2.2 i y z hy hz
  exact ⟨by omega, by omega⟩
theorem FOk.sam {f : Nat} {l m : List SmpR} (h : FOk f l) (hs : SamF f m l) : FOk f m := by
  refine ⟨fun i j x y hij hx hy => ?_, fun i x hx => ?_⟩
  · obtain ⟨x', hx', e1, _⟩ := hs.get hx
    obtain ⟨y', hy', e2, _⟩ := hs.get hy
    have := h.rise i j x' y' hij hx' hy'
    omega
  · obtain ⟨x', hx', e1, e2⟩ := hs.get hx
    have := h.bd i x' hx'
    omega
theorem num_other {f g : Nat} (hf : f < 3) (hg : g < 3) (h : f ≠ g) (x : SmpR) (v : Int) : (x.setNum f v).num g = x.num g := by
  unfold SmpR.setNum SmpR.num
  rcases (show f = 0 ∨ f = 1 ∨ f = 2 by omega) with rfl | rfl | rfl <;> rcases (show g = 0 ∨ g = 1 ∨ g = 2 by omega) with rfl | rfl | rfl <;> first | omega | simp
theorem ButF.sam {f g : Nat} {l m : List SmpR} (hf : f < 3) (hg : g < 3) (h : f ≠ g) (hb : ButF f l m) : SamF g l m := by
  refine ⟨hb.1, fun i x y hx hy => ?_⟩
  have e := hb.2 i x y hx hy
  refine ⟨ButF.at e, ?_⟩
  rw [← num_other hf hg h x 0, e, num_other hf hg h]
/-- The passes one after the other. -/
def fillW (gap : Int) (ss : List SmpR) : Nat → List SmpR
  | 0 => ss
  | k + 1 => fillP k gap (fillW gap ss k)
theorem fillW_all (gap : Int) (ss : List SmpR) : fillW gap ss 3 = fillAll gap ss := rfl
theorem fillW_sam (gap : Int) (ss : List SmpR) {g : Nat} (hg : g < 3) : ∀ k, k ≤ g → SamF g (fillW gap ss k) ss
  | 0, _ => SamF.refl _ _
  | k + 1, h => (ButF.sam (by omega) hg (by omega) (fillP_but k gap _)).trans (fillW_sam gap ss hg k (by omega))
theorem fillW_later (gap : Int) (ss : List SmpR) {g : Nat} (hg : g < 3) : ∀ k, g < k → k ≤ 3 → SamF g (fillW gap ss k) (fillW gap ss (g + 1))
  | k + 1, h, h3 => by
    by_cases hk : k = g
    · subst hk; exact SamF.refl _ _
    · exact (ButF.sam (by omega) hg hk (fillP_but k gap _)).trans (fillW_later gap ss hg k (by omega) (by omega))
theorem fillW_ok {gap : Int} {ss : List SmpR} {st : Int} (h : SmpOk st ss) {k : Nat} (hk : k < 3) : FOk k (fillW gap ss k) := (h.fok k).sam (fillW_sam gap ss hk k (Nat.le_refl _))
theorem fillW_len (gap : Int) (ss : List SmpR) : ∀ k, (fillW gap ss k).length = ss.length
  | 0 => rfl
  | k + 1 => (fillP_but k gap _).1.trans (fillW_len gap ss k)
/-! #### what a pass at a place needs -/
theorem fillN_len (f : Nat) (gap : Int) (cur : List SmpR) (i : Nat) : (fillN f gap cur i).1.length = cur.length := (fillI f gap cur i).but.1
theorem fillIn_len (f : Nat) (p q : SmpR) (l : List SmpR) (k d : Nat) : (fillIn f p q l k d).length = l.length := (fillIn_but (ButF.refl f l) d).1
/-- One step of the inner loop. -/
theorem fill_step {f : Nat} {p q : SmpR} {R : List SmpR} {L d : Nat} {x : SmpR} {n n2 : Int} (hx : (fillIn f p q R (L + 1) d)[L + 1 + d]? = some x) (h1 : n = x.at_ - p.at_) (h2 : n2 = q.at_ - p.at_) :
    fillIn f p q R (L + 1) (d + 1) = (fillIn f p q R (L + 1) d).set (L + 1 + d) (x.setNum f (btw (p.num f) (q.num f) n n2)) := by
  rw [fillIn_succ hx, h1, h2]
end Go.Proofs.Ytogcclagmobkiaa
