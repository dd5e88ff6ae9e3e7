/-
  Efforts are rows: plain part.
-/
import Derived.Test.YtbbhcffkleplnaaEft2M
namespace Go.Proofs.Ytbbhcffkleplnaa
set_option linter.unusedVariables false
set_option linter.unusedSimpArgs false
theorem frac_ediv {a b c d D : Int} (hb : 0 < b) (hd : 0 < d) (hD : 0 ≤ D) (h : a * d ≤ c * b) : a * D / b ≤ c * D / d := by
  refine Int.le_ediv_of_mul_le hd ?_
  have h1 := Int.ediv_mul_le (a * D) (show b ≠ 0 by omega)
  have h2 := Int.mul_le_mul_of_nonneg_right h1 (Int.le_of_lt hd)
  have h3 := Int.mul_le_mul_of_nonneg_right h hD
  have h4 : a * D / b * d * b ≤ c * D * b := by
    rw [Int.mul_right_comm (a * D / b) d b, Int.mul_right_comm c D b]
    rw [Int.mul_right_comm a D d] at h2
    omega
  exact Int.le_of_mul_le_mul_right h4 hb
theorem SmpOk.upto {st : Int} {ss : List SmpR} (h : SmpOk st ss) : ∀ (d i : Nat) (x y : SmpR), ss[i]? = some x → ss[i + d]? = some y → x.at_ ≤ y.at_
  | 0, i, x, y, hx, hy => by rw [Nat.add_zero, hx] at hy; cases hy; exact Int.le_refl _
  | d + 1, i, x, y, hx, hy => by
    have hlt := (List.getElem?_eq_some_iff.1 hy).1
    have hz := List.getElem?_eq_getElem (l := ss) (i := i + d) (by omega)
    have h1 := h.upto d i x _ hx hz
    have h2 := h.rise _ _ _ hz hy
    omega
theorem cross_le {gs : List GateR} {p q : SmpR} {k i j : Nat} {g h : GateR} (hg : ∀ g ∈ gs, ∀ o, fG o g = 0) (hp : PlaceOk p) (hq : PlaceOk q) (hi : gs[i]? = some g) (hj : gs[j]? = some h) (hci : crB g p q = true) (hcj : crB h p q = true) (hd : 0 ≤ q.at_ - p.at_) (hr : RR (ltG gs p q) (i : Int) (j : Int)) :
    (crossOf gs p q k (i : Int)).at_ ≤ (crossOf gs p q k (j : Int)).at_ := by
  obtain ⟨h1, _, _⟩ := part_ok (hg g (List.mem_of_getElem? hi)) hp hq hci
  obtain ⟨h2, _, _⟩ := part_ok (hg h (List.mem_of_getElem? hj)) hp hq hcj
  have hn : ltG gs p q (j : Int) (i : Int) = false := by
    rcases hr with hr | hr
    · exact (ltG_swo gs p q).asym _ _ hr
    · exact hr.1
  unfold ltG at hn
  rw [gPart_at hi, gPart_at hj, posI_eq (n := (partOf h p q).den) (by have := h2.2.1; omega), posI_eq (n := (partOf g p q).den) (by have := h1.2.1; omega), decide_eq_false_iff_not] at hn
  rw [crossOf_eq hi, crossOf_eq hj]
  have h3 := frac_ediv (D := 1000 * (q.at_ - p.at_)) (show 0 < (partOf g p q).den by have := h1.2.1; omega) (show 0 < (partOf h p q).den by have := h2.2.1; omega) (by omega) (Int.not_lt.1 hn)
  show 1000 * p.at_ + _ ≤ 1000 * p.at_ + _
  omega
theorem crossS_up {gs : List GateR} {st : Int} {ss : List SmpR} (hg : ∀ g ∈ gs, ∀ o, fG o g = 0) (hok : SmpOk st ss) : ∀ K, (crossS gs (stepsL ss) K).Pairwise fun a b => a.at_ ≤ b.at_
  | 0 => List.Pairwise.nil
  | K + 1 => by
    have ih := crossS_up hg hok K
    cases h : (stepsL ss)[K]? with
    | none => rw [crossS, h]; dsimp only; rw [List.append_nil]; exact ih
    | some x =>
      rw [crossS_succ h]
      have hxx := stepsL_inv h
      have hp := hok.place (List.mem_of_getElem? hxx.1)
      have hq := hok.place (List.mem_of_getElem? hxx.2)
      have hr := hok.rise _ _ _ hxx.1 hxx.2
      have hb1 := hok.bd _ (List.mem_of_getElem? hxx.1)
      have hb2 := hok.bd _ (List.mem_of_getElem? hxx.2)
      refine List.pairwise_append.2 ⟨ih, ?_, fun a ha b hb => ?_⟩
      · rw [List.pairwise_map]
        refine (List.Pairwise.imp_of_mem ?_ (gOrd_pair gs x.1 x.2 gs.length))
        intro i j hi hj hij
        obtain ⟨i, g, rfl, _, hgi, hci⟩ := gIdx_mem (gOrd_mem.1 hi)
        obtain ⟨j, h, rfl, _, hgj, hcj⟩ := gIdx_mem (gOrd_mem.1 hj)
        exact cross_le hg hp hq hgi hgj hci hcj (by omega) hij
      · obtain ⟨k, y, i, g, hk, hy, hgi, hci, rfl⟩ := crossS_mem ha
        obtain ⟨j, hj, rfl⟩ := List.mem_map.1 hb
        obtain ⟨j, h', rfl, _, hgj, hcj⟩ := gIdx_mem (gOrd_mem.1 hj)
        have hyy := stepsL_inv hy
        have hry := hok.rise _ _ _ hyy.1 hyy.2
        have hb3 := hok.bd _ (List.mem_of_getElem? hyy.1)
        have hb4 := hok.bd _ (List.mem_of_getElem? hyy.2)
        have h1 := cross_at (k := k) hg (hok.place (List.mem_of_getElem? hyy.1)) (hok.place (List.mem_of_getElem? hyy.2)) hgi hci (by omega)
        have h2 := cross_at (k := K) hg hp hq hgj hcj (by omega)
        have h3 := hok.upto (K - (k + 1)) (k + 1) y.2 x.1 hyy.2 (by rw [show k + 1 + (K - (k + 1)) = K by omega]; exact hxx.1)
        omega
/-- The rows of times, so far: each goes up, and they stand one behind the other. -/
structure EffO (cs : List CrossR) (k : Nat) (s : List (List Int) × List Int) : Prop where
  up : ∀ l ∈ s.1, l.Pairwise (· ≤ ·)
  upn : s.2.Pairwise (· ≤ ·)
  ah : ∀ l ∈ s.1, ∀ t ∈ l, ∀ (j : Nat) c, k ≤ j → cs[j]? = some c → t ≤ c.at_
  ahn : ∀ t ∈ s.2, ∀ (j : Nat) c, k ≤ j → cs[j]? = some c → t ≤ c.at_
  ch : ∀ (i : Nat) l l', s.1[i]? = some l → s.1[i + 1]? = some l' → ∀ t ∈ l, ∀ t' ∈ l', t ≤ t'
  chn : ∀ l ∈ s.1, ∀ t ∈ l, ∀ t' ∈ s.2, t ≤ t'
theorem effN_up {G : Nat} {cs : List CrossR} (hc : cs.Pairwise fun a b => a.at_ ≤ b.at_) : ∀ k, EffO cs k (effN G cs k)
  | 0 => ⟨fun l h => by simp [effN] at h, List.Pairwise.nil, fun l h => by simp [effN] at h, fun t h => by simp [effN] at h, fun i l l' h => by simp [effN] at h, fun l h => by simp [effN] at h⟩
  | k + 1 => by
    have ih := effN_up (G := G) hc k
    cases h : cs[k]? with
    | none =>
      rw [effN, h]
      exact ⟨ih.up, ih.upn, fun l hl t ht j c hj => ih.ah l hl t ht j c (by omega), fun t ht j c hj => ih.ahn t ht j c (by omega), ih.ch, ih.chn⟩
    | some c =>
      have hkc : ∀ (j : Nat) c', k + 1 ≤ j → cs[j]? = some c' → c.at_ ≤ c'.at_ := fun j c' hj hc' => by
        have h1 := (List.getElem?_eq_some_iff.1 h)
        have h2 := (List.getElem?_eq_some_iff.1 hc')
        obtain ⟨l1, e1⟩ := h1
        obtain ⟨l2, e2⟩ := h2
        have h3 := (List.pairwise_iff_getElem.1 hc) k j l1 l2 (by omega)
        rw [e1, e2] at h3; exact h3
      have hnow : ((effN G cs k).2 ++ [c.at_]).Pairwise (· ≤ ·) := by
        refine List.pairwise_append.2 ⟨ih.upn, by simp, fun a ha b hb => ?_⟩
        simp at hb; subst hb
        exact ih.ahn a ha k c (Nat.le_refl _) h
      have hahn : ∀ t ∈ (effN G cs k).2 ++ [c.at_], ∀ (j : Nat) c', k + 1 ≤ j → cs[j]? = some c' → t ≤ c'.at_ := fun t ht j c' hj hc' => by
        rcases List.mem_append.1 ht with ht | ht
        · exact ih.ahn t ht j c' (by omega) hc'
        · simp at ht; subst ht; exact hkc j c' hj hc'
      have hchn : ∀ l ∈ (effN G cs k).1, ∀ t ∈ l, ∀ t' ∈ (effN G cs k).2 ++ [c.at_], t ≤ t' := fun l hl t ht t' ht' => by
        rcases List.mem_append.1 ht' with ht' | ht'
        · exact ih.chn l hl t ht t' ht'
        · simp at ht'; subst ht'; exact ih.ah l hl t ht k c (Nat.le_refl _) h
      have hah : ∀ l ∈ (effN G cs k).1, ∀ t ∈ l, ∀ (j : Nat) c', k + 1 ≤ j → cs[j]? = some c' → t ≤ c'.at_ := fun l hl t ht j c' hj => ih.ah l hl t ht j c' (by omega)
      by_cases h1 : c.gate = 0
      · rw [effN_a h h1]
        refine ⟨ih.up, by simp, hah, fun t ht j c' hj hc' => ?_, ih.ch, fun l hl t ht t' ht' => ?_⟩
        · simp at ht; subst ht; exact hkc j c' hj hc'
        · simp at ht'; subst ht'; exact ih.ah l hl t ht k c (Nat.le_refl _) h
      · by_cases h2 : 0 < (effN G cs k).2.length ∧ ((effN G cs k).2.length : Int) = c.gate
        · by_cases h3 : (effN G cs k).2.length + 1 = G
          · rw [effN_c h h1 h2 h3]
            refine ⟨fun l hl => ?_, List.Pairwise.nil, fun l hl => ?_, fun t ht => by simp at ht, fun i l l' hl hl' => ?_, fun l hl t ht t' ht' => by simp at ht'⟩
            · rcases List.mem_append.1 hl with hl | hl
              · exact ih.up l hl
              · simp at hl; subst hl; exact hnow
            · rcases List.mem_append.1 hl with hl | hl
              · exact hah l hl
              · simp at hl; subst hl; exact hahn
            · by_cases hi : i + 1 < (effN G cs k).1.length
              · rw [List.getElem?_append_left (by omega)] at hl
                rw [List.getElem?_append_left hi] at hl'
                exact ih.ch i l l' hl hl'
              · have hlt := (List.getElem?_eq_some_iff.1 hl').1
                rw [List.length_append] at hlt
                simp only [List.length_cons, List.length_nil] at hlt
                rw [List.getElem?_append_left (by omega)] at hl
                rw [List.getElem?_append_right (by omega), show i + 1 - (effN G cs k).1.length = 0 by omega] at hl'
                cases hl'
                exact hchn l (List.mem_of_getElem? hl)
          · rw [effN_d h h1 h2 h3]
            exact ⟨ih.up, hnow, hah, hahn, ih.ch, hchn⟩
        · rw [effN_b h h1 h2]
          exact ⟨ih.up, ih.upn, hah, fun t ht j c' hj => ih.ahn t ht j c' (by omega), ih.ch, ih.chn⟩
theorem bestK_min (l : List (List Int)) : ∀ k, k ≤ l.length → ∀ (j : Nat) x, j < k → l[j]? = some x → longV (l.getD (bestK l k) []) ≤ longV x
  | 0, _, j, x, h, _ => by omega
  | k + 1, hk, j, x, hj, hx => by
    have hz := List.getElem?_eq_getElem (l := l) (i := k) (by omega)
    rw [bestK, hz]
    dsimp only
    split
    · rename_i hlt
      have hD : l.getD k [] = l[k] := by simp [List.getD, hz]
      rw [hD]
      by_cases h : j = k
      · subst h; rw [hz] at hx; cases hx; exact Int.le_refl _
      · have := bestK_min l k (by omega) j x (by omega) hx; omega
    · rename_i hlt
      by_cases h : j = k
      · subst h; rw [hz] at hx; cases hx; omega
      · exact bestK_min l k (by omega) j x (by omega) hx
end Go.Proofs.Ytbbhcffkleplnaa
