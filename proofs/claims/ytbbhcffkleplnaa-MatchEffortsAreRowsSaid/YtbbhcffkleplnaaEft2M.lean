/-
  Efforts: what they are made of; the best of them. Plain part.
-/
import Derived.Test.YtbbhcffkleplnaaCross2
import Derived.Test.YtbbhcffkleplnaaEftM
namespace Go.Proofs.Ytbbhcffkleplnaa
set_option linter.unusedVariables false
set_option linter.unusedSimpArgs false
theorem crossS_mem {gs : List GateR} {st : List (SmpR × SmpR)} {c : CrossR} : ∀ {K : Nat}, c ∈ crossS gs st K → ∃ (k : Nat) (x : SmpR × SmpR) (i : Nat) (g : GateR), k < K ∧ st[k]? = some x ∧ gs[i]? = some g ∧ crB g x.1 x.2 = true ∧ c = crossOf gs x.1 x.2 k (i : Int)
  | 0, h => by simp [crossS] at h
  | K + 1, h => by
    rw [crossS, List.mem_append] at h
    rcases h with h | h
    · obtain ⟨k, x, i, g, h1, h2⟩ := crossS_mem h; exact ⟨k, x, i, g, by omega, h2⟩
    · cases hx : st[K]? with
      | none => rw [hx] at h; simp at h
      | some x =>
        rw [hx] at h
        obtain ⟨i, hi, rfl⟩ := List.mem_map.1 h
        obtain ⟨j, g, rfl, _, hg, hc⟩ := gIdx_mem (gOrd_mem.1 hi)
        exact ⟨K, x, j, g, by omega, hx, hg, hc, rfl⟩
theorem cross_at {gs : List GateR} {p q : SmpR} {k i : Nat} {g : GateR} (hg : ∀ g ∈ gs, ∀ o, fG o g = 0) (hp : PlaceOk p) (hq : PlaceOk q) (hi : gs[i]? = some g) (hc : crB g p q = true) (hd : 0 ≤ q.at_ - p.at_ ∧ q.at_ - p.at_ ≤ 1000000000) :
    1000 * p.at_ ≤ (crossOf gs p q k (i : Int)).at_ ∧ (crossOf gs p q k (i : Int)).at_ ≤ 1000 * q.at_ ∧ (crossOf gs p q k (i : Int)).gate = i := by
  obtain ⟨h1, h2, _⟩ := part_ok (hg g (List.mem_of_getElem? hi)) hp hq hc
  have h3 := scale_part h1 h2 hd
  rw [crossOf_eq hi]
  exact ⟨by show _ ≤ 1000 * p.at_ + _; omega, by show 1000 * p.at_ + _ ≤ _; omega, rfl⟩
theorem cross_bd {gs : List GateR} {st : Int} {ss : List SmpR} {K : Nat} {c : CrossR} (hg : ∀ g ∈ gs, ∀ o, fG o g = 0) (hok : SmpOk st ss) (h : c ∈ crossS gs (stepsL ss) K) : 0 ≤ c.at_ ∧ c.at_ ≤ 1000000000 ∧ 0 ≤ c.gate := by
  obtain ⟨k, x, i, g, _, hx, hi, hc, rfl⟩ := crossS_mem h
  have hxx := stepsL_inv hx
  have b1 := hok.bd _ (List.mem_of_getElem? hxx.1)
  have b2 := hok.bd _ (List.mem_of_getElem? hxx.2)
  have hr := hok.rise _ _ _ hxx.1 hxx.2
  have h1 := cross_at (k := k) hg (hok.place (List.mem_of_getElem? hxx.1)) (hok.place (List.mem_of_getElem? hxx.2)) hi hc (by omega)
  omega
/-- A row of times, each of a crossing of its gate. -/
def RowOk (cs : List CrossR) (l : List Int) : Prop := ∀ (i : Nat) t, l[i]? = some t → ∃ c ∈ cs, c.gate = i ∧ c.at_ = t
theorem RowOk.snoc {cs : List CrossR} {l : List Int} {c : CrossR} (h : RowOk cs l) (hc : c ∈ cs) (hg : c.gate = l.length) : RowOk cs (l ++ [c.at_]) := by
  intro i t hi
  by_cases hlt : i < l.length
  · rw [List.getElem?_append_left hlt] at hi; exact h i t hi
  · rw [List.getElem?_append_right (by omega)] at hi
    have hz : i - l.length = 0 := by
      apply Decidable.byContradiction; intro h0
      rw [List.getElem?_eq_none (by simp; omega)] at hi; cases hi
    rw [hz] at hi; cases hi
    exact ⟨c, hc, by omega, rfl⟩
theorem effN_rows {G : Nat} (hG : 2 ≤ G) (cs : List CrossR) : ∀ k, RowOk cs (effN G cs k).2 ∧ ∀ l ∈ (effN G cs k).1, l.length = G ∧ RowOk cs l
  | 0 => ⟨fun i t h => by simp [effN] at h, fun l h => by simp [effN] at h⟩
  | k + 1 => by
    obtain ⟨ih1, ih2⟩ := effN_rows hG cs k
    cases h : cs[k]? with
    | none => rw [effN, h]; exact ⟨ih1, ih2⟩
    | some c =>
      have hc := List.mem_of_getElem? h
      by_cases h1 : c.gate = 0
      · rw [effN_a h h1]
        refine ⟨fun i t hi => ?_, ih2⟩
        have h0 : RowOk cs [] := fun i t h => by simp at h
        exact (h0.snoc hc (by rw [h1]; rfl)) i t hi
      · by_cases h2 : 0 < (effN G cs k).2.length ∧ ((effN G cs k).2.length : Int) = c.gate
        · have h4 := ih1.snoc hc h2.2.symm
          by_cases h3 : (effN G cs k).2.length + 1 = G
          · rw [effN_c h h1 h2 h3]
            refine ⟨fun i t h => by simp at h, fun l hl => ?_⟩
            rcases List.mem_append.1 hl with hl | hl
            · exact ih2 l hl
            · simp at hl; subst hl
              exact ⟨by rw [List.length_append]; exact h3, h4⟩
          · rw [effN_d h h1 h2 h3]; exact ⟨h4, ih2⟩
        · rw [effN_b h h1 h2]; exact ⟨ih1, ih2⟩
/-- How long an effort took. -/
def longV (l : List Int) : Int := l.getD (l.length - 1) 0 - l.getD 0 0
/-- The number of the best of the first k. -/
def bestK (l : List (List Int)) : Nat → Nat
  | 0 => 0
  | k + 1 => match l[k]? with | some x => if longV x < longV (l.getD (bestK l k) []) then k else bestK l k | none => bestK l k
theorem bestK_lt (l : List (List Int)) : ∀ k, k ≤ l.length → 0 < k → bestK l k < k
  | 0, _, h => by omega
  | k + 1, hk, _ => by
    rw [bestK, List.getElem?_eq_getElem (by omega)]
    dsimp only
    split
    · omega
    · by_cases h0 : k = 0
      · subst h0; show bestK l 0 < _; rw [bestK]; omega
      · have := bestK_lt l k (by omega) (by omega); omega
theorem bestK_one (l : List (List Int)) : bestK l 1 = 0 := by
  rw [bestK]
  cases h : l[0]? with
  | none => rfl
  | some x => dsimp only; split <;> rfl
end Go.Proofs.Ytbbhcffkleplnaa
