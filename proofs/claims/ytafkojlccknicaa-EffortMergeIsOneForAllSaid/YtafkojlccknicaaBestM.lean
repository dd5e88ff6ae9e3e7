/-
  Streams, windows, the best window, the shortest: plain functions, of no program.
-/
import Derived.Test.YtafkojlccknicaaLists
namespace Go.Proofs.Ytafkojlccknicaa
def pv (x : Int) : Int := if x < 0 then 0 else x
def nv (x : Int) : Int := if x < 0 then 1 else 0
theorem pv_neg {x : Int} (h : x < 0) : pv x = 0 := if_pos h
theorem pv_nn {x : Int} (h : ¬x < 0) : pv x = x := if_neg h
theorem nv_neg {x : Int} (h : x < 0) : nv x = 1 := if_pos h
theorem nv_nn {x : Int} (h : ¬x < 0) : nv x = 0 := if_neg h
def streamR (xs : List Int) : Int := if 1000000 < xs.length then 3 else if xs.all (inB · (-1) 1000000000) = true then 0 else 9
theorem streamR_big {xs : List Int} (h : 1000000 < xs.length) : streamR xs = 3 := if_pos h
theorem streamR_bad {xs : List Int} (h : ¬1000000 < xs.length) (h2 : xs.all (inB · (-1) 1000000000) = false) : streamR xs = 9 := by unfold streamR; rw [if_neg h, if_neg (by rw [h2]; simp)]
theorem streamR_good {xs : List Int} (h : ¬1000000 < xs.length) (h2 : xs.all (inB · (-1) 1000000000) = true) : streamR xs = 0 := by unfold streamR; rw [if_neg h, if_pos h2]
theorem streamR_ok {xs : List Int} (h : streamR xs = 0) : xs.length ≤ 1000000 ∧ ∀ x ∈ xs, -1 ≤ x ∧ x ≤ 1000000000 := by
  unfold streamR at h
  by_cases h1 : 1000000 < xs.length
  · rw [if_pos h1] at h; omega
  · rw [if_neg h1] at h
    by_cases h2 : xs.all (inB · (-1) 1000000000) = true
    · exact ⟨by omega, fun x hx => inB_iff.1 (List.all_eq_true.1 h2 x hx)⟩
    · rw [if_neg h2] at h; omega
/-- The sum of the first k, and how many of them are unknown. -/
def pS (xs : List Int) (k : Nat) : Int := sI pv (xs.take k)
def pU (xs : List Int) (k : Nat) : Int := sI nv (xs.take k)
theorem pS_succ {xs : List Int} {k : Nat} {x : Int} (h : xs[k]? = some x) : pS xs (k + 1) = pS xs k + pv x := sI_take pv h
theorem pU_succ {xs : List Int} {k : Nat} {x : Int} (h : xs[k]? = some x) : pU xs (k + 1) = pU xs k + nv x := sI_take nv h
theorem pS_zero (xs : List Int) : pS xs 0 = 0 := by simp [pS, sI]
theorem pU_zero (xs : List Int) : pU xs 0 = 0 := by simp [pU, sI]
theorem pv_bd {x : Int} (h : x ≤ 1000000000) : 0 ≤ pv x ∧ pv x ≤ 1000000000 := by unfold pv; split <;> omega
theorem nv_bd (x : Int) : 0 ≤ nv x ∧ nv x ≤ 1 := by unfold nv; split <;> omega
theorem pS_mono {xs : List Int} : ∀ {j k : Nat}, j ≤ k → pS xs j ≤ pS xs k := by
  intro j k h
  induction k with
  | zero => have : j = 0 := by omega
            subst this; exact Int.le_refl _
  | succ k ih =>
    by_cases hj : j = k + 1
    · subst hj; exact Int.le_refl _
    · have := ih (by omega)
      cases hx : xs[k]? with
      | none =>
        have : pS xs (k + 1) = pS xs k := by unfold pS; rw [List.take_of_length_le (by have := List.getElem?_eq_none_iff.1 hx; omega), List.take_of_length_le (by have := List.getElem?_eq_none_iff.1 hx; omega)]
        omega
      | some x => have := pS_succ hx; have h2 : 0 ≤ pv x := by unfold pv; split <;> omega
                  omega
theorem pU_mono {xs : List Int} : ∀ {j k : Nat}, j ≤ k → pU xs j ≤ pU xs k := by
  intro j k h
  induction k with
  | zero => have : j = 0 := by omega
            subst this; exact Int.le_refl _
  | succ k ih =>
    by_cases hj : j = k + 1
    · subst hj; exact Int.le_refl _
    · have := ih (by omega)
      cases hx : xs[k]? with
      | none =>
        have : pU xs (k + 1) = pU xs k := by unfold pU; rw [List.take_of_length_le (by have := List.getElem?_eq_none_iff.1 hx; omega), List.take_of_length_le (by have := List.getElem?_eq_none_iff.1 hx; omega)]
        omega
      | some x => have := pU_succ hx; have h2 := nv_bd x
                  omega
theorem pS_bd {xs : List Int} (hl : xs.length ≤ 1000000) (h : ∀ x ∈ xs, -1 ≤ x ∧ x ≤ 1000000000) (k : Nat) : 0 ≤ pS xs k ∧ pS xs k ≤ 1000000000000000 := by
  have := sI_bd pv 1000000000 (by omega) (xs.take k) (fun x hx => pv_bd (h x (List.mem_of_mem_take hx)).2)
  have h2 : (xs.take k).length ≤ 1000000 := by rw [List.length_take]; omega
  unfold pS; omega
theorem pU_bd {xs : List Int} (hl : xs.length ≤ 1000000) (k : Nat) : 0 ≤ pU xs k ∧ pU xs k ≤ 1000000 := by
  have := sI_bd nv 1 (by omega) (xs.take k) (fun x hx => nv_bd x)
  have h2 : (xs.take k).length ≤ 1000000 := by rw [List.length_take]; omega
  unfold pU; omega
/-! #### the best window -/
structure BestS where
  sum : Int
  at_ : Int
  found : Bool
def bstep (st : BestS) (f s : Int) : BestS := if (!st.found || decide (st.sum < s)) = true then ⟨s, f, true⟩ else st
def bW (xs : List Int) (z : Nat) (st : BestS) (f : Nat) : BestS := if pU xs (f + z) = pU xs f then bstep st f (pS xs (f + z) - pS xs f) else st
/-- The best of the first m windows of z seconds. -/
def bestN (xs : List Int) (z m : Nat) : BestS := (List.range m).foldl (bW xs z) ⟨0, 0, false⟩
theorem bestN_succ (xs : List Int) (z m : Nat) : bestN xs z (m + 1) = bW xs z (bestN xs z m) m := by unfold bestN; rw [List.range_succ, List.foldl_append]; rfl
theorem bestN_zero (xs : List Int) (z : Nat) : bestN xs z 0 = ⟨0, 0, false⟩ := rfl
/-- What the windows up to the k-th second left. -/
def bestK (xs : List Int) (z k : Nat) : BestS := bestN xs z (k + 1 - z)
theorem bestK_less {xs : List Int} {z k : Nat} (h : k + 1 < z) : bestK xs z (k + 1) = bestK xs z k := by unfold bestK; rw [show k + 1 + 1 - z = 0 by omega, show k + 1 - z = 0 by omega]
theorem bestK_step {xs : List Int} {z k : Nat} (h : z ≤ k + 1) : bestK xs z (k + 1) = bW xs z (bestK xs z k) (k + 1 - z) := by unfold bestK; rw [show k + 1 + 1 - z = (k + 1 - z) + 1 by omega, bestN_succ]
theorem bestK_known {xs : List Int} {z k : Nat} (h : z ≤ k + 1) (hu : pU xs (k + 1) = pU xs (k + 1 - z)) : bestK xs z (k + 1) = bstep (bestK xs z k) ((k + 1 - z : Nat) : Int) (pS xs (k + 1) - pS xs (k + 1 - z)) := by
  rw [bestK_step h]; unfold bW; rw [show k + 1 - z + z = k + 1 by omega, if_pos hu]
theorem bestK_unknown {xs : List Int} {z k : Nat} (h : z ≤ k + 1) (hu : ¬pU xs (k + 1) = pU xs (k + 1 - z)) : bestK xs z (k + 1) = bestK xs z k := by
  rw [bestK_step h]; unfold bW; rw [show k + 1 - z + z = k + 1 by omega, if_neg hu]
/-- The best window's law: it is a window, and none is better, and none as good comes ahead of it. -/
structure BestLaw (xs : List Int) (z m : Nat) (b : BestS) : Prop where
  none : b.found = false → b.sum = 0 ∧ b.at_ = 0 ∧ ∀ f, f < m → pU xs (f + z) ≠ pU xs f
  some : b.found = true → ∃ g : Nat, b.at_ = g ∧ g < m ∧ pU xs (g + z) = pU xs g ∧ b.sum = pS xs (g + z) - pS xs g ∧ ∀ f, f < m → pU xs (f + z) = pU xs f → pS xs (f + z) - pS xs f ≤ b.sum ∧ (pS xs (f + z) - pS xs f = b.sum → g ≤ f)
theorem best_law (xs : List Int) (z : Nat) : ∀ m, BestLaw xs z m (bestN xs z m)
  | 0 => ⟨fun _ => ⟨rfl, rfl, fun f hf => by omega⟩, fun h => by simp [bestN_zero] at h⟩
  | m + 1 => by
    have ih := best_law xs z m
    rw [bestN_succ]
    generalize bestN xs z m = b at ih
    unfold bW
    by_cases hu : pU xs (m + z) = pU xs m
    · rw [if_pos hu]
      unfold bstep
      by_cases hc : (!b.found || decide (b.sum < pS xs (m + z) - pS xs m)) = true
      · rw [if_pos hc]
        refine ⟨fun h => by simp at h, fun _ => ⟨m, rfl, by omega, hu, rfl, fun f hf hfu => ?_⟩⟩
        dsimp only
        by_cases hfm : f = m
        · subst hfm; exact ⟨Int.le_refl _, fun _ => Nat.le_refl _⟩
        · cases hb : b.found with
          | false => exact absurd hfu ((ih.none hb).2.2 f (by omega))
          | true =>
            obtain ⟨g, _, _, _, _, h5⟩ := ih.some hb
            have := (h5 f (by omega) hfu).1
            simp [hb] at hc
            omega
      · rw [if_neg hc]
        simp at hc
        refine ⟨fun h => by simp [hc.1] at h, fun h => ?_⟩
        obtain ⟨g, h1, h2, h3, h4, h5⟩ := ih.some h
        refine ⟨g, h1, by omega, h3, h4, fun f hf hfu => ?_⟩
        by_cases hfm : f = m
        · subst hfm; exact ⟨by omega, fun _ => by omega⟩
        · exact h5 f (by omega) hfu
    · rw [if_neg hu]
      refine ⟨fun h => ?_, fun h => ?_⟩
      · obtain ⟨h1, h2, h3⟩ := ih.none h
        refine ⟨h1, h2, fun f hf => ?_⟩
        by_cases hfm : f = m
        · subst hfm; exact hu
        · exact h3 f (by omega)
      · obtain ⟨g, h1, h2, h3, h4, h5⟩ := ih.some h
        refine ⟨g, h1, by omega, h3, h4, fun f hf hfu => ?_⟩
        by_cases hfm : f = m
        · subst hfm; exact absurd hfu hu
        · exact h5 f (by omega) hfu
end Go.Proofs.Ytafkojlccknicaa
