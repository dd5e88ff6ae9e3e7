/-
  Zones as plain functions. No program stands here.
-/
import Derived.Test.YtafkojlccknicaaBestM
namespace Go.Proofs.Ytafkojlccknicaa
set_option linter.unusedVariables false
def zonesC (zs : List Int) : Int := if 20 < zs.length then 3 else risR 0 1000000000 zs
def sizesC (zs : List Int) : Int := if zs.length = 0 then 13 else if 100 < zs.length then 3 else risR 1 1000000 zs
theorem zonesC_ok {zs : List Int} (h : zonesC zs = 0) : zs.length ≤ 20 ∧ (∀ x ∈ zs, 0 ≤ x ∧ x ≤ 1000000000) ∧ Rising zs := by
  unfold zonesC at h
  by_cases h1 : 20 < zs.length
  · rw [if_pos h1] at h; omega
  · rw [if_neg h1] at h; exact ⟨by omega, risR_ok h⟩
theorem sizesC_ok {zs : List Int} (h : sizesC zs = 0) : 0 < zs.length ∧ zs.length ≤ 100 ∧ (∀ x ∈ zs, 1 ≤ x ∧ x ≤ 1000000) ∧ Rising zs := by
  unfold sizesC at h
  by_cases h0 : zs.length = 0
  · rw [if_pos h0] at h; omega
  · rw [if_neg h0] at h
    by_cases h1 : 100 < zs.length
    · rw [if_pos h1] at h; omega
    · rw [if_neg h1] at h; exact ⟨by omega, by omega, risR_ok h⟩
/-- What is counted after some numbers: a number lies in the zone of its place. -/
inductive Zoned (zs : List Int) : List Int → List Int → Prop where
  | start : Zoned zs [] (List.replicate (zs.length + 1) 0)
  | skip {xs out : List Int} {x : Int} : Zoned zs xs out → x < 0 → Zoned zs (xs ++ [x]) out
  | step {xs out : List Int} {x c : Int} {k : Nat} : Zoned zs xs out → ¬x < 0 → Place zs (x + 1) k → out[k]? = some c → Zoned zs (xs ++ [x]) (out.set k (c + 1))
theorem Zoned.len {zs xs out : List Int} (h : Zoned zs xs out) : out.length = zs.length + 1 := by
  induction h with
  | start => simp
  | skip _ _ ih => exact ih
  | step _ _ _ _ ih => simp [ih]
theorem sI_set (out : List Int) (k : Nat) (c : Int) (h : out[k]? = some c) : sI id (out.set k (c + 1)) = sI id out + 1 := by
  induction out generalizing k with
  | nil => simp at h
  | cons x r ih =>
    cases k with
    | zero => simp at h; subst h; simp only [List.set_cons_zero, sI, id]; omega
    | succ k => simp at h; simp only [List.set_cons_succ, sI, id, ih k h]; omega
theorem sI_rep (n : Nat) : sI id (List.replicate n (0 : Int)) = 0 := by
  induction n with
  | zero => rfl
  | succ n ih => simp only [List.replicate_succ, sI, id, ih]; rfl
theorem Zoned.sum {zs xs out : List Int} (h : Zoned zs xs out) : sI id out + sI nv xs = xs.length ∧ ∀ c ∈ out, 0 ≤ c ∧ c ≤ xs.length := by
  induction h with
  | start => exact ⟨by rw [sI_rep]; rfl, fun c hc => by have := List.eq_of_mem_replicate hc; omega⟩
  | skip _ hx ih =>
    refine ⟨?_, fun c hc => by have := ih.2 c hc; simp; omega⟩
    rw [sI_append]; simp only [sI, nv_neg hx, List.length_append, List.length_cons, List.length_nil]; omega
  | @step xs out x c k _ hx _ hk ih =>
    refine ⟨?_, fun d hd => ?_⟩
    · rw [sI_append, sI_set _ _ _ hk]; simp only [sI, nv_nn hx, List.length_append, List.length_cons, List.length_nil]; omega
    · have hc := ih.2 c (List.mem_of_getElem? hk)
      rcases List.mem_or_eq_of_mem_set hd with hd | rfl
      · have := ih.2 d hd; simp; omega
      · simp; omega
theorem Zoned.unique {zs xs out : List Int} (hr : Rising zs) (h : Zoned zs xs out) : ∀ {out' : List Int}, Zoned zs xs out' → out = out' := by
  generalize hxs : xs = ys
  induction h generalizing ys with
  | start =>
    subst hxs
    intro out' h'
    generalize hy : ([] : List Int) = y at h'
    cases h' with
    | start => rfl
    | skip _ _ => simp at hy
    | step _ _ _ _ => simp at hy
  | @skip xs out x h0 hx ih =>
    subst hxs
    intro out' h'
    generalize hy : xs ++ [x] = y at h'
    cases h' with
    | start => simp at hy
    | @skip xs' out'' x' h2 hx2 =>
      obtain ⟨h3, h4⟩ := List.append_inj' hy rfl
      subst h3
      exact ih _ rfl h2
    | @step xs' out'' x' c k h2 hx2 _ _ =>
      obtain ⟨h3, h4⟩ := List.append_inj' hy rfl
      simp at h4
      omega
  | @step xs out x c k h0 hx hp hc ih =>
    subst hxs
    intro out' h'
    generalize hy : xs ++ [x] = y at h'
    cases h' with
    | start => simp at hy
    | @skip xs' out'' x' h2 hx2 =>
      obtain ⟨h3, h4⟩ := List.append_inj' hy rfl
      simp at h4
      omega
    | @step xs' out'' x' c' k' h2 hx2 hp' hc' =>
      obtain ⟨h3, h4⟩ := List.append_inj' hy rfl
      subst h3
      simp at h4; subst h4
      have := ih _ rfl h2
      subst this
      have := hp.unique hr hp'
      subst this
      rw [hc] at hc'; cases hc'; rfl
/-- What Zones returns. -/
def ZonesR (xs zs out : List Int) (u e : Int) : Prop :=
  if streamR xs ≠ 0 then out = [] ∧ u = 0 ∧ e = streamR xs else if zonesC zs ≠ 0 then out = [] ∧ u = 0 ∧ e = zonesC zs else Zoned zs xs out ∧ u = pU xs xs.length ∧ e = 0
theorem ZonesR.unique {xs zs out out' : List Int} {u u' e e' : Int} (h : ZonesR xs zs out u e) (h' : ZonesR xs zs out' u' e') : out = out' ∧ u = u' ∧ e = e' := by
  unfold ZonesR at h h'
  by_cases h1 : streamR xs ≠ 0
  · rw [if_pos h1] at h h'; exact ⟨by rw [h.1, h'.1], by rw [h.2.1, h'.2.1], by rw [h.2.2, h'.2.2]⟩
  · rw [if_neg h1] at h h'
    by_cases h2 : zonesC zs ≠ 0
    · rw [if_pos h2] at h h'; exact ⟨by rw [h.1, h'.1], by rw [h.2.1, h'.2.1], by rw [h.2.2, h'.2.2]⟩
    · rw [if_neg h2] at h h'
      exact ⟨h.1.unique (zonesC_ok (Decidable.not_not.1 h2)).2.2 h'.1, by rw [h.2.1, h'.2.1], by rw [h.2.2, h'.2.2]⟩
theorem ZonesR.bd {xs zs out : List Int} {u e : Int} (h : ZonesR xs zs out u e) : (∀ y ∈ out, 0 ≤ y ∧ y ≤ 1000000) ∧ (0 ≤ u ∧ u ≤ 1000000) ∧ out.length ≤ 21 ∧ (e = 0 → u + sI id out = xs.length) := by
  unfold ZonesR at h
  by_cases h1 : streamR xs ≠ 0
  · rw [if_pos h1] at h; obtain ⟨rfl, rfl, rfl⟩ := h
    exact ⟨by simp, by omega, by simp, fun h => absurd h h1⟩
  · rw [if_neg h1] at h
    by_cases h2 : zonesC zs ≠ 0
    · rw [if_pos h2] at h; obtain ⟨rfl, rfl, rfl⟩ := h
      exact ⟨by simp, by omega, by simp, fun h => absurd h h2⟩
    · rw [if_neg h2] at h; obtain ⟨hZ, rfl, rfl⟩ := h
      have hok := streamR_ok (Decidable.not_not.1 h1)
      have hz := zonesC_ok (Decidable.not_not.1 h2)
      have hs := hZ.sum
      have hu := pU_bd hok.1 xs.length (xs := xs)
      have he : pU xs xs.length = sI nv xs := by unfold pU; rw [List.take_length]
      refine ⟨fun y hy => by have := hs.2 y hy; omega, hu, by rw [hZ.len]; omega, fun _ => by rw [he]; omega⟩
end Go.Proofs.Ytafkojlccknicaa
