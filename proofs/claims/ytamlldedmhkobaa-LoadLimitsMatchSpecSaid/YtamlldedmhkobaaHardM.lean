/-
  How hard a stream is: cubes, their mean, its root. No program stands here.
-/
import Derived.Test.YtamlldedmhkobaaBestM
namespace Go.Proofs.Ytamlldedmhkobaa
set_option linter.unusedVariables false
theorem cube_mono {a b : Int} (h0 : 0 ≤ a) (h : a ≤ b) : a * a * a ≤ b * b * b := by
  have h1 := mul_bd h0 h h0 h
  exact (mul_bd h1.1 h1.2 h0 h).2
theorem cube_nn {a : Int} (h0 : 0 ≤ a) : 0 ≤ a * a * a := Int.mul_nonneg (Int.mul_nonneg h0 h0) h0
/-- The whole root of the third degree. -/
def Root3 (m r : Int) : Prop := 0 ≤ r ∧ r * r * r ≤ m ∧ m < (r + 1) * (r + 1) * (r + 1)
theorem Root3.unique {m r q : Int} (h : Root3 m r) (h' : Root3 m q) : r = q := by
  have key : ∀ a b : Int, Root3 m a → Root3 m b → ¬ a < b := by
    intro a b ha hb hlt
    have := cube_mono (a := a + 1) (b := b) (by have := ha.1; omega) (by omega)
    have h1 := ha.2.2
    have h2 := hb.2.1
    omega
  have a := key r q h h'
  have b := key q r h' h
  omega
def cV (v : Int) : Int := if 0 ≤ v then v * v * v else 0
def kV (v : Int) : Int := if 0 ≤ v then 1 else 0
theorem cV_bd {v : Int} (h : v ≤ 10000) : 0 ≤ cV v ∧ cV v ≤ 1000000000000 := by
  unfold cV
  split
  · rename_i h0
    exact ⟨cube_nn h0, by have := cube_mono h0 h; omega⟩
  · omega
theorem kV_bd (v : Int) : 0 ≤ kV v ∧ kV v ≤ 1 := by unfold kV; split <;> omega
/-- The mean of the cubes is no greater than the greatest cube. -/
theorem cV_kV : ∀ ys : List Int, (∀ v ∈ ys, v ≤ 10000) → sI cV ys ≤ 1000000000000 * sI kV ys
  | [], _ => by simp [sI]
  | x :: r, h => by
    have ih := cV_kV r (fun v hv => h v (by simp [hv]))
    have h1 := cV_bd (h x (by simp))
    simp only [sI]
    unfold kV cV at *
    by_cases h0 : 0 ≤ x
    · simp only [if_pos h0] at h1 ⊢; omega
    · simp only [if_neg h0] at h1 ⊢; omega
/-- What Hard returns: the root, whether there is one, and an error. -/
def HardR (xs ys : List Int) (r : Int) (ok : Bool) (e : Int) : Prop :=
  if streamR xs ≠ 0 then r = 0 ∧ ok = false ∧ e = streamR xs
  else if xs.all (fun x => decide (x ≤ 10000)) = false then r = 0 ∧ ok = false ∧ e = 9
  else if sI kV ys = 0 then r = 0 ∧ ok = false ∧ e = 0
  else Root3 (sI cV ys / sI kV ys) r ∧ ok = true ∧ e = 0
theorem HardR.unique {xs ys : List Int} {r r' e e' : Int} {ok ok' : Bool} (h : HardR xs ys r ok e) (h' : HardR xs ys r' ok' e') : r = r' ∧ ok = ok' ∧ e = e' := by
  unfold HardR at h h'
  by_cases h1 : streamR xs ≠ 0
  · rw [if_pos h1] at h h'; exact ⟨by rw [h.1, h'.1], by rw [h.2.1, h'.2.1], by rw [h.2.2, h'.2.2]⟩
  · rw [if_neg h1] at h h'
    by_cases h2 : xs.all (fun x => decide (x ≤ 10000)) = false
    · rw [if_pos h2] at h h'; exact ⟨by rw [h.1, h'.1], by rw [h.2.1, h'.2.1], by rw [h.2.2, h'.2.2]⟩
    · rw [if_neg h2] at h h'
      by_cases h3 : sI kV ys = 0
      · rw [if_pos h3] at h h'; exact ⟨by rw [h.1, h'.1], by rw [h.2.1, h'.2.1], by rw [h.2.2, h'.2.2]⟩
      · rw [if_neg h3] at h h'; exact ⟨h.1.unique h'.1, by rw [h.2.1, h'.2.1], by rw [h.2.2, h'.2.2]⟩
end Go.Proofs.Ytamlldedmhkobaa
