/-
  Parts of an activity: what two neighbours are together.
-/
import Derived.Test.YtafkojlccknicaaParts3
namespace Go.Proofs.Ytafkojlccknicaa
open Go Go.RowKit Hx
set_option linter.unusedVariables false
set_option linter.unusedSimpArgs false
theorem subL_split {xs : List Int} {f m t : Nat} (h1 : f ≤ m) (h2 : m ≤ t) : subL xs f t = subL xs f m ++ subL xs m t := by
  unfold subL
  have e : t - f = (m - f) + (t - m) := by omega
  rw [e, List.take_add, List.drop_drop, show f + (m - f) = m by omega]
theorem partOfR_inv {a : ActD} {f t : Int} (h : (partOfR a f t).2 = 0) : chkA a = 0 ∧ ∃ f' t' : Nat, f = f' ∧ t = t' ∧ f' ≤ t' ∧ (t' : Int) ≤ spanL a.ss := by
  by_cases h0 : chkA a = 0
  · by_cases h1 : f < 0 ∨ t < f ∨ spanL a.ss < t
    · rw [partOfR_9 h0 h1] at h; exact absurd h (by show ¬((9 : Int) = 0); omega)
    · exact ⟨h0, f.toNat, t.toNat, by omega, by omega, by omega, by omega⟩
  · rw [partOfR_e h0] at h; exact absurd h h0
/-- The numbers of a part are not too large. -/
structure PartBd (p : PartV) : Prop where
  way : 0 ≤ p.way ∧ p.way ≤ 1000000000000000
  climb : 0 ≤ p.climb ∧ p.climb ≤ 1000000000000000
  pulse : 0 ≤ p.pulse ∧ p.pulse ≤ 1000000000000000
  power : 0 ≤ p.power ∧ p.power ≤ 1000000000000000
  steps : 0 ≤ p.steps ∧ p.steps ≤ 1000000000000000
  pk : 0 ≤ p.pk ∧ p.pk ≤ 1000000
  wk : 0 ≤ p.wk ∧ p.wk ≤ 1000000
  sk : 0 ≤ p.sk ∧ p.sk ≤ 1000000
theorem partV_bd {st : Int} {ss : List SmpR} (h : SmpOk st ss) (f t : Nat) : PartBd (partV ss f t) := by
  have key : ∀ k : Int, (0 ≤ knS (subL (strmL k ss (ss.length - 1)) f t) ∧ knS (subL (strmL k ss (ss.length - 1)) f t) ≤ 1000000000000000) ∧ (0 ≤ knN (subL (strmL k ss (ss.length - 1)) f t) ∧ knN (subL (strmL k ss (ss.length - 1)) f t) ≤ 1000000) := by
    intro k
    have h1 := kn_bd (subL (strmL k ss (ss.length - 1)) f t) (fun x hx => (strmL_bd h k _ x (subL_in x hx)).2)
    have h2 := subL_len (strmL k ss (ss.length - 1)) f t
    have h3 := strm_len h k
    have h4 := h.span
    omega
  exact ⟨(key 4).1, (key 5).1, (key 1).1, (key 2).1, (key 3).1, (key 1).2, (key 2).2, (key 3).2⟩
/-- x and y are together z. -/
structure PartSum (x y z : PartV) : Prop where
  way : x.way + y.way = z.way
  climb : x.climb + y.climb = z.climb
  pulse : x.pulse + y.pulse = z.pulse
  power : x.power + y.power = z.power
  steps : x.steps + y.steps = z.steps
  pk : x.pk + y.pk = z.pk
  wk : x.wk + y.wk = z.wk
  sk : x.sk + y.sk = z.sk
theorem partV_sum {ss : List SmpR} {f m t : Nat} (h1 : f ≤ m) (h2 : m ≤ t) : PartSum (partV ss f m) (partV ss m t) (partV ss f t) := by
  have kS : ∀ xs : List Int, knS (subL xs f m) + knS (subL xs m t) = knS (subL xs f t) := fun xs => by rw [subL_split h1 h2, knS_app]
  have kN : ∀ xs : List Int, knN (subL xs f m) + knN (subL xs m t) = knN (subL xs f t) := fun xs => by rw [subL_split h1 h2, knN_app]
  exact ⟨kS _, kS _, kS _, kS _, kS _, kN _, kN _, kN _⟩
theorem parts_sum {a : ActD} {f m t : Int} (h1 : (partOfR a f m).2 = 0) (h2 : (partOfR a m t).2 = 0) :
    PartSum (partOfR a f m).1 (partOfR a m t).1 (partOfR a f t).1 ∧ PartBd (partOfR a f m).1 ∧ PartBd (partOfR a m t).1 := by
  obtain ⟨h0, f', m', rfl, rfl, hfm, hm⟩ := partOfR_inv h1
  obtain ⟨_, m2, t', e2, rfl, hmt, ht⟩ := partOfR_inv h2
  have e3 : m2 = m' := by omega
  subst e3
  rw [partOfR_0 h0 (by omega), partOfR_0 h0 (by omega), partOfR_0 h0 (by omega)]
  exact ⟨partV_sum hfm hmt, partV_bd (goodA h0).smp _ _, partV_bd (goodA h0).smp _ _⟩
theorem lap_ok {a : ActD} (h : GoodA a) : ∀ x ∈ a.ls, 0 ≤ x.from_ ∧ x.from_ < x.to ∧ x.to ≤ spanL a.ss := by
  intro x hx
  obtain ⟨k, hk⟩ := List.getElem?_of_mem hx
  have h1 := chkE_ok h.l hk
  unfold fL at h1
  by_cases h2 : x.from_ < 0 ∨ x.to ≤ x.from_ ∨ spanL a.ss < x.to
  · rw [if_pos h2] at h1; omega
  · omega
end Go.Proofs.Ytafkojlccknicaa
