/-
  Crossings. No program stands here.
-/
import Derived.Test.YtbbhcffkleplnaaSegM
import Derived.Test.YtbbhcffkleplnaaWaysM
namespace Go.Proofs.Ytbbhcffkleplnaa
set_option linter.unusedVariables false
def side6 (ax ay bx by_ x y : Int) : Int := (bx - ax) * (y - ay) - (by_ - ay) * (x - ax)
theorem mul_ab {a b : Int} (ha : -200000000 ≤ a ∧ a ≤ 200000000) (hb : -200000000 ≤ b ∧ b ≤ 200000000) : -40000000000000000 ≤ a * b ∧ a * b ≤ 40000000000000000 := by
  by_cases h1 : 0 ≤ a
  · by_cases h2 : 0 ≤ b
    · have := mul_bd h1 ha.2 h2 hb.2; omega
    · have := mul_bd h1 ha.2 (show 0 ≤ -b by omega) (show -b ≤ 200000000 by omega)
      rw [Int.mul_neg] at this; omega
  · by_cases h2 : 0 ≤ b
    · have := mul_bd (show 0 ≤ -a by omega) (show -a ≤ 200000000 by omega) h2 hb.2
      rw [Int.neg_mul] at this; omega
    · have := mul_bd (show 0 ≤ -a by omega) (show -a ≤ 200000000 by omega) (show 0 ≤ -b by omega) (show -b ≤ 200000000 by omega)
      rw [Int.neg_mul_neg] at this; omega
def gSide (g : GateR) (p : SmpR) : Int := side6 g.ax g.ay g.bx g.by_ p.x p.y
def crB (g : GateR) (p q : SmpR) : Bool :=
  !(decide (0 ≤ gSide g p) || decide (gSide g q < 0)) && !(decide (0 < side6 p.x p.y q.x q.y g.ax g.ay) && decide (0 < side6 p.x p.y q.x q.y g.bx g.by_) || decide (side6 p.x p.y q.x q.y g.ax g.ay < 0) && decide (side6 p.x p.y q.x q.y g.bx g.by_ < 0))
structure PartR where
  num : Int
  den : Int
def partOf (g : GateR) (p q : SmpR) : PartR := if crB g p q = true then ⟨-gSide g p, gSide g q - gSide g p⟩ else ⟨0, 0⟩
theorem crB_pos {g : GateR} {p q : SmpR} (h : crB g p q = true) : gSide g p < 0 ∧ 0 ≤ gSide g q := by
  unfold crB at h
  rw [Bool.and_eq_true] at h
  have := h.1
  simp at this
  omega
def gIs (gs : List GateR) (p q : SmpR) (i : Nat) : Bool := match gs[i]? with | some g => crB g p q | none => false
/-- The gates that a step crosses, of the first k. -/
def gIdx (gs : List GateR) (p q : SmpR) (k : Nat) : List Int := ((List.range k).filter (gIs gs p q)).map fun (i : Nat) => (i : Int)
theorem gIdx_yes {gs : List GateR} {p q : SmpR} {k : Nat} {g : GateR} (hg : gs[k]? = some g) (h : crB g p q = true) : gIdx gs p q (k + 1) = gIdx gs p q k ++ [(k : Int)] := by
  unfold gIdx; rw [List.range_succ, List.filter_append, List.map_append]; simp [gIs, hg, h]
theorem gIdx_no {gs : List GateR} {p q : SmpR} {k : Nat} {g : GateR} (hg : gs[k]? = some g) (h : crB g p q = false) : gIdx gs p q (k + 1) = gIdx gs p q k := by
  unfold gIdx; rw [List.range_succ, List.filter_append, List.map_append]; simp [gIs, hg, h]
theorem gIdx_len (gs : List GateR) (p q : SmpR) (k : Nat) : (gIdx gs p q k).length ≤ k := by
  unfold gIdx
  rw [List.length_map]
  have := List.length_filter_le (gIs gs p q) (List.range k)
  rw [List.length_range] at this
  exact this
theorem gIdx_mem {gs : List GateR} {p q : SmpR} {k : Nat} {x : Int} (h : x ∈ gIdx gs p q k) : ∃ (i : Nat) (g : GateR), x = i ∧ i < k ∧ gs[i]? = some g ∧ crB g p q = true := by
  unfold gIdx at h
  obtain ⟨i, hi, rfl⟩ := List.mem_map.1 h
  rw [List.mem_filter, List.mem_range] at hi
  have h2 := hi.2
  unfold gIs at h2
  cases hg : gs[i]? with
  | none => rw [hg] at h2; cases h2
  | some g => rw [hg] at h2; exact ⟨i, g, rfl, hi.1, hg, h2⟩
structure CrossR where
  gate : Int
  step : Int
  at_ : Int
def crossOf (gs : List GateR) (p q : SmpR) (step : Nat) (i : Int) : CrossR := match gs[i.toNat]? with
  | some g => ⟨i, step, 1000 * p.at_ + (partOf g p q).num * (1000 * (q.at_ - p.at_)) / (partOf g p q).den⟩
  | none => ⟨i, step, 0⟩
/-- The crossings of the first k steps, where no step crosses two gates. -/
def crossN (gs : List GateR) (st : List (SmpR × SmpR)) : Nat → List CrossR
  | 0 => []
  | k + 1 => crossN gs st k ++ (match st[k]? with | some x => (gIdx gs x.1 x.2 gs.length).map (crossOf gs x.1 x.2 k) | none => [])
theorem crossN_succ {gs : List GateR} {st : List (SmpR × SmpR)} {k : Nat} {x : SmpR × SmpR} (h : st[k]? = some x) : crossN gs st (k + 1) = crossN gs st k ++ (gIdx gs x.1 x.2 gs.length).map (crossOf gs x.1 x.2 k) := by rw [crossN, h]
/-- No step crosses two gates, and the numbers are small. -/
structure Easy (gs : List GateR) (ss : List SmpR) : Prop where
  one : ∀ (k : Nat) (x : SmpR × SmpR), (stepsL ss)[k]? = some x → (gIdx gs x.1 x.2 gs.length).length ≤ 1
  few : (stepsL ss).length ≤ 1
  num : ∀ (k : Nat) (x : SmpR × SmpR) (g : GateR), (stepsL ss)[k]? = some x → g ∈ gs → crB g x.1 x.2 = true → -gSide g x.1 ≤ 10000 ∧ gSide g x.2 - gSide g x.1 ≤ 10000 ∧ 0 ≤ x.2.at_ - x.1.at_ ∧ x.2.at_ - x.1.at_ ≤ 10000 ∧ 0 ≤ x.1.at_ ∧ x.1.at_ ≤ 1000000
end Go.Proofs.Ytbbhcffkleplnaa
