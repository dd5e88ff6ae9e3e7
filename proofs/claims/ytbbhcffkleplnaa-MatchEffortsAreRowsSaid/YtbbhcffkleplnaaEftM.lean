/-
  Efforts: plain part.
-/
import Derived.Test.YtbbhcffkleplnaaCross2M
namespace Go.Proofs.Ytbbhcffkleplnaa
set_option linter.unusedVariables false
set_option linter.unusedSimpArgs false
def effStep (G : Nat) (s : List (List Int) × List Int) (c : CrossR) : List (List Int) × List Int :=
  if c.gate = 0 then (s.1, [c.at_])
  else if 0 < s.2.length ∧ (s.2.length : Int) = c.gate then (if s.2.length + 1 = G then (s.1 ++ [s.2 ++ [c.at_]], []) else (s.1, s.2 ++ [c.at_]))
  else s
def effN (G : Nat) (cs : List CrossR) : Nat → List (List Int) × List Int
  | 0 => ([], [])
  | k + 1 => match cs[k]? with | some c => effStep G (effN G cs k) c | none => effN G cs k
def effL (G : Nat) (cs : List CrossR) : List (List Int) := (effN G cs cs.length).1
theorem effN_succ {G : Nat} {cs : List CrossR} {k : Nat} {c : CrossR} (h : cs[k]? = some c) : effN G cs (k + 1) = effStep G (effN G cs k) c := by rw [effN, h]
theorem effN_a {G : Nat} {cs : List CrossR} {k : Nat} {c : CrossR} (h : cs[k]? = some c) (h1 : c.gate = 0) : effN G cs (k + 1) = ((effN G cs k).1, [c.at_]) := by rw [effN_succ h, effStep, if_pos h1]
theorem effN_b {G : Nat} {cs : List CrossR} {k : Nat} {c : CrossR} (h : cs[k]? = some c) (h1 : ¬c.gate = 0) (h2 : ¬(0 < (effN G cs k).2.length ∧ ((effN G cs k).2.length : Int) = c.gate)) : effN G cs (k + 1) = effN G cs k := by rw [effN_succ h, effStep, if_neg h1, if_neg h2]
theorem effN_c {G : Nat} {cs : List CrossR} {k : Nat} {c : CrossR} (h : cs[k]? = some c) (h1 : ¬c.gate = 0) (h2 : 0 < (effN G cs k).2.length ∧ ((effN G cs k).2.length : Int) = c.gate) (h3 : (effN G cs k).2.length + 1 = G) : effN G cs (k + 1) = ((effN G cs k).1 ++ [(effN G cs k).2 ++ [c.at_]], []) := by rw [effN_succ h, effStep, if_neg h1, if_pos h2, if_pos h3]
theorem effN_d {G : Nat} {cs : List CrossR} {k : Nat} {c : CrossR} (h : cs[k]? = some c) (h1 : ¬c.gate = 0) (h2 : 0 < (effN G cs k).2.length ∧ ((effN G cs k).2.length : Int) = c.gate) (h3 : ¬(effN G cs k).2.length + 1 = G) : effN G cs (k + 1) = ((effN G cs k).1, (effN G cs k).2 ++ [c.at_]) := by rw [effN_succ h, effStep, if_neg h1, if_pos h2, if_neg h3]
theorem effN_lt {G : Nat} (hG : 2 ≤ G) (cs : List CrossR) : ∀ k, (effN G cs k).2.length < G
  | 0 => by show 0 < G; omega
  | k + 1 => by
    have ih := effN_lt hG cs k
    cases h : cs[k]? with
    | none => rw [effN, h]; exact ih
    | some c =>
      rw [effN_succ h]
      unfold effStep
      split
      · show 1 < G; omega
      · split
        · split
          · show 0 < G; omega
          · rw [List.length_append]; simp only [List.length_cons, List.length_nil]; omega
        · exact ih
theorem effN_cnt (G : Nat) (cs : List CrossR) : ∀ k, (effN G cs k).1.length ≤ k
  | 0 => Nat.le_refl _
  | k + 1 => by
    have ih := effN_cnt G cs k
    cases h : cs[k]? with
    | none => rw [effN, h]; show (effN G cs k).1.length ≤ k + 1; omega
    | some c =>
      rw [effN_succ h]
      unfold effStep
      split
      · show (effN G cs k).1.length ≤ k + 1; omega
      · split
        · split
          · rw [List.length_append]; simp only [List.length_cons, List.length_nil]; omega
          · show (effN G cs k).1.length ≤ k + 1; omega
        · omega
theorem crossS_len (gs : List GateR) (st : List (SmpR × SmpR)) : ∀ k, (crossS gs st k).length ≤ gs.length * k
  | 0 => Nat.le_refl _
  | k + 1 => by
    have ih := crossS_len gs st k
    rw [crossS, List.length_append, Nat.mul_add, Nat.mul_one]
    cases h : st[k]? with
    | none => simp only [List.length_nil]; omega
    | some x =>
      dsimp only
      rw [List.length_map, gOrd_len]
      have := gIdx_len gs x.1 x.2 gs.length
      omega
end Go.Proofs.Ytbbhcffkleplnaa
