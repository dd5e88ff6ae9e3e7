/-
  Fewer samples. No program stands here.
-/
import Derived.Test.YtogcclagmobkiaaWhereM
import Derived.Test.YtogcclagmobkiaaRootM
namespace Go.Proofs.Ytogcclagmobkiaa
set_option linter.unusedVariables false
set_option linter.unusedSimpArgs false
/-- The error of a sample between two others. -/
def errI (ss : List SmpR) (i k j : Nat) : Int := match ss[i]?, ss[k]?, ss[j]? with | some a, some b, some c => sqD b (amidV a c b.at_) | _, _, _ => 0
theorem errI_eq {ss : List SmpR} {i k j : Nat} {a b c : SmpR} (ha : ss[i]? = some a) (hb : ss[k]? = some b) (hc : ss[j]? = some c) : errI ss i k j = sqD b (amidV a c b.at_) := by unfold errI; rw [ha, hb, hc]
section
variable (E : Nat → Int) (M : Int) (i : Nat)
/-- The first greatest error above M, of the first c samples behind i; -1: there is none. -/
def wst : Nat → Int × Int
  | 0 => (-1, M)
  | c + 1 => if (wst c).2 < E (i + 1 + c) then (((i + 1 + c : Nat) : Int), E (i + 1 + c)) else wst c
variable {E M i}
theorem wst_bd : ∀ c, M ≤ (wst E M i c).2 ∧ ((wst E M i c).1 = -1 ∧ (wst E M i c).2 = M ∨ ∃ k : Nat, (wst E M i c).1 = k ∧ i < k ∧ k < i + 1 + c ∧ (wst E M i c).2 = E k ∧ M < E k)
  | 0 => ⟨Int.le_refl _, .inl ⟨rfl, rfl⟩⟩
  | c + 1 => by
    obtain ⟨h1, h2⟩ := wst_bd c
    rw [wst]
    by_cases h : (wst E M i c).2 < E (i + 1 + c)
    · rw [if_pos h]
      exact ⟨by dsimp only; omega, .inr ⟨i + 1 + c, rfl, by omega, by omega, rfl, by omega⟩⟩
    · rw [if_neg h]
      refine ⟨h1, ?_⟩
      rcases h2 with h2 | ⟨k, a, b, c', d, e⟩
      · exact .inl h2
      · exact .inr ⟨k, a, b, by omega, d, e⟩
/-- As the reference asks. -/
theorem wst_far {c : Nat} {x : Int} {far : Int} (hfar : far = (wst E M i c).1) (he : 0 ≤ far → E far.toNat = (wst E M i c).2) : (wst E M i c).2 < x ↔ M < x ∧ (far < 0 ∨ E far.toNat < x) := by
  obtain ⟨h1, h2⟩ := wst_bd (E := E) (M := M) (i := i) c
  rcases h2 with ⟨a, b⟩ | ⟨k, a, b, c', d, e⟩
  · rw [b]; omega
  · have := he (by omega)
    omega
end
def worst (ss : List SmpR) (M : Int) (i j : Nat) : Int := (wst (fun k => errI ss i k j) M i (j - (i + 1))).1
theorem worst_bd (ss : List SmpR) (M : Int) (i j : Nat) : worst ss M i j = -1 ∨ ∃ k : Nat, worst ss M i j = k ∧ i < k ∧ k < j := by
  rcases (wst_bd (E := fun k => errI ss i k j) (M := M) (i := i) (j - (i + 1))).2 with h | ⟨k, a, b, c, _⟩
  · exact .inl h.1
  · exact .inr ⟨k, a, b, by omega⟩
/-- What Simple keeps between two samples. -/
def simpL (ss : List SmpR) (M : Int) : Nat → Nat → Nat → List Int
  | 0, _, _ => []
  | f + 1, i, j => if worst ss M i j < 0 then [] else simpL ss M f i (worst ss M i j).toNat ++ [worst ss M i j] ++ simpL ss M f (worst ss M i j).toNat j
theorem simpL_none {ss : List SmpR} {M : Int} {f i j : Nat} (h : worst ss M i j < 0) : simpL ss M f i j = [] := by
  cases f with
  | zero => rfl
  | succ f => rw [simpL, if_pos h]
theorem simpL_some {ss : List SmpR} {M : Int} {f i j k : Nat} (h : worst ss M i j = k) : simpL ss M (f + 1) i j = simpL ss M f i k ++ [(k : Int)] ++ simpL ss M f k j := by
  rw [simpL, if_neg (by omega), h, Int.toNat_natCast]
theorem simpL_in (ss : List SmpR) (M : Int) : ∀ (f i j : Nat), ∀ x ∈ simpL ss M f i j, ∃ m : Nat, x = m ∧ i < m ∧ m < j
  | 0, i, j, x, h => by simp [simpL] at h
  | f + 1, i, j, x, h => by
    rcases worst_bd ss M i j with hw | ⟨k, hw, h1, h2⟩
    · rw [simpL_none (by omega)] at h; simp at h
    · rw [simpL_some hw] at h
      rcases List.mem_append.1 h with h | h
      · rcases List.mem_append.1 h with h | h
        · obtain ⟨m, a, b, c⟩ := simpL_in ss M f i k x h
          exact ⟨m, a, b, by omega⟩
        · simp at h
          exact ⟨k, h, h1, h2⟩
      · obtain ⟨m, a, b, c⟩ := simpL_in ss M f k j x h
        exact ⟨m, a, by omega, c⟩
theorem simpL_len (ss : List SmpR) (M : Int) : ∀ (f i j : Nat), (simpL ss M f i j).length ≤ j - (i + 1)
  | 0, i, j => by simp [simpL]
  | f + 1, i, j => by
    rcases worst_bd ss M i j with hw | ⟨k, hw, h1, h2⟩
    · rw [simpL_none (by omega)]; simp
    · rw [simpL_some hw]
      have a := simpL_len ss M f i k
      have b := simpL_len ss M f k j
      simp
      omega
/-- In their order. -/
theorem simpL_list (ss : List SmpR) (M : Int) : ∀ (f i j : Nat), i < j → j - i ≤ f → ((List.range' (i + 1) (j - (i + 1))).filter fun (m : Nat) => decide ((m : Int) ∈ simpL ss M f i j)).map (fun (m : Nat) => (m : Int)) = simpL ss M f i j
  | 0, i, j, h1, h2 => by omega
  | f + 1, i, j, hij, hf => by
    rcases worst_bd ss M i j with hw | ⟨k, hw, h1, h2⟩
    · rw [simpL_none (by omega)]; simp
    · have hs := simpL_some (ss := ss) (M := M) (f := f) hw
      have e1 : List.range' (i + 1) (j - (i + 1)) = List.range' (i + 1) (k - (i + 1)) ++ (k :: List.range' (k + 1) (j - (k + 1))) := by
        have a1 : List.range' k (j - k) = k :: List.range' (k + 1) (j - (k + 1)) := by
          rw [show j - k = (j - (k + 1)) + 1 by omega, List.range'_succ]
        have a2 := List.range'_append (s := i + 1) (m := k - (i + 1)) (n := j - k) (step := 1)
        rw [Nat.one_mul, show i + 1 + (k - (i + 1)) = k by omega, show k - (i + 1) + (j - k) = j - (i + 1) by omega] at a2
        rw [← a2, a1]
      have h3 : ∀ m, m ∈ List.range' (i + 1) (k - (i + 1)) → decide ((m : Int) ∈ simpL ss M (f + 1) i j) = decide ((m : Int) ∈ simpL ss M f i k) := by
        intro m hm
        rw [List.mem_range'_1] at hm
        rw [decide_eq_decide, hs]
        constructor
        · intro h
          rcases List.mem_append.1 h with h | h
          · rcases List.mem_append.1 h with h | h
            · exact h
            · simp at h; omega
          · obtain ⟨x, a, b, c⟩ := simpL_in ss M f k j _ h
            omega
        · intro h
          exact List.mem_append.2 (.inl (List.mem_append.2 (.inl h)))
      have h4 : ∀ m, m ∈ List.range' (k + 1) (j - (k + 1)) → decide ((m : Int) ∈ simpL ss M (f + 1) i j) = decide ((m : Int) ∈ simpL ss M f k j) := by
        intro m hm
        rw [List.mem_range'_1] at hm
        rw [decide_eq_decide, hs]
        constructor
        · intro h
          rcases List.mem_append.1 h with h | h
          · rcases List.mem_append.1 h with h | h
            · obtain ⟨x, a, b, c⟩ := simpL_in ss M f i k _ h
              omega
            · simp at h; omega
          · exact h
        · intro h
          exact List.mem_append.2 (.inr h)
      have h5 : decide ((k : Int) ∈ simpL ss M (f + 1) i j) = true := by
        rw [decide_eq_true_eq, hs]; simp
      rw [e1, List.filter_append, List.filter_cons, if_pos h5, List.filter_congr h3, List.filter_congr h4, List.map_append, List.map_cons, simpL_list ss M f i k (by omega) (by omega), simpL_list ss M f k j (by omega) (by omega), hs]
      simp
/-- What Simple keeps. -/
def simpleL (ss : List SmpR) (M : Int) : List Int := if ss.length = 0 then [] else if ss.length = 1 then [0] else [0] ++ simpL ss M ss.length 0 (ss.length - 1) ++ [((ss.length - 1 : Nat) : Int)]
def keptB (ss : List SmpR) (M : Int) (k : Nat) : Bool := decide (k = 0) || decide (k = ss.length - 1) || decide ((k : Int) ∈ simpL ss M ss.length 0 (ss.length - 1))
def keptList (ss : List SmpR) (M : Int) (n : Nat) : List Int := ((List.range n).filter (keptB ss M)).map fun (m : Nat) => (m : Int)
theorem keptList_yes {ss : List SmpR} {M : Int} {n : Nat} (h : keptB ss M n = true) : keptList ss M (n + 1) = keptList ss M n ++ [(n : Int)] := by
  unfold keptList; rw [List.range_succ, List.filter_append, List.map_append]; simp [h]
theorem keptList_no {ss : List SmpR} {M : Int} {n : Nat} (h : keptB ss M n = false) : keptList ss M (n + 1) = keptList ss M n := by
  unfold keptList; rw [List.range_succ, List.filter_append, List.map_append]; simp [h]
theorem keptList_all (ss : List SmpR) (M : Int) : keptList ss M ss.length = simpleL ss M := by
  unfold simpleL
  by_cases h0 : ss.length = 0
  · rw [if_pos h0, h0]; rfl
  · rw [if_neg h0]
    by_cases h1 : ss.length = 1
    · rw [if_pos h1, h1]
      unfold keptList
      have : keptB ss M 0 = true := by simp [keptB]
      simp [List.range_succ, this]
    · rw [if_neg h1]
      obtain ⟨n, hn⟩ : ∃ n, ss.length = n + 2 := ⟨ss.length - 2, by omega⟩
      have e : List.range ss.length = 0 :: (List.range' 1 n ++ [n + 1]) := by
        rw [hn, List.range_eq_range', List.range'_succ]
        have a2 := List.range'_append (s := 0 + 1) (m := n) (n := 1) (step := 1)
        rw [← a2]
        simp
        omega
      have k0 : keptB ss M 0 = true := by simp [keptB]
      have k1 : keptB ss M (n + 1) = true := by simp [keptB, hn]
      have km : ∀ m, m ∈ List.range' 1 n → keptB ss M m = decide ((m : Int) ∈ simpL ss M ss.length 0 (ss.length - 1)) := by
        intro m hm
        rw [List.mem_range'_1] at hm
        unfold keptB
        rw [decide_eq_false (show ¬m = 0 by omega), decide_eq_false (show ¬m = ss.length - 1 by omega)]
        simp
      have hl := simpL_list ss M ss.length 0 (ss.length - 1) (by omega) (by omega)
      rw [show ss.length - 1 - (0 + 1) = n by omega] at hl
      unfold keptList
      rw [e, List.filter_cons, if_pos k0, List.filter_append, List.filter_congr km, List.map_cons, List.map_append, hl]
      simp [k1]
      omega
end Go.Proofs.Ytogcclagmobkiaa
