/-
  Streams of an activity. No program stands here.
-/
import Derived.Test.YtafkojlccknicaaWaysM
import Derived.Test.YtafkojlccknicaaBestM
namespace Go.Proofs.Ytafkojlccknicaa
set_option linter.unusedVariables false
def valV (kind : Int) (p q : SmpR) : Int := if kind = 1 then p.pulse else if kind = 2 then p.power else if kind = 3 then p.steps else 0
noncomputable def lenV (kind : Int) (p q : SmpR) : Int := if kind = 4 then lenD p q else if kind = 5 then max (q.z - p.z) 0 else 0
noncomputable def elV (kind : Int) (p q : SmpR) (j : Nat) : Int :=
  if 60 < q.at_ - p.at_ then (if 4 ≤ kind then 0 else -1) else if 4 ≤ kind then (lenV kind p q * ((j : Int) + 1)) / (q.at_ - p.at_) - (lenV kind p q * j) / (q.at_ - p.at_) else valV kind p q
theorem elV_big {kind : Int} {p q : SmpR} {j : Nat} (h : 60 < q.at_ - p.at_) (h2 : 4 ≤ kind) : elV kind p q j = 0 := by unfold elV; rw [if_pos h, if_pos h2]
theorem elV_gap {kind : Int} {p q : SmpR} {j : Nat} (h : 60 < q.at_ - p.at_) (h2 : ¬4 ≤ kind) : elV kind p q j = -1 := by unfold elV; rw [if_pos h, if_neg h2]
theorem elV_len {kind : Int} {p q : SmpR} {j : Nat} (h : ¬60 < q.at_ - p.at_) (h2 : 4 ≤ kind) : elV kind p q j = (lenV kind p q * ((j : Int) + 1)) / (q.at_ - p.at_) - (lenV kind p q * j) / (q.at_ - p.at_) := by unfold elV; rw [if_neg h, if_pos h2]
theorem elV_val {kind : Int} {p q : SmpR} {j : Nat} (h : ¬60 < q.at_ - p.at_) (h2 : ¬4 ≤ kind) : elV kind p q j = valV kind p q := by unfold elV; rw [if_neg h, if_neg h2]
noncomputable def stepV (kind : Int) (p q : SmpR) : List Int := (List.range (q.at_ - p.at_).toNat).map (elV kind p q)
theorem stepV_len (kind : Int) (p q : SmpR) : (stepV kind p q).length = (q.at_ - p.at_).toNat := by simp [stepV]
theorem stepV_get {kind : Int} {p q : SmpR} {j : Nat} (h : (j : Int) < q.at_ - p.at_) : (stepV kind p q)[j]? = some (elV kind p q j) := by
  unfold stepV
  rw [List.getElem?_map, List.getElem?_range (by omega)]; rfl
noncomputable def strmL (kind : Int) (ss : List SmpR) (k : Nat) : List Int := ((stepsL ss).take k).flatMap fun x => stepV kind x.1 x.2
theorem strmL_zero (kind : Int) (ss : List SmpR) : strmL kind ss 0 = [] := rfl
theorem strmL_succ {kind : Int} {ss : List SmpR} {k : Nat} {x : SmpR × SmpR} (hx : (stepsL ss)[k]? = some x) : strmL kind ss (k + 1) = strmL kind ss k ++ stepV kind x.1 x.2 := by
  unfold strmL; rw [take_succ_get hx, List.flatMap_append]; simp
theorem strmL_len {st : Int} {ss : List SmpR} (h : SmpOk st ss) (kind : Int) : ∀ (k : Nat) (x : SmpR), ss[k]? = some x → ((strmL kind ss k).length : Int) = x.at_
  | 0, x, hx => by rw [h.first x hx]; rfl
  | k + 1, x, hx => by
    have hlt : k < ss.length := by have := (List.getElem?_eq_some_iff.1 hx).1; omega
    have hk : ss[k]? = some ss[k] := List.getElem?_eq_getElem hlt
    have h1 := strmL_len h kind k _ hk
    have h2 := h.rise k _ _ hk hx
    rw [strmL_succ (stepsL_get hk hx), List.length_append, stepV_len]
    dsimp only
    omega
noncomputable def streamsR (a : ActD) (kind : Int) : List Int × Int := if chkA a ≠ 0 then ([], chkA a) else if ¬(1 ≤ kind ∧ kind ≤ 5) then ([], 7) else (strmL kind a.ss (a.ss.length - 1), 0)
theorem streamsR_e {a : ActD} {k : Int} (h : chkA a ≠ 0) : streamsR a k = ([], chkA a) := if_pos h
theorem streamsR_7 {a : ActD} {k : Int} (h : chkA a = 0) (h1 : ¬(1 ≤ k ∧ k ≤ 5)) : streamsR a k = ([], 7) := by unfold streamsR; rw [if_neg (by simp [h]), if_pos h1]
theorem streamsR_0 {a : ActD} {k : Int} (h : chkA a = 0) (h1 : 1 ≤ k ∧ k ≤ 5) : streamsR a k = (strmL k a.ss (a.ss.length - 1), 0) := by unfold streamsR; rw [if_neg (by simp [h]), if_neg (fun h2 => h2 h1)]
theorem spread_bd {v n : Int} {j : Nat} (hv : 0 ≤ v) (hn : (j : Int) < n) : 0 ≤ v * ((j : Int) + 1) / n - v * j / n ∧ v * ((j : Int) + 1) / n ≤ v ∧ 0 ≤ v * j / n := by
  have h1 : v * (j : Int) ≤ v * ((j : Int) + 1) := Int.mul_le_mul_of_nonneg_left (by omega) hv
  have h2 : v * (j : Int) / n ≤ v * ((j : Int) + 1) / n := Int.ediv_le_ediv (by omega) h1
  have h3 : v * ((j : Int) + 1) ≤ v * n := Int.mul_le_mul_of_nonneg_left (by omega) hv
  have h4 : v * ((j : Int) + 1) / n ≤ v * n / n := Int.ediv_le_ediv (by omega) h3
  rw [Int.mul_ediv_cancel _ (by omega)] at h4
  have h5 : 0 ≤ v * (j : Int) / n := Int.ediv_nonneg (Int.mul_nonneg hv (by omega)) (by omega)
  omega
theorem lenV_bd {kind : Int} {p q : SmpR} (hp : PlaceOk p) (hq : PlaceOk q) (h1 : -100000 ≤ p.z ∧ p.z ≤ 100000) (h2 : -100000 ≤ q.z ∧ q.z ≤ 100000) : 0 ≤ lenV kind p q ∧ lenV kind p q ≤ 300000000 := by
  have := lenD_bd hp hq
  unfold lenV
  by_cases h4 : kind = 4
  · rw [if_pos h4]; exact this
  · rw [if_neg h4]
    by_cases h5 : kind = 5
    · rw [if_pos h5]; omega
    · rw [if_neg h5]; omega
theorem elV_bd {st : Int} {ss : List SmpR} (h : SmpOk st ss) {kind : Int} {p q : SmpR} (hp : p ∈ ss) (hq : q ∈ ss) {j : Nat} (hj : (j : Int) < q.at_ - p.at_) : -1 ≤ elV kind p q j ∧ elV kind p q j ≤ 1000000000 := by
  have hl := lenV_bd (kind := kind) (h.place hp) (h.place hq) (h.bd p hp).2.2.2.2.2.1 (h.bd q hq).2.2.2.2.2.1
  have hs := spread_bd (j := j) hl.1 hj
  obtain ⟨_, _, _, _, _, _, b1, b2, b3⟩ := h.bd p hp
  have hv : -1 ≤ valV kind p q ∧ valV kind p q ≤ 3000 := by
    unfold valV
    split
    · omega
    · split
      · omega
      · split <;> omega
  by_cases hb : 60 < q.at_ - p.at_
  · by_cases hk : 4 ≤ kind
    · rw [elV_big hb hk]; omega
    · rw [elV_gap hb hk]; omega
  · by_cases hk : 4 ≤ kind
    · rw [elV_len hb hk]; omega
    · rw [elV_val hb hk]; omega
theorem strmL_bd {st : Int} {ss : List SmpR} (h : SmpOk st ss) (kind : Int) (k : Nat) : ∀ x ∈ strmL kind ss k, -1 ≤ x ∧ x ≤ 1000000000 := by
  intro x hx
  unfold strmL at hx
  obtain ⟨y, hy, hx⟩ := List.mem_flatMap.1 hx
  obtain ⟨i, hi⟩ := List.getElem?_of_mem (List.mem_of_mem_take hy)
  have h2 := stepsL_inv hi
  unfold stepV at hx
  obtain ⟨j, hj, rfl⟩ := List.mem_map.1 hx
  rw [List.mem_range] at hj
  exact elV_bd h (List.mem_of_getElem? h2.1) (List.mem_of_getElem? h2.2) (by omega)
end Go.Proofs.Ytafkojlccknicaa
