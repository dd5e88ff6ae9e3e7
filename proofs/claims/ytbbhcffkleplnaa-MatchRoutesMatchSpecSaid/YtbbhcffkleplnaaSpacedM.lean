/-
  Places of an activity, far from each other. No program stands here.
-/
import Derived.Test.YtbbhcffkleplnaaApartM
import Derived.Test.YtbbhcffkleplnaaWaysM
import Derived.Test.YtbbhcffkleplnaaNearM
namespace Go.Proofs.Ytbbhcffkleplnaa
set_option linter.unusedVariables false
noncomputable def spK (ss : List SmpR) (d : Int) : Nat := (wayL ss).findIdx fun x => decide (d ≤ x)
theorem spK_at {st : Int} {ss : List SmpR} (hok : SmpOk st ss) {d : Int} {k : Nat} (hk : k < ss.length) (h1 : k = 0 ∨ wayN ss (k - 1) < d) (h2 : d ≤ wayN ss k) : spK ss d = k := by
  unfold spK
  have hl := wayL_len ss
  have hg : ∀ j (hj : j < (wayL ss).length), (wayL ss)[j] = wayN ss j := fun j hj => runW_get (k := ss.length) (List.getElem?_eq_getElem hj)
  rw [List.findIdx_eq (by omega)]
  refine ⟨by rw [hg]; simpa using h2, fun j hj => ?_⟩
  rw [hg]
  have h3 := wayN_mono hok (i := j) (j := k - 1) (by omega)
  rw [decide_eq_false_iff_not]
  omega
theorem spK_place {st : Int} {ss : List SmpR} (hok : SmpOk st ss) {d : Int} {k : Nat} (h : Place (wayL ss) d k) (hd : d ≤ wayN ss (ss.length - 1)) (h0 : 0 < ss.length) : k < ss.length ∧ spK ss d = k ∧ d ≤ wayN ss k := by
  obtain ⟨h1, h2, h3⟩ := h
  rw [wayL_len] at h1 h3
  have h2' : k = 0 ∨ wayN ss (k - 1) < d := by
    rcases h2 with h2 | ⟨y, hy, hyd⟩
    · exact .inl h2
    · rw [runW_get hy] at hyd; exact .inr hyd
  have hk : k < ss.length := by
    rcases h2' with h | h
    · omega
    · apply Decidable.byContradiction
      intro hn
      have : k = ss.length := by omega
      subst this
      omega
  have h3' : d ≤ wayN ss k := by
    rcases h3 with h3 | ⟨y, hy, hyd⟩
    · omega
    · rw [runW_get hy] at hyd; exact hyd
  exact ⟨hk, spK_at hok hk h2' h3', h3'⟩
noncomputable def spPt (ss : List SmpR) (d : Int) : PtR := match ss[spK ss d]? with
  | some q => if wayN ss (spK ss d) = d then ⟨q.x, q.y⟩ else match ss[spK ss d - 1]? with
    | some p => ⟨p.x + nearV (q.x - p.x) (d - wayN ss (spK ss d - 1)) (wayN ss (spK ss d) - wayN ss (spK ss d - 1)), p.y + nearV (q.y - p.y) (d - wayN ss (spK ss d - 1)) (wayN ss (spK ss d) - wayN ss (spK ss d - 1))⟩
    | none => ⟨0, 0⟩
  | none => ⟨0, 0⟩
theorem spPt_on {ss : List SmpR} {d : Int} {k : Nat} {q : SmpR} (hk : spK ss d = k) (hq : ss[k]? = some q) (h : wayN ss k = d) : spPt ss d = ⟨q.x, q.y⟩ := by
  unfold spPt
  rw [hk, hq]
  exact if_pos h
theorem spPt_off {ss : List SmpR} {d : Int} {k : Nat} {p q : SmpR} (hk : spK ss d = k) (hq : ss[k]? = some q) (hp : ss[k - 1]? = some p) (h : wayN ss k ≠ d) :
    spPt ss d = ⟨p.x + nearV (q.x - p.x) (d - wayN ss (k - 1)) (wayN ss k - wayN ss (k - 1)), p.y + nearV (q.y - p.y) (d - wayN ss (k - 1)) (wayN ss k - wayN ss (k - 1))⟩ := by
  unfold spPt
  rw [hk, hq]
  show (if wayN ss k = d then _ else _) = _
  rw [if_neg h, hp]
noncomputable def spD (ss : List SmpR) (n j : Int) : Int := wayN ss (ss.length - 1) * j / (n - 1)
theorem spD_bd {st : Int} {ss : List SmpR} (hok : SmpOk st ss) {n j : Int} (hn : 2 ≤ n ∧ n ≤ 300) (hj : 0 ≤ j ∧ j < n) :
    (0 ≤ wayN ss (ss.length - 1) * j ∧ wayN ss (ss.length - 1) * j ≤ 2000000000000000) ∧ 0 ≤ spD ss n j ∧ spD ss n j ≤ wayN ss (ss.length - 1) := by
  have h1 := wayN_bd hok (ss.length - 1)
  have h20 := hok.len
  have h2 := mul_bd (a := wayN ss (ss.length - 1)) (b := j) (A := 6000000000000) (B := 300) h1.1 (by omega) hj.1 (by omega)
  refine ⟨⟨h2.1, by omega⟩, Int.ediv_nonneg h2.1 (by omega), ?_⟩
  unfold spD
  refine Int.ediv_le_of_le_mul (by omega) ?_
  exact Int.mul_le_mul_of_nonneg_left (by omega) h1.1
theorem spD_mono {st : Int} {ss : List SmpR} (hok : SmpOk st ss) {n i j : Int} (hn : 2 ≤ n) (hij : i ≤ j) : spD ss n i ≤ spD ss n j := by
  unfold spD
  exact Int.ediv_le_ediv (by omega) (Int.mul_le_mul_of_nonneg_left hij (wayN_bd hok _).1)
noncomputable def spL (ss : List SmpR) (n : Int) (m : Nat) : List PtR := (List.range m).map fun (j : Nat) => spPt ss (spD ss n j)
theorem spL_succ (ss : List SmpR) (n : Int) (m : Nat) : spL ss n (m + 1) = spL ss n m ++ [spPt ss (spD ss n m)] := by unfold spL; rw [List.range_succ, List.map_append]; rfl
theorem spL_len (ss : List SmpR) (n : Int) (m : Nat) : (spL ss n m).length = m := by simp [spL]
noncomputable def spR (a : ActD) (n : Int) : List PtR × Int := if chkA a ≠ 0 then ([], chkA a) else if inB n 2 300 = false then ([], 9) else if a.ss.length = 0 then ([], 13) else (spL a.ss n n.toNat, 0)
theorem spR_e {a : ActD} {n : Int} (h : chkA a ≠ 0) : spR a n = ([], chkA a) := if_pos h
theorem spR_9 {a : ActD} {n : Int} (h : ¬chkA a ≠ 0) (h2 : inB n 2 300 = false) : spR a n = ([], 9) := by unfold spR; rw [if_neg h, if_pos h2]
theorem spR_13 {a : ActD} {n : Int} (h : ¬chkA a ≠ 0) (h2 : inB n 2 300 = true) (h3 : a.ss.length = 0) : spR a n = ([], 13) := by unfold spR; rw [if_neg h, if_neg (by simp [h2]), if_pos h3]
theorem spR_0 {a : ActD} {n : Int} (h : ¬chkA a ≠ 0) (h2 : inB n 2 300 = true) (h3 : ¬a.ss.length = 0) : spR a n = (spL a.ss n n.toNat, 0) := by unfold spR; rw [if_neg h, if_neg (by simp [h2]), if_neg h3]
theorem waysR_snd (a : ActD) : (waysR a).2 = chkA a := by
  by_cases h : chkA a ≠ 0
  · rw [waysR_e h]
  · rw [waysR_0 h]; exact (Decidable.not_not.1 h).symm
/-- The numbers that Scale is given. -/
theorem sp_args {st : Int} {ss : List SmpR} (hok : SmpOk st ss) {d : Int} {k : Nat} {p q : SmpR} (hq : ss[k]? = some q) (hp : ss[k - 1]? = some p) (h0 : 0 < k) (h1 : wayN ss (k - 1) < d) (h2 : d < wayN ss k) :
    (0 ≤ d - wayN ss (k - 1) ∧ d - wayN ss (k - 1) ≤ 300000000) ∧ (1 ≤ wayN ss k - wayN ss (k - 1) ∧ wayN ss k - wayN ss (k - 1) ≤ 300000000) ∧ d - wayN ss (k - 1) ≤ wayN ss k - wayN ss (k - 1) := by
  have hs := stepsL_get (ss := ss) (k := k - 1) hp (by rw [show k - 1 + 1 = k by omega]; exact hq)
  have h3 := wayN_succ hs
  rw [show k - 1 + 1 = k by omega] at h3
  dsimp only at h3
  have h5 := lenD_bd (hok.place (List.mem_of_getElem? hp)) (hok.place (List.mem_of_getElem? hq))
  omega
theorem sp_prod {a num : Int} (ha : -200000000 ≤ a ∧ a ≤ 200000000) (hn : 0 ≤ num ∧ num ≤ 300000000) : (0 ≤ a → 0 ≤ a * num ∧ a * num ≤ 1000000000000000000) ∧ (a < 0 → 0 ≤ -a * num ∧ -a * num ≤ 1000000000000000000) := by
  refine ⟨fun h => ?_, fun h => ?_⟩
  · have := mul_bd (a := a) (b := num) h ha.2 hn.1 hn.2; omega
  · have := mul_bd (a := -a) (b := num) (A := 200000000) (by omega) (by omega) hn.1 hn.2; omega
end Go.Proofs.Ytbbhcffkleplnaa
