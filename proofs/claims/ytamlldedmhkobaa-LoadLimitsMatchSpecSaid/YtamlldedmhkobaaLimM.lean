/-
  Limits, Power, Pulse as plain functions. No program stands here.
-/
import Derived.Test.YtamlldedmhkobaaZonesM
import Derived.Test.YtamlldedmhkobaaSlices
namespace Go.Proofs.Ytamlldedmhkobaa
set_option linter.unusedVariables false
def limF (t p : Int) : Int := t * p / 100
def limL (t : Int) (ps : List Int) : List Int := ps.map (limF t)
theorem limL_get {t : Int} {ps : List Int} {k : Nat} {p : Int} (h : ps[k]? = some p) : (limL t ps)[k]? = some (limF t p) := by simp [limL, h]
theorem limL_len (t : Int) (ps : List Int) : (limL t ps).length = ps.length := by simp [limL]
def AscK (ls : List Int) (k : Nat) : Prop := ∀ i x y, i + 1 < k → ls[i]? = some x → ls[i + 1]? = some y → x < y
theorem AscK.zero (ls : List Int) : AscK ls 0 := fun i x y h => by omega
theorem AscK.one {ls : List Int} {k : Nat} (h : AscK ls k) (hk : k ≤ 0) : AscK ls (k + 1) := fun i x y h => by omega
theorem AscK.next {ls : List Int} {k : Nat} {x y : Int} (h : AscK ls k) (hx : ls[k - 1]? = some x) (hy : ls[k]? = some y) (hxy : ¬y ≤ x) : AscK ls (k + 1) := fun i u v hi hu hv => by
  by_cases hik : i + 1 < k
  · exact h i u v hik hu hv
  · have : i + 1 = k := by omega
    subst this
    simp only [Nat.add_sub_cancel] at hx
    rw [hx] at hu; rw [hy] at hv; cases hu; cases hv; omega
theorem AscK.bad {ls : List Int} {k : Nat} {x y : Int} (hk : 0 < k) (hx : ls[k - 1]? = some x) (hy : ls[k]? = some y) (hxy : y ≤ x) : ¬AscK ls ls.length := fun h => by
  have h1 := (List.getElem?_eq_some_iff.1 hy).1
  have := h (k - 1) x y (by omega) hx (by rw [show k - 1 + 1 = k by omega]; exact hy)
  omega
/-- Limits: the limits, and an error. -/
def LimR (t : Int) (ps out : List Int) (e : Int) : Prop :=
  if inB t 1 10000 = false then out = [] ∧ e = 9 else if zonesC ps ≠ 0 then out = [] ∧ e = zonesC ps else if ps.all (fun x => decide (x ≤ 1000)) = false then out = [] ∧ e = 9
  else (AscK (limL t ps) ps.length → out = limL t ps ∧ e = 0) ∧ (¬AscK (limL t ps) ps.length → out = [] ∧ e = 10)
theorem LimR.unique {t : Int} {ps out out' : List Int} {e e' : Int} (h : LimR t ps out e) (h' : LimR t ps out' e') : out = out' ∧ e = e' := by
  unfold LimR at h h'
  by_cases h1 : inB t 1 10000 = false
  · rw [if_pos h1] at h h'; exact ⟨by rw [h.1, h'.1], by rw [h.2, h'.2]⟩
  · rw [if_neg h1] at h h'
    by_cases h2 : zonesC ps ≠ 0
    · rw [if_pos h2] at h h'; exact ⟨by rw [h.1, h'.1], by rw [h.2, h'.2]⟩
    · rw [if_neg h2] at h h'
      by_cases h3 : ps.all (fun x => decide (x ≤ 1000)) = false
      · rw [if_pos h3] at h h'; exact ⟨by rw [h.1, h'.1], by rw [h.2, h'.2]⟩
      · rw [if_neg h3] at h h'
        by_cases h4 : AscK (limL t ps) ps.length
        · have a := h.1 h4; have b := h'.1 h4; exact ⟨by rw [a.1, b.1], by rw [a.2, b.2]⟩
        · have a := h.2 h4; have b := h'.2 h4; exact ⟨by rw [a.1, b.1], by rw [a.2, b.2]⟩
theorem LimR.r9 {t : Int} {ps : List Int} (h : inB t 1 10000 = false) : LimR t ps [] 9 := by unfold LimR; rw [if_pos h]; exact ⟨rfl, rfl⟩
theorem LimR.rz {t : Int} {ps : List Int} (h : inB t 1 10000 = true) (h2 : zonesC ps ≠ 0) : LimR t ps [] (zonesC ps) := by unfold LimR; rw [if_neg (by rw [h]; simp), if_pos h2]; exact ⟨rfl, rfl⟩
theorem LimR.rx {t : Int} {ps : List Int} (h : inB t 1 10000 = true) (h2 : zonesC ps = 0) (h3 : ps.all (fun x => decide (x ≤ 1000)) = false) : LimR t ps [] 9 := by unfold LimR; rw [if_neg (by rw [h]; simp), if_neg (by omega), if_pos h3]; exact ⟨rfl, rfl⟩
theorem LimR.ra {t : Int} {ps : List Int} (h : inB t 1 10000 = true) (h2 : zonesC ps = 0) (h3 : ∀ x ∈ ps, x ≤ 1000) (h4 : ¬AscK (limL t ps) ps.length) : LimR t ps [] 10 := by
  unfold LimR; rw [if_neg (by rw [h]; simp), if_neg (by omega), if_neg (by rw [List.all_eq_true.2 (fun x hx => by simpa using h3 x hx)]; simp)]; exact ⟨fun h => absurd h h4, fun _ => ⟨rfl, rfl⟩⟩
theorem LimR.r0 {t : Int} {ps : List Int} (h : inB t 1 10000 = true) (h2 : zonesC ps = 0) (h3 : ∀ x ∈ ps, x ≤ 1000) (h4 : AscK (limL t ps) ps.length) : LimR t ps (limL t ps) 0 := by
  unfold LimR; rw [if_neg (by rw [h]; simp), if_neg (by omega), if_neg (by rw [List.all_eq_true.2 (fun x hx => by simpa using h3 x hx)]; simp)]; exact ⟨fun _ => ⟨rfl, rfl⟩, fun h => absurd h4 h⟩
theorem all_max {ps : List Int} {m : Int} (hn : 0 < ps.length) (hx : m < maxV ps) : ps.all (fun x => decide (x ≤ m)) = false := by
  rw [List.all_eq_false]
  exact ⟨_, maxV_mem (ys := ps) (by intro e; rw [e] at hn; simp at hn), by simp; omega⟩
theorem all_one {ps : List Int} {m x : Int} {k : Nat} (h : ps[k]? = some x) (hx : m < x) : ps.all (fun x => decide (x ≤ m)) = false := all_false h (by simp; omega)
/-- How many are known. -/
def kS (xs : List Int) (k : Nat) : Int := sI (fun x => 1 - nv x) (xs.take k)
theorem kS_zero (xs : List Int) : kS xs 0 = 0 := by simp [kS, sI]
theorem kS_succ {xs : List Int} {k : Nat} {x : Int} (h : xs[k]? = some x) : kS xs (k + 1) = kS xs k + (1 - nv x) := sI_take _ h
theorem kS_bd (xs : List Int) (k : Nat) : 0 ≤ kS xs k ∧ kS xs k ≤ xs.length := by
  have := sI_bd (fun x => 1 - nv x) 1 (by omega) (xs.take k) (fun x hx => by have := nv_bd x; omega)
  unfold kS
  rw [List.length_take] at this
  omega
/-- Pulse: the sum of the weights. -/
def plS (ws ss : List Int) (k : Nat) : Int := ((ws.zip ss).take k).foldl (fun s p => s + p.1 * p.2) 0
theorem plS_zero (ws ss : List Int) : plS ws ss 0 = 0 := by simp [plS]
theorem plS_succ {ws ss : List Int} {k : Nat} {x y : Int} (hx : ws[k]? = some x) (hy : ss[k]? = some y) : plS ws ss (k + 1) = plS ws ss k + x * y := by
  have hz : (ws.zip ss)[k]? = some (x, y) := by rw [List.getElem?_zip_eq_some]; exact ⟨hx, hy⟩
  unfold plS
  rw [take_succ_get hz, List.foldl_append]; rfl
theorem plS_bd {K : Nat} {ws ss : List Int} (hw : ∀ (i : Nat) x, ws[i]? = some x → i < K → 0 ≤ x ∧ x ≤ 1000) (hs : ∀ y ∈ ss, 0 ≤ y ∧ y ≤ 1000000) : ∀ k, k ≤ K → k ≤ ws.length → k ≤ ss.length → 0 ≤ plS ws ss k ∧ plS ws ss k ≤ 1000000000 * k
  | 0, _, _, _ => by rw [plS_zero]; omega
  | k + 1, h0, h1, h2 => by
    have hx : ws[k]? = some (ws[k]'(by omega)) := List.getElem?_eq_getElem (by omega)
    have hy : ss[k]? = some (ss[k]'(by omega)) := List.getElem?_eq_getElem (by omega)
    have ih := plS_bd hw hs k (by omega) (by omega) (by omega)
    have q1 := hw k _ hx (by omega)
    have q2 := hs _ (List.mem_of_getElem? hy)
    have q3 := mul_bd q1.1 q1.2 q2.1 q2.2
    rw [plS_succ hx hy]; omega
end Go.Proofs.Ytamlldedmhkobaa
