/-
  Segments. No program stands here.
-/
import Derived.Test.YtbbhcffkleplnaaActM
namespace Go.Proofs.Ytbbhcffkleplnaa
set_option linter.unusedVariables false
structure GateR where
  ax : Int
  ay : Int
  bx : Int
  by_ : Int
def ptB (x y : Int) : Bool := inB x (-100000000) 100000000 && inB y (-100000000) 100000000
def fG (_ : Option GateR) (g : GateR) : Int := if ptB g.ax g.ay = false ∨ ptB g.bx g.by_ = false then 9 else if g.ax = g.bx ∧ g.ay = g.by_ then 2 else 0
theorem fG_9 {p : Option GateR} {g : GateR} (h : ptB g.ax g.ay = false ∨ ptB g.bx g.by_ = false) : fG p g = 9 := if_pos h
theorem fG_2 {p : Option GateR} {g : GateR} (h : ptB g.ax g.ay = true) (h2 : ptB g.bx g.by_ = true) (h3 : g.ax = g.bx ∧ g.ay = g.by_) : fG p g = 2 := by unfold fG; rw [if_neg (by simp [h, h2]), if_pos h3]
theorem fG_0 {p : Option GateR} {g : GateR} (h : ptB g.ax g.ay = true) (h2 : ptB g.bx g.by_ = true) (h3 : ¬(g.ax = g.bx ∧ g.ay = g.by_)) : fG p g = 0 := by unfold fG; rw [if_neg (by simp [h, h2]), if_neg h3]
theorem fG_inv {p : Option GateR} {g : GateR} (h : fG p g = 0) : ptB g.ax g.ay = true ∧ ptB g.bx g.by_ = true ∧ ¬(g.ax = g.bx ∧ g.ay = g.by_) := by
  unfold fG at h
  by_cases h1 : ptB g.ax g.ay = false ∨ ptB g.bx g.by_ = false
  · rw [if_pos h1] at h; omega
  · rw [if_neg h1] at h
    by_cases h2 : g.ax = g.bx ∧ g.ay = g.by_
    · rw [if_pos h2] at h; omega
    · refine ⟨?_, ?_, h2⟩
      · cases h3 : ptB g.ax g.ay with
        | true => rfl
        | false => exact absurd (.inl h3) h1
      · cases h3 : ptB g.bx g.by_ with
        | true => rfl
        | false => exact absurd (.inr h3) h1
def chkSeg (nm : ByteArray) (gs : List GateR) : Int := if nameB nm = false then 8 else if inB gs.length 2 50 = false then 3 else chkE fG none gs
theorem chkSeg_8 {nm : ByteArray} {gs : List GateR} (h : nameB nm = false) : chkSeg nm gs = 8 := if_pos h
theorem chkSeg_3 {nm : ByteArray} {gs : List GateR} (h : nameB nm = true) (h2 : inB gs.length 2 50 = false) : chkSeg nm gs = 3 := by unfold chkSeg; rw [if_neg (by simp [h]), if_pos h2]
theorem chkSeg_g {nm : ByteArray} {gs : List GateR} (h : nameB nm = true) (h2 : inB gs.length 2 50 = true) : chkSeg nm gs = chkE fG none gs := by unfold chkSeg; rw [if_neg (by simp [h]), if_neg (by simp [h2])]
theorem chkE_zero {α : Type} {f : Option α → α → Int} {xs : List α} (h : ∀ x ∈ xs, ∀ p, f p x = 0) : chkE f none xs = 0 := by
  have key : ∀ (l : List α) (p : Option α), (∀ x ∈ l, ∀ p, f p x = 0) → chkE f p l = 0 := by
    intro l
    induction l with
    | nil => intro p _; rfl
    | cons x r ih =>
      intro p h
      rw [chkE_cons, h x (by simp) p, if_neg (by simp)]
      exact ih _ fun y hy => h y (by simp [hy])
  exact key xs none h
structure SegOk (nm : ByteArray) (gs : List GateR) : Prop where
  nm : nameB nm = true
  len : 2 ≤ gs.length ∧ gs.length ≤ 50
  g : ∀ x ∈ gs, (∀ p, fG p x = 0)
theorem segOk {nm : ByteArray} {gs : List GateR} (h : chkSeg nm gs = 0) : SegOk nm gs := by
  by_cases h1 : nameB nm = true
  · by_cases h2 : inB gs.length 2 50 = true
    · rw [chkSeg_g h1 h2] at h
      refine ⟨h1, by have := inB_iff.1 h2; omega, fun x hx p => ?_⟩
      obtain ⟨k, hk⟩ := List.getElem?_of_mem hx
      exact chkE_ok h hk
    · rw [chkSeg_3 h1 (by simpa using h2)] at h; omega
  · rw [chkSeg_8 (by simpa using h1)] at h; omega
theorem SegOk.chk {nm : ByteArray} {gs : List GateR} (h : SegOk nm gs) : chkSeg nm gs = 0 := by
  rw [chkSeg_g h.nm (inB_iff.2 (by have := h.len; omega))]
  exact chkE_zero h.g
def GateR.flip (g : GateR) : GateR := ⟨g.bx, g.by_, g.ax, g.ay⟩
def turnL (gs : List GateR) : List GateR := (gs.map GateR.flip).reverse
theorem turnL_two (gs : List GateR) : turnL (turnL gs) = gs := by
  unfold turnL
  rw [List.map_reverse, List.reverse_reverse, List.map_map]
  have : ∀ g ∈ gs, (GateR.flip ∘ GateR.flip) g = g := fun g _ => rfl
  rw [List.map_congr_left this]
  simp
theorem turnL_len (gs : List GateR) : (turnL gs).length = gs.length := by simp [turnL]
theorem turn_ok {nm : ByteArray} {gs : List GateR} (h : SegOk nm gs) : SegOk nm (turnL gs) := by
  refine ⟨h.nm, by rw [turnL_len]; exact h.len, fun x hx p => ?_⟩
  unfold turnL at hx
  obtain ⟨g, hg, rfl⟩ := List.mem_map.1 (List.mem_reverse.1 hx)
  obtain ⟨h1, h2, h3⟩ := fG_inv (h.g g hg none)
  exact fG_0 h2 h1 (fun h4 => h3 ⟨h4.1.symm, h4.2.symm⟩)
def turnR (nm : ByteArray) (gs : List GateR) : ByteArray × List GateR × Int := if chkSeg nm gs ≠ 0 then (ByteArray.empty, [], chkSeg nm gs) else (nm, turnL gs, 0)
theorem turnR_e {nm : ByteArray} {gs : List GateR} (h : chkSeg nm gs ≠ 0) : turnR nm gs = (ByteArray.empty, [], chkSeg nm gs) := if_pos h
theorem turnR_0 {nm : ByteArray} {gs : List GateR} (h : chkSeg nm gs = 0) : turnR nm gs = (nm, turnL gs, 0) := if_neg (by simp [h])
/-- The first k of the gates, from the back. -/
def turnK (gs : List GateR) (k : Nat) : List GateR := (turnL gs).take k
theorem turnK_len {gs : List GateR} {k : Nat} (h : k ≤ gs.length) : (turnK gs k).length = k := by unfold turnK; rw [List.length_take, turnL_len]; omega
theorem turnL_get {gs : List GateR} {k : Nat} {g : GateR} (hk : k < gs.length) (h : gs[gs.length - 1 - k]? = some g) : (turnL gs)[k]? = some g.flip := by
  unfold turnL
  rw [List.getElem?_reverse (by simpa using hk), List.length_map, List.getElem?_map, h]; rfl
theorem turnK_succ {gs : List GateR} {k : Nat} {g : GateR} (hk : k < gs.length) (h : gs[gs.length - 1 - k]? = some g) : turnK gs (k + 1) = turnK gs k ++ [g.flip] := by
  unfold turnK
  rw [take_succ_get (turnL_get hk h)]
theorem turnK_all {gs : List GateR} {k : Nat} (h : gs.length ≤ k) : turnK gs k = turnL gs := List.take_of_length_le (by rw [turnL_len]; exact h)
/-- What Backward yields. -/
def backP (gs : List GateR) : List (Int × GateR) := (((List.range gs.length).map fun (i : Nat) => (i : Int)).zip gs).reverse
theorem backP_len (gs : List GateR) : (backP gs).length = gs.length := by simp [backP]
theorem backP_get {gs : List GateR} {k : Nat} {g : GateR} {v : Int} (hk : k < gs.length) (h : gs[gs.length - 1 - k]? = some g) (hv : v = ((gs.length - 1 - k : Nat) : Int)) : (backP gs)[k]? = some (v, g) := by
  subst hv
  unfold backP
  rw [List.getElem?_reverse (by simp; omega)]
  simp only [List.length_zip, List.length_map, List.length_range, Nat.min_self]
  rw [List.getElem?_zip_eq_some]
  exact ⟨by rw [List.getElem?_map, List.getElem?_range (by omega)]; rfl, h⟩
theorem backP_inv {gs : List GateR} {k : Nat} {x : Int × GateR} (h : (backP gs)[k]? = some x) : k < gs.length ∧ gs[gs.length - 1 - k]? = some x.2 := by
  have hk : k < gs.length := by have := (List.getElem?_eq_some_iff.1 h).1; rwa [backP_len] at this
  have hg : gs[gs.length - 1 - k]? = some (gs[gs.length - 1 - k]'(by omega)) := List.getElem?_eq_getElem _
  rw [backP_get hk hg rfl] at h
  cases h
  exact ⟨hk, hg⟩
end Go.Proofs.Ytbbhcffkleplnaa
