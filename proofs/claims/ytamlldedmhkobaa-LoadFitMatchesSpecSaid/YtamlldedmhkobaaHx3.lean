/-
  More rules of the logic: regions that draw their order, of whatever shape: an operation that yields the same in every world that keeps H0 is taken first; one that stands alone is carried out.
-/
import Derived.Test.YtamlldedmhkobaaHx2
import Derived.OrdersHeld
import Derived.Deep.RegionHeld3
namespace Go.Proofs.Ytamlldedmhkobaa.Hx
open Go Go.RowKit
set_option linter.unusedVariables false
set_option linter.unusedSimpArgs false
set_option linter.unusedSectionVars false
section
variable {P : Program} {N B : Nat} {w0 : World} {Q : Exit → Act → World → Prop} {al : AL} {H H0 : HL} {ops : Array Oper} {n : Nat} {listed : Array Bool}
def AQ (P : Program) (N B : Nat) (w0 : World) (ops : Array Oper) (Q : Exit → Act → World → Prop) (H0 : HL) (n : Nat) (listed : Array Bool) (al : AL) (H : HL) : Prop :=
  ∀ a w, St N B w0 al H a w → wpAnyH P .any ops (NoPanic Q) (Cl B w0 H0) n listed a w
theorem wp_rega {id : Nat} {ops : Array Oper} (H0 : HL) (hm : P.follows .mixedOrders = true) (hh : SubH H0 H) (h : AQ P N B w0 ops Q H0 ops.size (Array.replicate ops.size false) al H) :
    WP P N B w0 (.region id ops true) Q al H := by
  intro a w hst
  exact wp_region_noPanic (wp_region_held hm (h a _ ⟨hst.regs, hst.below.drew, hst.sat.below' (fun k _ => rfl), hst.base⟩))
theorem aq_done (hr : Region.ready .any ops listed = []) (h : QP N B w0 Q .normal al H) : AQ P N B w0 ops Q H0 n listed al H :=
  fun a w hst => wpAnyH_done (Q := NoPanic Q) hr (NoPanic.normal (h a w hst)) _
section
variable {d : Nat} {op : Op} {ty : TypeId} {pos : String} {after : Array Edge} {v : Value}
theorem aq_r (i : Nat) (hi : ops[i]? = some { dst := some d, op, type := ty, pos, after, guard := none }) (hs : Region.noSelect ops = true) (hf : Region.free .any ops listed i = true) (hr : (Region.ready .any ops listed).contains i = true)
    (hd : Nat.blt d N = true) (hh : SubH H0 H) (hrun : Runs P N B w0 op ty al H0 v) (k : AQ P N B w0 ops Q H0 n (listed.setIfInBounds i true) ((d, v) :: al) H) : AQ P N B w0 ops Q H0 (n + 1) listed al H := by
  intro a w hst
  refine wpAnyH_take hi hs hf hr (fun c a w h => h) (.inl ⟨rfl, fun w1 h1 => ?_⟩) ⟨hst.below, hst.sat.sub hh, hst.base⟩ (k _ _ (hst.put (by simpa using hd) v))
  have := hrun a w1 ⟨hst.regs, h1.1, h1.2.1, h1.2.2⟩
  exact this
theorem aq_g (i : Nat) {j dj : Nat} {want c : Bool} (hi : ops[i]? = some { dst := some d, op, type := ty, pos, after, guard := some (j, want) }) (hs : Region.noSelect ops = true) (hf : Region.free .any ops listed i = true) (hr : (Region.ready .any ops listed).contains i = true)
    (hj : gd ops.toList j = some dj) (hl : look al dj = some (.bool c)) (hc : c = want)
    (hd : Nat.blt d N = true) (hh : SubH H0 H) (hrun : Runs P N B w0 op ty al H0 v) (k : AQ P N B w0 ops Q H0 n (listed.setIfInBounds i true) ((d, v) :: al) H) : AQ P N B w0 ops Q H0 (n + 1) listed al H := by
  intro a w hst
  have hw := wanted_of (o := { dst := some d, op, type := ty, pos, after, guard := some (j, want) }) hst.regs rfl hj hl
  simp only [hc, beq_self_eq_true] at hw
  refine wpAnyH_take hi hs hf hr (fun c a w h => h) (.inl ⟨by simpa using hw, fun w1 h1 => ?_⟩) ⟨hst.below, hst.sat.sub hh, hst.base⟩ (k _ _ (hst.put (by simpa using hd) v))
  have := hrun a w1 ⟨hst.regs, h1.1, h1.2.1, h1.2.2⟩
  exact this
theorem aq_s (i : Nat) {j dj : Nat} {want c : Bool} (hi : ops[i]? = some { dst := some d, op, type := ty, pos, after, guard := some (j, want) }) (hs : Region.noSelect ops = true) (hf : Region.free .any ops listed i = true) (hr : (Region.ready .any ops listed).contains i = true)
    (hj : gd ops.toList j = some dj) (hl : look al dj = some (.bool c)) (hc : c = !want)
    (hd : Nat.blt d N = true) (hh : SubH H0 H) (k : AQ P N B w0 ops Q H0 n (listed.setIfInBounds i true) ((d, undef) :: al) H) : AQ P N B w0 ops Q H0 (n + 1) listed al H := by
  intro a w hst
  have hw := wanted_of (o := { dst := some d, op, type := ty, pos, after, guard := some (j, want) }) hst.regs rfl hj hl
  rw [hc] at hw
  refine wpAnyH_take hi hs hf hr (fun c a w h => h) (.inr ⟨by cases want <;> simpa using hw, rfl⟩) ⟨hst.below, hst.sat.sub hh, hst.base⟩ (k _ _ (hst.put (by simpa using hd) undef))
theorem aq_u (i : Nat) {j dj : Nat} {want : Bool} (hi : ops[i]? = some { dst := some d, op, type := ty, pos, after, guard := some (j, want) }) (hs : Region.noSelect ops = true) (hf : Region.free .any ops listed i = true) (hr : (Region.ready .any ops listed).contains i = true)
    (hj : gd ops.toList j = some dj) (hl : look al dj = some undef)
    (hd : Nat.blt d N = true) (hh : SubH H0 H) (k : AQ P N B w0 ops Q H0 n (listed.setIfInBounds i true) ((d, undef) :: al) H) : AQ P N B w0 ops Q H0 (n + 1) listed al H := by
  intro a w hst
  have hw := wanted_undef (o := { dst := some d, op, type := ty, pos, after, guard := some (j, want) }) hst.regs rfl hj hl
  exact wpAnyH_take hi hs hf hr (fun c a w h => h) (.inr ⟨hw, rfl⟩) ⟨hst.below, hst.sat.sub hh, hst.base⟩ (k _ _ (hst.put (by simpa using hd) undef))
end
theorem aq_split {d : Nat} {c : Bool} (hl : look al d = some (.bool c)) (ht : c = true → AQ P N B w0 ops Q H0 n listed al H) (hf : c = false → AQ P N B w0 ops Q H0 n listed al H) : AQ P N B w0 ops Q H0 n listed al H := by
  cases hc : c
  · exact hf hc
  · exact ht hc
/-- One that stands alone, or one of several that may come up: it is carried out, and what S keeps is shown anew. -/
theorem aq_op {i : Nat} {o : Oper} (ho : ops[i]? = some o)
    (h : ∀ K, (∀ al' H', SubH H0 H' → AQ P N B w0 ops Q H0 n (listed.setIfInBounds i true) al' H' → KP N B w0 K al' H') → OL P N B w0 ops.toList [o] (Exit.then K (NoPanic Q)) al H) (a : Act) (w : World) (hst : St N B w0 al H a w) :
    wpOp P ops (NoPanic Q) i (fun a' w' => Cl B w0 H0 w' ∧ wpAnyH P .any ops (NoPanic Q) (Cl B w0 H0) n (listed.setIfInBounds i true) a' w') a w := by
  have h1 := h (fun a' w' => Cl B w0 H0 w' ∧ wpAnyH P .any ops (NoPanic Q) (Cl B w0 H0) n (listed.setIfInBounds i true) a' w')
    (fun al' H' hh hk a' w' hst' => ⟨⟨hst'.below, hst'.sat.sub hh, hst'.base⟩, hk a' w' hst'⟩) a w hst
  unfold wpOp
  rw [ho]
  simp only [Array.toArray_toList] at h1
  unfold wpList at h1
  dsimp only at h1 ⊢
  split
  · rename_i hw
    rw [if_pos hw] at h1
    rcases h1 with h1 | ⟨h1, h2⟩
    · refine .inl ?_
      have h2 := Oper.wp_mono (Q := Exit.then _ (NoPanic Q)) (fun a w (h : wpList P ops (Exit.then _ (NoPanic Q)) [] a w) => (h : Exit.then _ (NoPanic Q) .normal a w)) h1
      unfold Oper.wp at h2 ⊢
      generalize (execOp a.eval o).run P w = r at *
      cases r with
      | ok n w' => cases n <;> exact h2
      | halt x w' => cases x <;> exact h2
    · exact .inr ⟨h1, h2⟩
  · rename_i hw
    rw [if_neg hw] at h1
    exact h1
theorem aq_one {i : Nat} {o : Oper} (hr : Region.ready .any ops listed = [i]) (ho : ops[i]? = some o)
    (h : ∀ K, (∀ al' H', SubH H0 H' → AQ P N B w0 ops Q H0 n (listed.setIfInBounds i true) al' H' → KP N B w0 K al' H') → OL P N B w0 ops.toList [o] (Exit.then K (NoPanic Q)) al H) :
    AQ P N B w0 ops Q H0 (n + 1) listed al H := by
  intro a w hst
  refine wpAnyH_all hr (by simp) fun j hj => ?_
  have : j = i := by simpa using hj
  subst this
  exact aq_op ho h a w hst
theorem aq_two {i j : Nat} {o o' : Oper} (hr : Region.ready .any ops listed = [i, j]) (ho : ops[i]? = some o) (ho' : ops[j]? = some o')
    (h : ∀ K, (∀ al' H', SubH H0 H' → AQ P N B w0 ops Q H0 n (listed.setIfInBounds i true) al' H' → KP N B w0 K al' H') → OL P N B w0 ops.toList [o] (Exit.then K (NoPanic Q)) al H)
    (h' : ∀ K, (∀ al' H', SubH H0 H' → AQ P N B w0 ops Q H0 n (listed.setIfInBounds j true) al' H' → KP N B w0 K al' H') → OL P N B w0 ops.toList [o'] (Exit.then K (NoPanic Q)) al H) :
    AQ P N B w0 ops Q H0 (n + 1) listed al H := by
  intro a w hst
  refine wpAnyH_all hr (by simp) fun k hk => ?_
  rcases (by simpa using hk : k = i ∨ k = j) with rfl | rfl
  · exact aq_op ho h a w hst
  · exact aq_op ho' h' a w hst
end
end Go.Proofs.Ytamlldedmhkobaa.Hx
