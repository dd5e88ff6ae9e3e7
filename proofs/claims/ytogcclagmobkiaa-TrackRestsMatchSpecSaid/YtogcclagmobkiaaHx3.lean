/-
  More rules of the logic: regions that draw their order, of whatever shape: an operation that yields the same in every world that keeps H0 is taken first; one that stands alone is carried out.
-/
import Derived.Test.YtogcclagmobkiaaHx2
import Derived.OrdersHeld
import Derived.StillTail
import Derived.Deep.RegionHeld3
namespace Go.Proofs.Ytogcclagmobkiaa.Hx
open Go Go.RowKit
set_option linter.unusedVariables false
set_option linter.unusedSimpArgs false
set_option linter.unusedSectionVars false
section
variable {P : Program} {N : Fr} {B : Nat} {w0 : World} {Q : Exit → Act → World → Prop} {al : AL} {H : HL} {ops : Array Oper} {n : Nat} {listed : Array Bool} {Ss : List (Nat × HL)}
/-- As long as operation j has not come up, the entries of its stage hold. -/
def Stg (N : Fr) (B : Nat) (w0 : World) (Ss : List (Nat × HL)) (listed : Array Bool) (w : World) : Prop := ∀ p ∈ Ss, listed.getD p.1 false = false → Cl N B w0 p.2 w
/-- What has come up is closed under what it waits for. -/
def Shut (ops : Array Oper) (listed : Array Bool) : Prop := listed.size = ops.size ∧ ∀ j oj, ops[j]? = some oj → listed.getD j false = true → ∀ e ∈ oj.after, Region.binds .any e = true → listed.getD e.on false = true
theorem Shut.start (ops : Array Oper) : Shut ops (Array.replicate ops.size false) := ⟨by simp, fun j oj _ hl => by rw [getD_replicate_false] at hl; cases hl⟩
theorem Shut.set {i : Nat} (h : Shut ops listed) (hi : i ∈ Region.ready .any ops listed) : Shut ops (listed.setIfInBounds i true) := by
  obtain ⟨_, oi, hoi, hall⟩ := mem_ready.1 hi
  refine ⟨by simp [h.1], ?_⟩
  intro j oj hj hl e he hb
  by_cases hij : i = j
  · subst hij
    have : oj = oi := Option.some.inj (hj.symm.trans hoi)
    subst this
    exact getD_set_true (hall e he hb)
  · rw [getD_set_ne false hij] at hl
    exact getD_set_true (h.2 j oj hj hl e he hb)
theorem Stg.set {i : Nat} {w : World} (h : Stg N B w0 Ss listed w) : Stg N B w0 Ss (listed.setIfInBounds i true) w := fun p hp hl => by
  by_cases hi : i = p.1
  · subst hi
    cases h1 : listed.getD p.1 false with
    | true => have := getD_set_true (i := p.1) h1; rw [this] at hl; cases hl
    | false => exact h p hp h1
  · rw [getD_set_ne false hi] at hl; exact h p hp hl
theorem Stg.unset {i : Nat} {w : World} (h : Stg N B w0 Ss (listed.setIfInBounds i true) w) (hn : ∀ p ∈ Ss, p.1 ≠ i) : Stg N B w0 Ss listed w := fun p hp hl =>
  h p hp (by rw [getD_set_ne false (Ne.symm (hn p hp))]; exact hl)
/-- Whatever order is picked from here on; the stages hold behind every operation. -/
def AnyS (P : Program) (ops : Array Oper) (Q : Exit → Act → World → Prop) (N : Fr) (B : Nat) (w0 : World) (Ss : List (Nat × HL)) : Nat → Array Bool → Act → World → Prop
  | 0, listed, a, w => Region.ready .any ops listed = [] ∧ Q .normal a w
  | f + 1, listed, a, w => (Region.ready .any ops listed = [] → Q .normal a w) ∧
    ∀ i ∈ Region.ready .any ops listed, wpOp P ops Q i (fun a' w' => Stg N B w0 Ss (listed.setIfInBounds i true) w' ∧ AnyS P ops Q N B w0 Ss f (listed.setIfInBounds i true) a' w') a w
theorem AnyS.any {Q : Exit → Act → World → Prop} : ∀ (f : Nat) (listed : Array Bool) (a : Act) (w : World), AnyS P ops Q N B w0 Ss f listed a w → wpAny P .any ops Q f listed a w
  | 0, _, _, _, h => h
  | f + 1, _, _, _, h => ⟨h.1, fun i hi => wpOp_mono (fun a' w' h' => AnyS.any f _ a' w' h'.2) (h.2 i hi)⟩
/-- A world that may be there while i has not come up. -/
def While (ops : Array Oper) (N : Fr) (B : Nat) (w0 : World) (Ss : List (Nat × HL)) (i : Nat) (w : World) : Prop := ∃ listed, Shut ops listed ∧ listed.getD i true = false ∧ Stg N B w0 Ss listed w
theorem AnyS.first {Q : Exit → Act → World → Prop} {i : Nat} {oi : Oper} {v : Value} (hi : ops[i]? = some oi) (hsel : ∀ (j : Nat) (o : Oper) cs b, ops[j]? = some o → o.op ≠ .select cs b)
    (hQ : ∀ c a w, Q (.panic c) (a.put oi.dst v) w → Q (.panic c) a w) (hn : ∀ p ∈ Ss, p.1 ≠ i) :
    ∀ (f : Nat) (listed : Array Bool) (a : Act) (w : World),
      (∀ j oj, ops[j]? = some oj → j ≠ i → listed.getD j true = false → (∀ e ∈ oj.after, Region.binds .any e = true → e.on ≠ i) → oi.apart ops oj = true) →
      i ∈ Region.ready .any ops listed → Shut ops listed → YieldsIf P ops (While ops N B w0 Ss i) oi v a → Stg N B w0 Ss listed w →
      AnyS P ops Q N B w0 Ss f (listed.setIfInBounds i true) (a.put oi.dst v) w → AnyS P ops Q N B w0 Ss (f + 1) listed a w := by
  intro f
  induction f with
  | zero =>
    intro listed a w _ hr hsh hy hS h
    refine ⟨fun h0 => (by rw [h0] at hr; cases hr), fun j hj => ?_⟩
    by_cases hji : j = i
    · subst hji; exact hy.wpOp hi ⟨listed, hsh, (mem_ready.1 hr).1, hS⟩ ⟨hS.set, h⟩
    · have := ready_mono hj hji
      rw [h.1] at this
      cases this
  | succ f ih =>
    intro listed a w hfree hr hsh hy hS h
    refine ⟨fun h0 => (by rw [h0] at hr; cases hr), fun j hj => ?_⟩
    by_cases hji : j = i
    · subst hji; exact hy.wpOp hi ⟨listed, hsh, (mem_ready.1 hr).1, hS⟩ ⟨hS.set, h⟩
    · obtain ⟨hjun, oj, hoj, hall⟩ := mem_ready.1 hj
      have hiun := (mem_ready.1 hr).1
      have hnot : ∀ e ∈ oj.after, Region.binds .any e = true → e.on ≠ i := fun e he hb heq => by
        have h1 := hall e he hb
        rw [heq, getD_both hiun] at h1
        cases h1
      have h2 := wpOp_putIf hoj (hfree j oj hoj hji hjun hnot) (fun cs b => hsel i oi cs b hi) (fun cs b => hsel j oj cs b hoj) hQ hy (h.2 j (ready_mono hj hji))
      have hfree' : ∀ k ok, ops[k]? = some ok → k ≠ i → (listed.setIfInBounds j true).getD k true = false → (∀ e ∈ ok.after, Region.binds .any e = true → e.on ≠ i) → oi.apart ops ok = true := fun k ok hk hki hun hno => by
        by_cases hjk : j = k
        · subst hjk; exact hfree j ok hk hki hjun hno
        · rw [getD_set_ne true hjk] at hun; exact hfree k ok hk hki hun hno
      refine wpOp_mono (fun a' w' h3 => ?_) h2
      obtain ⟨h4, h5, h6⟩ := h3
      rw [Array.setIfInBounds_comm _ _ (Ne.symm hji)] at h5 h6
      have h7 := Stg.unset h5 hn
      exact ⟨h7, ih (listed.setIfInBounds j true) a' w' hfree' (ready_mono hr (Ne.symm hji)) (hsh.set hj) h4 h7 h6⟩
def AQ (P : Program) (N : Fr) (B : Nat) (w0 : World) (ops : Array Oper) (Q : Exit → Act → World → Prop) (Ss : List (Nat × HL)) (n : Nat) (listed : Array Bool) (al : AL) (H : HL) : Prop :=
  Shut ops listed → ∀ a w, St N B w0 al H a w → Stg N B w0 Ss listed w → AnyS P ops (NoPanic Q) N B w0 Ss n listed a w
/-- The stages that have not come up hold in H. -/
def Holds (listed : Array Bool) (H : HL) : List (Nat × HL) → Prop
  | [] => True
  | p :: r => (listed.getD p.1 false = true ∨ SubH p.2 H) ∧ Holds listed H r
theorem Holds.stg {a : Act} {w : World} (hst : St N B w0 al H a w) : ∀ {Ss : List (Nat × HL)}, Holds listed H Ss → Stg N B w0 Ss listed w
  | [], _ => fun p hp => by cases hp
  | q :: r, h => fun p hp hl => by
    rcases List.mem_cons.1 hp with rfl | hp
    · rcases h.1 with h1 | h1
      · rw [h1] at hl; cases hl
      · exact ⟨hst.below, hst.sat.sub h1, hst.base, hst.kd, hst.marks⟩
    · exact Holds.stg hst h.2 p hp hl
theorem wp_rega {id : Nat} {ops : Array Oper} (Ss : List (Nat × HL)) (hm : P.follows .mixedOrders = true) (hh : Holds (Array.replicate ops.size false) H Ss) (h : AQ P N B w0 ops Q Ss ops.size (Array.replicate ops.size false) al H) :
    WP P N B w0 (.region id ops true) Q al H := by
  intro a w hst
  exact d_any hm (wpAny_q NoPanic.imp _ _ _ _ (AnyS.any _ _ _ _ (h (Shut.start _) a _ hst.drew (Holds.stg hst.drew hh))))
theorem aq_done (hr : Region.ready .any ops listed = []) (h : QP N B w0 Q .normal al H) : AQ P N B w0 ops Q Ss n listed al H :=
  fun _ a w hst _ => by
    cases n with
    | zero => exact ⟨hr, h a w hst⟩
    | succ n => exact ⟨fun _ => h a w hst, by rw [hr]; simp⟩
/-- In every world that may be there while i has not come up, the stage j holds. -/
theorem While.cl {i j : Nat} {Hj : HL} {w : World} (h : While ops N B w0 Ss i w) (hm : (j, Hj) ∈ Ss) (hw : (Region.waitsFor .any ops j i || Nat.ble ops.size j) = true) : Cl N B w0 Hj w := by
  obtain ⟨l, h1, h2, h3⟩ := h
  refine h3 _ hm ?_
  rw [Bool.or_eq_true] at hw
  rcases hw with hw | hw
  · obtain ⟨oj, hj, e, he, hb, hon⟩ := Region.waitsFor_spec hw
    cases hl : l.getD j false with
    | false => rfl
    | true =>
      have := h1.2 j oj hj hl e he hb
      rw [hon, getD_both h2] at this
      cases this
  · have := Nat.le_of_ble_eq_true hw
    have h4 := h1.1
    rw [Array.getD_eq_getD_getElem?, Array.getElem?_eq_none (by omega)]; rfl
section
variable {d : Nat} {op : Op} {ty : TypeId} {pos : String} {after : Array Edge} {v : Value} {Hj : HL}
theorem aq_take (i j : Nat) {guard : Option (Nat × Bool)} (hi : ops[i]? = some { dst := some d, op, type := ty, pos, after, guard }) (hs : Region.noSelect ops = true) (hf : Region.free .any ops listed i = true) (hr : (Region.ready .any ops listed).contains i = true)
    (hm : (j, Hj) ∈ Ss) (hw : (Region.waitsFor .any ops j i || Nat.ble ops.size j) = true) (hn : (Ss.map (·.1)).contains i = false) (hd : Nat.blt d N.n = true)
    (hy : ∀ a, Regs N al a → YieldsIf P ops (Cl N B w0 Hj) { dst := some d, op, type := ty, pos, after, guard } v a) (k : AQ P N B w0 ops Q Ss n (listed.setIfInBounds i true) ((d, v) :: al) H) : AQ P N B w0 ops Q Ss (n + 1) listed al H := by
  intro hsh a w hst hS
  have hir : i ∈ Region.ready .any ops listed := by simpa using hr
  refine AnyS.first hi (Region.noSelect_spec hs) (fun c a w h => h) (fun p hp hpi => ?_) n listed a w (Region.free_spec hi hf) hir hsh ?_ hS (k (hsh.set hir) _ _ (hst.put (by simpa using hd) v) hS.set)
  · have : (Ss.map (·.1)).contains i = true := by simp; exact ⟨p.2, by rw [← hpi]; exact hp⟩
    rw [this] at hn; cases hn
  · rcases hy a hst.regs with ⟨h1, h2⟩ | h1
    · exact .inl ⟨h1, fun w1 hw1 => h2 w1 (hw1.cl hm hw)⟩
    · exact .inr h1
theorem aq_r (i j : Nat) (hi : ops[i]? = some { dst := some d, op, type := ty, pos, after, guard := none }) (hs : Region.noSelect ops = true) (hf : Region.free .any ops listed i = true) (hr : (Region.ready .any ops listed).contains i = true)
    (hm : (j, Hj) ∈ Ss) (hw : (Region.waitsFor .any ops j i || Nat.ble ops.size j) = true) (hn : (Ss.map (·.1)).contains i = false) (hd : Nat.blt d N.n = true)
    (hrun : Runs P N B w0 op ty al Hj v) (k : AQ P N B w0 ops Q Ss n (listed.setIfInBounds i true) ((d, v) :: al) H) : AQ P N B w0 ops Q Ss (n + 1) listed al H :=
  aq_take i j hi hs hf hr hm hw hn hd (fun a ha => .inl ⟨rfl, fun w1 h1 => hrun a w1 (h1.st ha)⟩) k
theorem aq_g (i j : Nat) {g dg : Nat} {want c : Bool} (hi : ops[i]? = some { dst := some d, op, type := ty, pos, after, guard := some (g, want) }) (hs : Region.noSelect ops = true) (hf : Region.free .any ops listed i = true) (hr : (Region.ready .any ops listed).contains i = true)
    (hm : (j, Hj) ∈ Ss) (hw : (Region.waitsFor .any ops j i || Nat.ble ops.size j) = true) (hn : (Ss.map (·.1)).contains i = false) (hg : gd ops.toList g = some dg) (hl : look al dg = some (.bool c)) (hc : c = want) (hd : Nat.blt d N.n = true)
    (hrun : Runs P N B w0 op ty al Hj v) (k : AQ P N B w0 ops Q Ss n (listed.setIfInBounds i true) ((d, v) :: al) H) : AQ P N B w0 ops Q Ss (n + 1) listed al H :=
  aq_take i j hi hs hf hr hm hw hn hd (fun a ha => by
    have hw := wanted_of (o := { dst := some d, op, type := ty, pos, after, guard := some (g, want) }) ha rfl hg hl
    simp only [hc, beq_self_eq_true] at hw
    exact .inl ⟨by simpa using hw, fun w1 h1 => hrun a w1 (h1.st ha)⟩) k
theorem aq_s (i j : Nat) {g dg : Nat} {want c : Bool} (hi : ops[i]? = some { dst := some d, op, type := ty, pos, after, guard := some (g, want) }) (hs : Region.noSelect ops = true) (hf : Region.free .any ops listed i = true) (hr : (Region.ready .any ops listed).contains i = true)
    (hm : (j, Hj) ∈ Ss) (hw : (Region.waitsFor .any ops j i || Nat.ble ops.size j) = true) (hn : (Ss.map (·.1)).contains i = false) (hg : gd ops.toList g = some dg) (hl : look al dg = some (.bool c)) (hc : c = !want) (hd : Nat.blt d N.n = true)
    (k : AQ P N B w0 ops Q Ss n (listed.setIfInBounds i true) ((d, undef) :: al) H) : AQ P N B w0 ops Q Ss (n + 1) listed al H :=
  aq_take i j hi hs hf hr hm hw hn hd (fun a ha => by
    have hw := wanted_of (o := { dst := some d, op, type := ty, pos, after, guard := some (g, want) }) ha rfl hg hl
    rw [hc] at hw
    exact .inr ⟨by cases want <;> simpa using hw, rfl⟩) k
theorem aq_ixr {α : Type} {xs : List α} {a : Option Addr} {m cap : Nat} {t : TypeId} {s ix : Operand} {kd : IntKind} {iv : Int} {E : Enc α} (i j : Nat) (hi : ops[i]? = some { dst := some d, op := .indexAddr t s ix, type := ty, pos, after, guard := none }) (hs : Region.noSelect ops = true) (hf : Region.free .any ops listed i = true) (hr : (Region.ready .any ops listed).contains i = true)
    (hm : (j, Hj) ∈ Ss) (hw : (Region.waitsFor .any ops j i || Nat.ble ops.size j) = true) (hn : (Ss.map (·.1)).contains i = false) (hd : Nat.blt d N.n = true)
    (hl : Rd E B w0 a m cap xs) (h1 : ev al s = some (.slice a m cap)) (h2 : ev al ix = some (.int kd iv)) (hT : Slc P t E.size) (h0 : 0 ≤ iv ∧ iv < m) 
    (k : ∀ x, xs[iv.toNat]? = some x → AQ P N B w0 ops Q Ss n (listed.setIfInBounds i true) ((d, .pointer (a.map (·.add (iv.toNat * E.size)))) :: al) H) : AQ P N B w0 ops Q Ss (n + 1) listed al H := by
  obtain ⟨x, hx⟩ := hl.get (i := iv.toNat) (by omega)
  exact aq_r i j hi hs hf hr hm hw hn hd (r_ix h1 h2 hT (hl.isSome (by omega)) h0) (k x hx)
theorem aq_gixr {α : Type} {xs : List α} {a : Option Addr} {m cap : Nat} {t : TypeId} {s ix : Operand} {kd : IntKind} {iv : Int} {E : Enc α} (i j : Nat) {g dg : Nat} {want c : Bool} (hi : ops[i]? = some { dst := some d, op := .indexAddr t s ix, type := ty, pos, after, guard := some (g, want) }) (hs : Region.noSelect ops = true) (hf : Region.free .any ops listed i = true) (hr : (Region.ready .any ops listed).contains i = true)
    (hm : (j, Hj) ∈ Ss) (hw : (Region.waitsFor .any ops j i || Nat.ble ops.size j) = true) (hn : (Ss.map (·.1)).contains i = false) (hg : gd ops.toList g = some dg) (hlk : look al dg = some (.bool c)) (hc : c = want) (hd : Nat.blt d N.n = true)
    (hl : Rd E B w0 a m cap xs) (h1 : ev al s = some (.slice a m cap)) (h2 : ev al ix = some (.int kd iv)) (hT : Slc P t E.size) (h0 : 0 ≤ iv ∧ iv < m) 
    (k : ∀ x, xs[iv.toNat]? = some x → AQ P N B w0 ops Q Ss n (listed.setIfInBounds i true) ((d, .pointer (a.map (·.add (iv.toNat * E.size)))) :: al) H) : AQ P N B w0 ops Q Ss (n + 1) listed al H := by
  obtain ⟨x, hx⟩ := hl.get (i := iv.toNat) (by omega)
  exact aq_g i j hi hs hf hr hm hw hn hg hlk hc hd (r_ix h1 h2 hT (hl.isSome (by omega)) h0) (k x hx)
theorem aq_ixo {α : Type} {a : Option Addr} {m cap : Nat} {t : TypeId} {s ix : Operand} {kd : IntKind} {iv : Int} {e : TypeId} {id size : Nat} (i j : Nat) (hi : ops[i]? = some { dst := some d, op := .indexAddr t s ix, type := ty, pos, after, guard := none }) (hs : Region.noSelect ops = true) (hf : Region.free .any ops listed i = true) (hr : (Region.ready .any ops listed).contains i = true)
    (hm : (j, Hj) ∈ Ss) (hw : (Region.waitsFor .any ops j i || Nat.ble ops.size j) = true) (hn : (Ss.map (·.1)).contains i = false) (hd : Nat.blt d N.n = true)
    (E : Enc α) (xs : List α) (h1 : ev al s = some (.slice a m cap)) (hH : look Hj id = some (.row a m cap (E.enc xs) e size)) (hz : size = E.size) (h2 : ev al ix = some (.int kd iv)) (hT : Slc P t E.size) (h0 : 0 ≤ iv ∧ iv < m) (hlen : xs.length = m) 
    (k : ∀ x, xs[iv.toNat]? = some x → AQ P N B w0 ops Q Ss n (listed.setIfInBounds i true) ((d, .pointer (a.map (·.add (iv.toNat * E.size)))) :: al) H) : AQ P N B w0 ops Q Ss (n + 1) listed al H := by
  exact aq_r i j hi hs hf hr hm hw hn hd (r_ixo E xs h1 hH hz h2 hT h0) (k (xs[iv.toNat]'(by omega)) (by simp))
theorem aq_gixo {α : Type} {a : Option Addr} {m cap : Nat} {t : TypeId} {s ix : Operand} {kd : IntKind} {iv : Int} {e : TypeId} {id size : Nat} (i j : Nat) {g dg : Nat} {want c : Bool} (hi : ops[i]? = some { dst := some d, op := .indexAddr t s ix, type := ty, pos, after, guard := some (g, want) }) (hs : Region.noSelect ops = true) (hf : Region.free .any ops listed i = true) (hr : (Region.ready .any ops listed).contains i = true)
    (hm : (j, Hj) ∈ Ss) (hw : (Region.waitsFor .any ops j i || Nat.ble ops.size j) = true) (hn : (Ss.map (·.1)).contains i = false) (hg : gd ops.toList g = some dg) (hlk : look al dg = some (.bool c)) (hc : c = want) (hd : Nat.blt d N.n = true)
    (E : Enc α) (xs : List α) (h1 : ev al s = some (.slice a m cap)) (hH : look Hj id = some (.row a m cap (E.enc xs) e size)) (hz : size = E.size) (h2 : ev al ix = some (.int kd iv)) (hT : Slc P t E.size) (h0 : 0 ≤ iv ∧ iv < m) (hlen : xs.length = m) 
    (k : ∀ x, xs[iv.toNat]? = some x → AQ P N B w0 ops Q Ss n (listed.setIfInBounds i true) ((d, .pointer (a.map (·.add (iv.toNat * E.size)))) :: al) H) : AQ P N B w0 ops Q Ss (n + 1) listed al H := by
  exact aq_g i j hi hs hf hr hm hw hn hg hlk hc hd (r_ixo E xs h1 hH hz h2 hT h0) (k (xs[iv.toNat]'(by omega)) (by simp))
theorem aq_u (i j : Nat) {g dg : Nat} {want : Bool} (hi : ops[i]? = some { dst := some d, op, type := ty, pos, after, guard := some (g, want) }) (hs : Region.noSelect ops = true) (hf : Region.free .any ops listed i = true) (hr : (Region.ready .any ops listed).contains i = true)
    (hm : (j, Hj) ∈ Ss) (hw : (Region.waitsFor .any ops j i || Nat.ble ops.size j) = true) (hn : (Ss.map (·.1)).contains i = false) (hg : gd ops.toList g = some dg) (hl : look al dg = some undef) (hd : Nat.blt d N.n = true)
    (k : AQ P N B w0 ops Q Ss n (listed.setIfInBounds i true) ((d, undef) :: al) H) : AQ P N B w0 ops Q Ss (n + 1) listed al H :=
  aq_take i j hi hs hf hr hm hw hn hd (fun a ha => .inr ⟨wanted_undef (o := { dst := some d, op, type := ty, pos, after, guard := some (g, want) }) ha rfl hg hl, rfl⟩) k
end
theorem aq_split {d : Nat} {c : Bool} (hl : look al d = some (.bool c)) (ht : c = true → AQ P N B w0 ops Q Ss n listed al H) (hf : c = false → AQ P N B w0 ops Q Ss n listed al H) : AQ P N B w0 ops Q Ss n listed al H := by
  cases hc : c
  · exact hf hc
  · exact ht hc
/-- One that stands alone, or one of several that may come up: it is carried out, and the stages are shown anew. -/
theorem aq_op {i : Nat} {o : Oper} (ho : ops[i]? = some o) (hsh : Shut ops (listed.setIfInBounds i true))
    (h : ∀ K, (∀ al' H', Holds (listed.setIfInBounds i true) H' Ss → AQ P N B w0 ops Q Ss n (listed.setIfInBounds i true) al' H' → KP N B w0 K al' H') → OL P N B w0 ops.toList [o] (Exit.then K (NoPanic Q)) al H) (a : Act) (w : World) (hst : St N B w0 al H a w) :
    wpOp P ops (NoPanic Q) i (fun a' w' => Stg N B w0 Ss (listed.setIfInBounds i true) w' ∧ AnyS P ops (NoPanic Q) N B w0 Ss n (listed.setIfInBounds i true) a' w') a w := by
  have h1 := h (fun a' w' => Stg N B w0 Ss (listed.setIfInBounds i true) w' ∧ AnyS P ops (NoPanic Q) N B w0 Ss n (listed.setIfInBounds i true) a' w')
    (fun al' H' hh hk a' w' hst' => ⟨Holds.stg hst' hh, hk hsh a' w' hst' (Holds.stg hst' hh)⟩) a w hst
  unfold wpOp
  rw [ho]
  simp only [Array.toArray_toList] at h1
  unfold wpList at h1
  dsimp only at h1 ⊢
  split
  · rename_i hw
    rw [if_pos hw] at h1
    rcases h1 with h1 | ⟨h1, h2⟩
    · refine .inl ?_
      have h2 := Oper.wp_mono (Q := Exit.then _ (NoPanic Q)) (fun a w (h : wpList P ops (Exit.then _ (NoPanic Q)) [] a w) => (h : Exit.then _ (NoPanic Q) .normal a w)) h1
      unfold Oper.wp at h2 ⊢
      generalize (execOp a.eval o).run P w = r at *
      cases r with
      | ok n w' => cases n <;> exact h2
      | halt x w' => cases x <;> exact h2
    · exact .inr ⟨h1, h2⟩
  · rename_i hw
    rw [if_neg hw] at h1
    exact h1
abbrev Next (P : Program) (N : Fr) (B : Nat) (w0 : World) (ops : Array Oper) (Q : Exit → Act → World → Prop) (Ss : List (Nat × HL)) (n : Nat) (listed : Array Bool) (al : AL) (H : HL) (i : Nat) (o : Oper) : Prop :=
  ∀ K, (∀ al' H', Holds (listed.setIfInBounds i true) H' Ss → AQ P N B w0 ops Q Ss n (listed.setIfInBounds i true) al' H' → KP N B w0 K al' H') → OL P N B w0 ops.toList [o] (Exit.then K (NoPanic Q)) al H
theorem aq_one {i : Nat} {o : Oper} (hr : Region.ready .any ops listed = [i]) (ho : ops[i]? = some o) (h : Next P N B w0 ops Q Ss n listed al H i o) : AQ P N B w0 ops Q Ss (n + 1) listed al H := by
  intro hsh a w hst hS
  refine ⟨fun h0 => (by rw [hr] at h0; cases h0), fun j hj => ?_⟩
  have hj' := hj
  rw [hr] at hj'
  have : j = i := by simpa using hj'
  subst this
  exact aq_op ho (hsh.set hj) h a w hst
theorem aq_two {i j : Nat} {o o' : Oper} (hr : Region.ready .any ops listed = [i, j]) (ho : ops[i]? = some o) (ho' : ops[j]? = some o')
    (h : Next P N B w0 ops Q Ss n listed al H i o) (h' : Next P N B w0 ops Q Ss n listed al H j o') : AQ P N B w0 ops Q Ss (n + 1) listed al H := by
  intro hsh a w hst hS
  refine ⟨fun h0 => (by rw [hr] at h0; cases h0), fun k hk => ?_⟩
  have hk' := hk
  rw [hr] at hk'
  rcases (by simpa using hk' : k = i ∨ k = j) with rfl | rfl
  · exact aq_op ho (hsh.set hk) h a w hst
  · exact aq_op ho' (hsh.set hk) h' a w hst
end

/-! #### what a call leaves -/
theorem Ent.ok_mono {B C : Nat} {w : World} {e : Ent} (h : e.ok C w) (hBC : B ≤ C) : e.ok B w := by
  cases e with
  | blk b cl T => exact ⟨Nat.le_trans hBC h.1, h.2⟩
  | row a n cap xs e size => exact ownsRow_mono h hBC
  | mp b es => exact ⟨Nat.le_trans hBC h.1, h.2⟩
  | gone => trivial
/-- New blocks of a call, beside those that were. -/
theorem Sat.more {B : Nat} {w w' : World} {H H' : HL} (hs : Sat B w H) (hB : B ≤ w.heap.size) (hb : ∀ k, k < w.heap.size → w'.heap[k]? = w.heap[k]?) (h' : Sat w.heap.size w' H') : Sat B w' (H' ++ H) := by
  have hl : ∀ i, look (H' ++ H) i = (match look H' i with | some v => some v | none => look H i) := fun i => by rw [look_append]; cases look H' i <;> rfl
  refine ⟨fun i e he => ?_, fun i j e f hij hi hj b hbe hbf => ?_⟩
  · rw [hl] at he
    cases h1 : look H' i with
    | some v => rw [h1] at he; cases he; exact Ent.ok_mono (h'.ok i e h1) hB
    | none => rw [h1] at he; exact Ent.ok_same (hs.ok i e he) fun b hbb => hb b (Ent.own_lt (hs.ok i e he) hbb).2
  · rw [hl] at hi hj
    cases h1 : look H' i with
    | some v =>
      rw [h1] at hi; cases hi
      have b1 := (Ent.own_lt (h'.ok i e h1) hbe).1
      cases h2 : look H' j with
      | some u => rw [h2] at hj; cases hj; exact h'.apart i j e f hij h1 h2 b hbe hbf
      | none => rw [h2] at hj; have := (Ent.own_lt (hs.ok j f hj) hbf).2; omega
    | none =>
      rw [h1] at hi
      have b1 := (Ent.own_lt (hs.ok i e hi) hbe).2
      cases h2 : look H' j with
      | some u => rw [h2] at hj; cases hj; have := (Ent.own_lt (h'.ok j f h2) hbf).1; omega
      | none => rw [h2] at hj; exact hs.apart i j e f hij hi hj b hbe hbf
/-- One entry, two entries, under other numbers. -/
theorem Sat.one {B : Nat} {w : World} {H : HL} (h : Sat B w H) (i k : Nat) {e f : Ent} (hi : look H i = some f) (he : e.le f) : Sat B w [(k, e)] := by
  refine ⟨fun j g hj => ?_, fun j l g g' hjl hj hl => ?_⟩
  · by_cases hk : k = j
    · subst hk; rw [look_cons_eq] at hj; cases hj; exact Ent.le.ok he (h.ok i f hi)
    · rw [look_cons_ne _ _ hk] at hj; simp [look] at hj
  · by_cases hk : k = j
    · subst hk; rw [look_cons_ne _ _ hjl] at hl; simp [look] at hl
    · rw [look_cons_ne _ _ hk] at hj; simp [look] at hj
theorem Sat.two {B : Nat} {w : World} {H : HL} (h : Sat B w H) (i j k l : Nat) {e f e' f' : Ent} (hij : i ≠ j) (hi : look H i = some f) (hj : look H j = some f') (he : e.le f) (he' : e'.le f') : Sat B w [(k, e), (l, e')] :=
  (h.one j l hj he').set2 k (Ent.le.ok he (h.ok i f hi)) (fun _ _ _ _ _ _ => rfl) (fun m g hm hg b hb hgb => by
    by_cases hl : l = m
    · subst hl; rw [look_cons_eq] at hg; cases hg
      exact h.apart i j f f' hij hi hj b (Ent.le.own he hb) (Ent.le.own he' hgb)
    · rw [look_cons_ne _ _ hl] at hg; simp [look] at hg)
theorem Sat.three {B : Nat} {w : World} {H : HL} (h : Sat B w H) (i j m k l p : Nat) {e f e' f' g g' : Ent} (hij : i ≠ j) (him : i ≠ m) (hjm : j ≠ m) (hi : look H i = some f) (hj : look H j = some f') (hm : look H m = some g') (he : e.le f) (he' : e'.le f') (hg : g.le g') : Sat B w [(k, e), (l, e'), (p, g)] :=
  (h.two j m l p hjm hj hm he' hg).set2 k (Ent.le.ok he (h.ok i f hi)) (fun _ _ _ _ _ _ => rfl) (fun q g0 hq hg0 b hb hgb => by
    by_cases hl : l = q
    · subst hl; rw [look_cons_eq] at hg0; cases hg0
      exact h.apart i j f f' hij hi hj b (Ent.le.own he hb) (Ent.le.own he' hgb)
    · rw [look_cons_ne _ _ hl] at hg0
      by_cases hp : p = q
      · subst hp; rw [look_cons_eq] at hg0; cases hg0
        exact h.apart i m f g' him hi hm b (Ent.le.own he hb) (Ent.le.own hg hgb)
      · rw [look_cons_ne _ _ hp] at hg0; simp [look] at hg0)
section
variable {P : Program} {N : Fr} {B : Nat} {w0 : World} {Q : Exit → Act → World → Prop} {al : AL} {H H' : HL} {ops rest : List Oper}
/-- A call that leaves new blocks of its own. -/
theorem After.more {e : Ending} {w w' : World} {v : Value} {d : Nat} (he : e = .returned v) (hw : Below B w0 w) (hs : Sat B w H) (hb : B ≤ w.heap.size) (hbl : Below w.heap.size w w') (h' : Sat w.heap.size w' H')
    (k : OL P N B w0 ops rest Q ((d, v) :: al) (H' ++ H)) : After P N B w0 w ops rest Q al (some d) e w' :=
  ⟨v, _, he, hw.trans (hbl.mono hb), hs.more hb (fun k hk => hbl.block k hk) h', Nat.le_trans hb hbl.size, Kd.of_below hbl, k⟩
/-- A call that works in the caller's blocks: all that is known behind it is H'. -/
theorem After.sat {e : Ending} {w w' : World} {v : Value} {d : Nat} (he : e = .returned v) (hw : Below B w0 w) (hbl : Below B w w') (h' : Sat B w' H') (hB : B ≤ w'.heap.size) (hkd : Kd N.c w w')
    (k : OL P N B w0 ops rest Q ((d, v) :: al) H') : After P N B w0 w ops rest Q al (some d) e w' :=
  ⟨v, _, he, hw.trans hbl, h', hB, hkd, k⟩
end

/-! #### a part of a slice that is only read -/
section
variable {P : Program} {N : Fr} {B : Nat} {w0 : World} {Q : Exit → Act → World → Prop} {al : AL} {H : HL} {ops rest tail : List Oper} {d : Nat} {ty : TypeId} {pos : String} {after : Array Edge} {α : Type} {E : Enc α} {a : Option Addr} {n cap : Nat} {xs : List α}
/-- A bound, or none. -/
def evo (al : AL) : Option Operand → Option (Option Int)
  | none => some none
  | some x => match ev al x with | some (.int .i64 i) => some (some i) | _ => none
theorem evo_eval {a : Act} (h : Regs N al a) {x : Option Operand} {i : Option Int} (hx : evo al x = some i) : x.map a.eval = i.map (Value.int .i64) := by
  cases x with
  | none => simp [evo] at hx; subst hx; rfl
  | some o =>
    unfold evo at hx
    dsimp only at hx
    split at hx
    · rename_i j hj; cases hx; simp [h.eval hj]
    · cases hx
theorem r_sl {s : Operand} {lo hi : Option Operand} {l h : Option Int} {t : TypeId} {size : Nat} (hs : ev al s = some (.slice a n cap)) (hlo : evo al lo = some l) (hhi : evo al hi = some h) (hT : Slc P t size)
    (h0 : 0 ≤ l.getD 0 ∧ l.getD 0 ≤ h.getD n ∧ h.getD n ≤ cap) (hc : n ≤ cap) : Runs P N B w0 (.slice t s lo hi none) ty al H (sliced a (l.getD 0).toNat (h.getD n).toNat cap size) := fun x w hst => by
  obtain ⟨e, hu, hz⟩ := hT
  have hu' : P.underlying t = some (.slice (P.elem t)) := by rw [hu, show P.elem t = e by simp [Program.elem, hu]]
  have hz' : (sizeOf (P.elem t)).run P w = .ok size w := by rw [show P.elem t = e by simp [Program.elem, hu]]; exact run_sizeOf hz w
  have e1 := evo_eval hst.regs hlo
  have e2 := evo_eval hst.regs hhi
  simp only [execOp, hst.regs.eval hs, e1, e2, Option.map_none, Sem.run_bind, run_sliceAt_slice w t _ _ _ _ hu']
  have h1 := run_slice_any w t a n cap hu' (l.map (Value.int .i64)) (h.map (Value.int .i64)) none
  rw [h1]
  have hb : (Instr.sliceBounds true n cap (l.map (Value.int .i64)) (h.map (Value.int .i64)) none).run P w = .ok ((l.getD 0).toNat, (h.getD n).toNat, cap) w := by
    cases l <;> cases h <;> simp [Instr.sliceBounds, run_sliceBound_if] at h0 ⊢ <;> (try simp [h0]) <;> (try omega) <;> (try (rw [if_pos (by omega), if_pos (by omega)]))
  rw [hb]
  simp [hz', Result.andThen]
theorem Rd.part {C : Nat} {w : World} {l h : Nat} (hl : Rd E C w a n cap xs) (h1 : l ≤ h) (h2 : h ≤ n) : ∃ a' c', sliced a l h cap E.size = .slice a' (h - l) c' ∧ Rd E C w a' (h - l) c' ((xs.drop l).take (h - l)) := by
  have hlen := hl.len
  have hroom := hl.room
  refine ⟨_, _, rfl, by simp; omega, by omega, ⟨by omega, by omega⟩, fun i x hx => ?_⟩
  have hi : i < h - l := by
    have := (List.getElem?_eq_some_iff.1 hx).1
    simp at this; omega
  rw [List.getElem?_take, if_pos hi, List.getElem?_drop] at hx
  obtain ⟨b, off, rfl, hb, hc⟩ := hl.cell (l + i) x hx
  rw [if_neg (by omega)]
  refine ⟨b, off + l * E.size, by simp [add_none], hb, fun j u hu => ?_⟩
  have := hc j u hu
  rw [show off + l * E.size + i * E.size + j = off + (l + i) * E.size + j by rw [Nat.add_mul]; omega]
  exact this
theorem ol_slr {s : Operand} {lo hi : Option Operand} {l h : Option Int} {t : TypeId} (hl : Rd E B w0 a n cap xs) (hs : ev al s = some (.slice a n cap)) (hlo : evo al lo = some l) (hhi : evo al hi = some h) (hT : Slc P t E.size)
    (h0 : 0 ≤ l.getD 0 ∧ l.getD 0 ≤ h.getD n ∧ h.getD n ≤ n) (hd : Nat.blt d N.n = true)
    (k : ∀ a' c', Rd E B w0 a' ((h.getD n).toNat - (l.getD 0).toNat) c' ((xs.drop (l.getD 0).toNat).take ((h.getD n).toNat - (l.getD 0).toNat)) → OL P N B w0 ops rest Q ((d, .slice a' ((h.getD n).toNat - (l.getD 0).toNat) c') :: al) H) :
    OL P N B w0 ops ({ dst := some d, op := .slice t s lo hi none, type := ty, pos, after, guard := none } :: rest) Q al H := by
  obtain ⟨a', c', h1, h2⟩ := hl.part (l := (l.getD 0).toNat) (h := (h.getD n).toNat) (by omega) (by omega)
  have hr := r_sl (P := P) (N := N) (B := B) (w0 := w0) (H := H) (ty := ty) (lo := lo) (hi := hi) hs hlo hhi hT ⟨h0.1, h0.2.1, by have := hl.room; omega⟩ hl.room.1
  rw [h1] at hr
  exact ol_r hr hd (k a' c' h2)
theorem ql_slr {Qa : Act → Prop} {s : Operand} {lo hi : Option Operand} {l h : Option Int} {t : TypeId} (hl : Rd E B w0 a n cap xs) (hs : ev al s = some (.slice a n cap)) (hlo : evo al lo = some l) (hhi : evo al hi = some h) (hT : Slc P t E.size)
    (h0 : 0 ≤ l.getD 0 ∧ l.getD 0 ≤ h.getD n ∧ h.getD n ≤ n) (hd : Nat.blt d N.n = true)
    (k : ∀ a' c', Rd E B w0 a' ((h.getD n).toNat - (l.getD 0).toNat) c' ((xs.drop (l.getD 0).toNat).take ((h.getD n).toNat - (l.getD 0).toNat)) → QL P N B w0 ops rest Qa ((d, .slice a' ((h.getD n).toNat - (l.getD 0).toNat) c') :: al) H) :
    QL P N B w0 ops ({ dst := some d, op := .slice t s lo hi none, type := ty, pos, after, guard := none } :: rest) Qa al H := by
  obtain ⟨a', c', h1, h2⟩ := hl.part (l := (l.getD 0).toNat) (h := (h.getD n).toNat) (by omega) (by omega)
  have hr := r_sl (P := P) (N := N) (B := B) (w0 := w0) (H := H) (ty := ty) (lo := lo) (hi := hi) hs hlo hhi hT ⟨h0.1, h0.2.1, by have := hl.room; omega⟩ hl.room.1
  rw [h1] at hr
  exact ql_r hr hd (k a' c' h2)
end

/-! #### make -/
theorem cells_rep (us : List Value) (hs : 0 < us.length) : ∀ l : Nat, (List.range (l * us.length)).map (fun j => us.toArray[j % us.toArray.size]!) = (List.replicate l us).flatten
  | 0 => by simp
  | l + 1 => by
    have ih := cells_rep us hs l
    rw [Nat.succ_mul, List.range_add, List.map_append, ih, List.replicate_succ', List.flatten_append, List.map_map]
    congr 1
    simp only [List.flatten_cons, List.flatten_nil, List.append_nil]
    apply List.ext_getElem
    · simp
    · intro i h1 h2
      simp at h1
      simp [Nat.mul_add_mod_of_lt, Nat.mod_eq_of_lt h1, h1]
theorem ol_make {P : Program} {N : Fr} {B : Nat} {w0 : World} {Q : Exit → Act → World → Prop} {al : AL} {H : HL} {ops rest : List Oper} {d : Nat} {ty : TypeId} {pos : String} {after : Array Edge} {α : Type} (E : Enc α) (x0 : α) (id : Nat)
    {x y : Operand} {k1 k2 : IntKind} {l c : Int} {t e : TypeId} {size bytes : Nat} {us : List Value} (hl : ev al x = some (.int k1 l)) (hc : ev al y = some (.int k2 c)) (hT : RowT P t e size bytes) (hz : ZeroOf P e us) (hE : us = E.cells x0) (hs : size = E.size)
    (hb : 0 ≤ l ∧ l ≤ c ∧ (bytes : Int) * c ≤ 140737488355328 ∧ c ≤ 281474976710656) (hd : Nat.blt d N.n = true)
    (k : ∀ a', OL P N B w0 ops rest Q ((d, .slice a' l.toNat c.toNat) :: al) ((id, .row a' l.toNat c.toNat (E.enc (List.replicate l.toNat x0)) e size) :: H)) :
    OL P N B w0 ops ({ dst := some d, op := .makeSlice t x y, type := ty, pos, after, guard := none } :: rest) Q al H := by
  intro a w hst
  refine wpList_plain rfl fun K hK => ?_
  obtain ⟨hu, i, z, hi, hzz, hsz, hby, hzs, hpos⟩ := hT
  obtain ⟨z', hz', hcells⟩ := hz
  rw [hi] at hz'
  have hzz' : some z = some z' := by rw [← hzz]; exact hz'
  cases hzz'
  subst hE
  subst hs
  have hlen := E.len x0
  have hrun0 := run_make (P := P) w t e i z hu hi hzz k1 k2 l c hb.1 hb.2.1 (by rw [hby]; omega) (by omega)
  have hrun : (execOp a.eval { dst := some d, op := .makeSlice t x y, type := ty, pos, after, guard := none }).run P w = .ok (.value (.slice (some ⟨w.heap.size, 0, none⟩) l.toNat c.toNat)) (w.alloc (.cells (madeCells z.cells (c.toNat * i.size)) e)) := by
    simp only [execOp, hst.regs.eval hl, hst.regs.eval hc, Sem.run_bind, hrun0, Result.andThen_ok, Sem.run_pure]
  unfold Oper.wp
  rw [hrun, Oper.upon_value]
  refine hK _ _ (k _ _ _ (hst.step (hst.regs.put (by simpa using hd) _) (hst.below.alloc hst.base _) ?_ (by have := hst.base; simp; omega) (Kd.alloc w _)))
  refine hst.sat.new id (e := .row (some ⟨w.heap.size, 0, none⟩) l.toNat c.toNat (E.enc (List.replicate l.toNat x0)) e E.size) ?_ (fun k hk => Below.heap_alloc w _ k hk) (fun b hb => by simp [Ent.own] at hb; omega)
  have hmade : ∀ m : Nat, (madeCells z.cells (m * E.size)).toList = E.enc (List.replicate m x0) := by
    intro m
    have := cells_rep (E.cells x0) (by rw [hlen]; exact E.pos) m
    rw [hlen] at this
    unfold madeCells Enc.enc
    rw [hcells]
    simpa [List.flatMap, List.map_replicate] using this
  have hle : l.toNat ≤ c.toNat := by omega
  refine ⟨by rw [E.enc_len]; simp, .inr ⟨w.heap.size, c.toNat, madeCells z.cells (c.toNat * i.size), rfl, hst.base, heap_alloc_new w _, hle, by unfold maxLen; omega, by rw [hsz]; simp [madeCells], ?_⟩⟩
  rw [hsz, hmade]
  have : c.toNat = l.toNat + (c.toNat - l.toNat) := by omega
  rw [this, ← List.replicate_append_replicate, Enc.enc_append, List.take_left' (by rw [E.enc_len]; simp)]
end Go.Proofs.Ytogcclagmobkiaa.Hx
