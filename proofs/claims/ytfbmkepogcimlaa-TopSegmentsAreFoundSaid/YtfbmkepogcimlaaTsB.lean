/-
  More rules of the logic: regions that draw their order, of whatever shape: an operation that yields the same in every world that keeps H0 is taken first; one that stands alone is carried out.
-/
import Derived.OrdersHeld
import Derived.StillTail
import Derived.Deep.RegionHeld3
import Derived.RangeFuncNested
import Derived.OrdersIn
import Derived.TacticsIn
import Derived.Laws.Strings
import Derived.Laws.Cover1
import Derived.Test.YtfbmkepogcimlaaTsA




namespace Go.Proofs.Ytfbmkepogcimlaa.Hx
open Go Go.RowKit
set_option linter.unusedVariables false
set_option linter.unusedSimpArgs false
set_option linter.unusedSectionVars false
section
variable {P : Program} {N : Fr} {B : Nat} {w0 : World} {Q : Exit → Act → World → Prop} {al : AL} {H : HL} {ops : Array Oper} {n : Nat} {listed : Array Bool} {Ss : List (Nat × HL)}
/-- As long as operation j has not come up, the entries of its stage hold. -/
def Stg (N : Fr) (B : Nat) (w0 : World) (Ss : List (Nat × HL)) (listed : Array Bool) (w : World) : Prop := ∀ p ∈ Ss, listed.getD p.1 false = false → Cl N B w0 p.2 w
/-- What has come up is closed under what it waits for. -/
def Shut (ops : Array Oper) (listed : Array Bool) : Prop := listed.size = ops.size ∧ ∀ j oj, ops[j]? = some oj → listed.getD j false = true → ∀ e ∈ oj.after, Region.binds .any e = true → listed.getD e.on false = true
theorem Shut.start (ops : Array Oper) : Shut ops (Array.replicate ops.size false) := ⟨by simp, fun j oj _ hl => by rw [getD_replicate_false] at hl; cases hl⟩
theorem Shut.set {i : Nat} (h : Shut ops listed) (hi : i ∈ Region.ready .any ops listed) : Shut ops (listed.setIfInBounds i true) := by
  obtain ⟨_, oi, hoi, hall⟩ := mem_ready.1 hi
  refine ⟨by simp [h.1], ?_⟩
  intro j oj hj hl e he hb
  by_cases hij : i = j
  · subst hij
    have : oj = oi := Option.some.inj (hj.symm.trans hoi)
    subst this
    exact getD_set_true (hall e he hb)
  · rw [getD_set_ne false hij] at hl
    exact getD_set_true (h.2 j oj hj hl e he hb)
theorem Stg.set {i : Nat} {w : World} (h : Stg N B w0 Ss listed w) : Stg N B w0 Ss (listed.setIfInBounds i true) w := fun p hp hl => by
  by_cases hi : i = p.1
  · subst hi
    cases h1 : listed.getD p.1 false with
    | true => have := getD_set_true (i := p.1) h1; rw [this] at hl; cases hl
    | false => exact h p hp h1
  · rw [getD_set_ne false hi] at hl; exact h p hp hl
theorem Stg.unset {i : Nat} {w : World} (h : Stg N B w0 Ss (listed.setIfInBounds i true) w) (hn : ∀ p ∈ Ss, p.1 ≠ i) : Stg N B w0 Ss listed w := fun p hp hl =>
  h p hp (by rw [getD_set_ne false (Ne.symm (hn p hp))]; exact hl)
/-- Whatever order is picked from here on; the stages hold behind every operation. -/
def AnyS (P : Program) (ops : Array Oper) (Q : Exit → Act → World → Prop) (N : Fr) (B : Nat) (w0 : World) (Ss : List (Nat × HL)) : Nat → Array Bool → Act → World → Prop
  | 0, listed, a, w => Region.ready .any ops listed = [] ∧ Q .normal a w
  | f + 1, listed, a, w => (Region.ready .any ops listed = [] → Q .normal a w) ∧
    ∀ i ∈ Region.ready .any ops listed, wpOp P ops Q i (fun a' w' => Stg N B w0 Ss (listed.setIfInBounds i true) w' ∧ AnyS P ops Q N B w0 Ss f (listed.setIfInBounds i true) a' w') a w
theorem AnyS.any {Q : Exit → Act → World → Prop} : ∀ (f : Nat) (listed : Array Bool) (a : Act) (w : World), AnyS P ops Q N B w0 Ss f listed a w → wpAny P .any ops Q f listed a w
  | 0, _, _, _, h => h
  | f + 1, _, _, _, h => ⟨h.1, fun i hi => wpOp_mono (fun a' w' h' => AnyS.any f _ a' w' h'.2) (h.2 i hi)⟩
/-- A world that may be there while i has not come up. -/
def While (ops : Array Oper) (N : Fr) (B : Nat) (w0 : World) (Ss : List (Nat × HL)) (i : Nat) (w : World) : Prop := ∃ listed, Shut ops listed ∧ listed.getD i true = false ∧ Stg N B w0 Ss listed w
theorem AnyS.first {Q : Exit → Act → World → Prop} {i : Nat} {oi : Oper} {v : Value} (hi : ops[i]? = some oi) (hsel : ∀ (j : Nat) (o : Oper) cs b, ops[j]? = some o → o.op ≠ .select cs b)
    (hQ : ∀ c a w, Q (.panic c) (a.put oi.dst v) w → Q (.panic c) a w) (hn : ∀ p ∈ Ss, p.1 ≠ i) :
    ∀ (f : Nat) (listed : Array Bool) (a : Act) (w : World),
      (∀ j oj, ops[j]? = some oj → j ≠ i → listed.getD j true = false → (∀ e ∈ oj.after, Region.binds .any e = true → e.on ≠ i) → oi.apart ops oj = true) →
      i ∈ Region.ready .any ops listed → Shut ops listed → YieldsIf P ops (While ops N B w0 Ss i) oi v a → Stg N B w0 Ss listed w →
      AnyS P ops Q N B w0 Ss f (listed.setIfInBounds i true) (a.put oi.dst v) w → AnyS P ops Q N B w0 Ss (f + 1) listed a w := by
  intro f
  induction f with
  | zero =>
    intro listed a w _ hr hsh hy hS h
    refine ⟨fun h0 => (by rw [h0] at hr; cases hr), fun j hj => ?_⟩
    by_cases hji : j = i
    · subst hji; exact hy.wpOp hi ⟨listed, hsh, (mem_ready.1 hr).1, hS⟩ ⟨hS.set, h⟩
    · have := ready_mono hj hji
      rw [h.1] at this
      cases this
  | succ f ih =>
    intro listed a w hfree hr hsh hy hS h
    refine ⟨fun h0 => (by rw [h0] at hr; cases hr), fun j hj => ?_⟩
    by_cases hji : j = i
    · subst hji; exact hy.wpOp hi ⟨listed, hsh, (mem_ready.1 hr).1, hS⟩ ⟨hS.set, h⟩
    · obtain ⟨hjun, oj, hoj, hall⟩ := mem_ready.1 hj
      have hiun := (mem_ready.1 hr).1
      have hnot : ∀ e ∈ oj.after, Region.binds .any e = true → e.on ≠ i := fun e he hb heq => by
        have h1 := hall e he hb
        rw [heq, getD_both hiun] at h1
        cases h1
      have h2 := wpOp_putIf hoj (hfree j oj hoj hji hjun hnot) (fun cs b => hsel i oi cs b hi) (fun cs b => hsel j oj cs b hoj) hQ hy (h.2 j (ready_mono hj hji))
      have hfree' : ∀ k ok, ops[k]? = some ok → k ≠ i → (listed.setIfInBounds j true).getD k true = false → (∀ e ∈ ok.after, Region.binds .any e = true → e.on ≠ i) → oi.apart ops ok = true := fun k ok hk hki hun hno => by
        by_cases hjk : j = k
        · subst hjk; exact hfree j ok hk hki hjun hno
        · rw [getD_set_ne true hjk] at hun; exact hfree k ok hk hki hun hno
      refine wpOp_mono (fun a' w' h3 => ?_) h2
      obtain ⟨h4, h5, h6⟩ := h3
      rw [Array.setIfInBounds_comm _ _ (Ne.symm hji)] at h5 h6
      have h7 := Stg.unset h5 hn
      exact ⟨h7, ih (listed.setIfInBounds j true) a' w' hfree' (ready_mono hr (Ne.symm hji)) (hsh.set hj) h4 h7 h6⟩
def AQ (P : Program) (N : Fr) (B : Nat) (w0 : World) (ops : Array Oper) (Q : Exit → Act → World → Prop) (Ss : List (Nat × HL)) (n : Nat) (listed : Array Bool) (al : AL) (H : HL) : Prop :=
  Shut ops listed → ∀ a w, St N B w0 al H a w → Stg N B w0 Ss listed w → AnyS P ops (NoPanic Q) N B w0 Ss n listed a w
/-- The stages that have not come up hold in H. -/
def Holds (listed : Array Bool) (H : HL) : List (Nat × HL) → Prop
  | [] => True
  | p :: r => (listed.getD p.1 false = true ∨ SubH p.2 H) ∧ Holds listed H r
theorem Holds.stg {a : Act} {w : World} (hst : St N B w0 al H a w) : ∀ {Ss : List (Nat × HL)}, Holds listed H Ss → Stg N B w0 Ss listed w
  | [], _ => fun p hp => by cases hp
  | q :: r, h => fun p hp hl => by
    rcases List.mem_cons.1 hp with rfl | hp
    · rcases h.1 with h1 | h1
      · rw [h1] at hl; cases hl
      · exact ⟨hst.below, hst.sat.sub h1, hst.base, hst.kd, hst.marks⟩
    · exact Holds.stg hst h.2 p hp hl
theorem wp_rega {id : Nat} {ops : Array Oper} (Ss : List (Nat × HL)) (hm : P.follows .mixedOrders = true) (hh : Holds (Array.replicate ops.size false) H Ss) (h : AQ P N B w0 ops Q Ss ops.size (Array.replicate ops.size false) al H) :
    WP P N B w0 (.region id ops true) Q al H := by
  intro a w hst
  exact d_any hm (wpAny_q NoPanic.imp _ _ _ _ (AnyS.any _ _ _ _ (h (Shut.start _) a _ hst.drew (Holds.stg hst.drew hh))))
theorem aq_done (hr : Region.ready .any ops listed = []) (h : QP N B w0 Q .normal al H) : AQ P N B w0 ops Q Ss n listed al H :=
  fun _ a w hst _ => by
    cases n with
    | zero => exact ⟨hr, h a w hst⟩
    | succ n => exact ⟨fun _ => h a w hst, by rw [hr]; simp⟩
/-- In every world that may be there while i has not come up, the stage j holds. -/
theorem While.cl {i j : Nat} {Hj : HL} {w : World} (h : While ops N B w0 Ss i w) (hm : (j, Hj) ∈ Ss) (hw : (Region.waitsFor .any ops j i || Nat.ble ops.size j) = true) : Cl N B w0 Hj w := by
  obtain ⟨l, h1, h2, h3⟩ := h
  refine h3 _ hm ?_
  rw [Bool.or_eq_true] at hw
  rcases hw with hw | hw
  · obtain ⟨oj, hj, e, he, hb, hon⟩ := Region.waitsFor_spec hw
    cases hl : l.getD j false with
    | false => rfl
    | true =>
      have := h1.2 j oj hj hl e he hb
      rw [hon, getD_both h2] at this
      cases this
  · have := Nat.le_of_ble_eq_true hw
    have h4 := h1.1
    rw [Array.getD_eq_getD_getElem?, Array.getElem?_eq_none (by omega)]; rfl
section
variable {d : Nat} {op : Op} {ty : TypeId} {pos : String} {after : Array Edge} {v : Value} {Hj : HL}
theorem aq_take (i j : Nat) {guard : Option (Nat × Bool)} (hi : ops[i]? = some { dst := some d, op, type := ty, pos, after, guard }) (hs : Region.noSelect ops = true) (hf : Region.free .any ops listed i = true) (hr : (Region.ready .any ops listed).contains i = true)
    (hm : (j, Hj) ∈ Ss) (hw : (Region.waitsFor .any ops j i || Nat.ble ops.size j) = true) (hn : (Ss.map (·.1)).contains i = false) (hd : Nat.blt d N.n = true)
    (hy : ∀ a, Regs N al a → YieldsIf P ops (Cl N B w0 Hj) { dst := some d, op, type := ty, pos, after, guard } v a) (k : AQ P N B w0 ops Q Ss n (listed.setIfInBounds i true) ((d, v) :: al) H) : AQ P N B w0 ops Q Ss (n + 1) listed al H := by
  intro hsh a w hst hS
  have hir : i ∈ Region.ready .any ops listed := by simpa using hr
  refine AnyS.first hi (Region.noSelect_spec hs) (fun c a w h => h) (fun p hp hpi => ?_) n listed a w (Region.free_spec hi hf) hir hsh ?_ hS (k (hsh.set hir) _ _ (hst.put (by simpa using hd) v) hS.set)
  · have : (Ss.map (·.1)).contains i = true := by simp; exact ⟨p.2, by rw [← hpi]; exact hp⟩
    rw [this] at hn; cases hn
  · rcases hy a hst.regs with ⟨h1, h2⟩ | h1
    · exact .inl ⟨h1, fun w1 hw1 => h2 w1 (hw1.cl hm hw)⟩
    · exact .inr h1
theorem aq_r (i j : Nat) (hi : ops[i]? = some { dst := some d, op, type := ty, pos, after, guard := none }) (hs : Region.noSelect ops = true) (hf : Region.free .any ops listed i = true) (hr : (Region.ready .any ops listed).contains i = true)
    (hm : (j, Hj) ∈ Ss) (hw : (Region.waitsFor .any ops j i || Nat.ble ops.size j) = true) (hn : (Ss.map (·.1)).contains i = false) (hd : Nat.blt d N.n = true)
    (hrun : Runs P N B w0 op ty al Hj v) (k : AQ P N B w0 ops Q Ss n (listed.setIfInBounds i true) ((d, v) :: al) H) : AQ P N B w0 ops Q Ss (n + 1) listed al H :=
  aq_take i j hi hs hf hr hm hw hn hd (fun a ha => .inl ⟨rfl, fun w1 h1 => hrun a w1 (h1.st ha)⟩) k
theorem aq_g (i j : Nat) {g dg : Nat} {want c : Bool} (hi : ops[i]? = some { dst := some d, op, type := ty, pos, after, guard := some (g, want) }) (hs : Region.noSelect ops = true) (hf : Region.free .any ops listed i = true) (hr : (Region.ready .any ops listed).contains i = true)
    (hm : (j, Hj) ∈ Ss) (hw : (Region.waitsFor .any ops j i || Nat.ble ops.size j) = true) (hn : (Ss.map (·.1)).contains i = false) (hg : gd ops.toList g = some dg) (hl : look al dg = some (.bool c)) (hc : c = want) (hd : Nat.blt d N.n = true)
    (hrun : Runs P N B w0 op ty al Hj v) (k : AQ P N B w0 ops Q Ss n (listed.setIfInBounds i true) ((d, v) :: al) H) : AQ P N B w0 ops Q Ss (n + 1) listed al H :=
  aq_take i j hi hs hf hr hm hw hn hd (fun a ha => by
    have hw := wanted_of (o := { dst := some d, op, type := ty, pos, after, guard := some (g, want) }) ha rfl hg hl
    simp only [hc, beq_self_eq_true] at hw
    exact .inl ⟨by simpa using hw, fun w1 h1 => hrun a w1 (h1.st ha)⟩) k
theorem aq_s (i j : Nat) {g dg : Nat} {want c : Bool} (hi : ops[i]? = some { dst := some d, op, type := ty, pos, after, guard := some (g, want) }) (hs : Region.noSelect ops = true) (hf : Region.free .any ops listed i = true) (hr : (Region.ready .any ops listed).contains i = true)
    (hm : (j, Hj) ∈ Ss) (hw : (Region.waitsFor .any ops j i || Nat.ble ops.size j) = true) (hn : (Ss.map (·.1)).contains i = false) (hg : gd ops.toList g = some dg) (hl : look al dg = some (.bool c)) (hc : c = !want) (hd : Nat.blt d N.n = true)
    (k : AQ P N B w0 ops Q Ss n (listed.setIfInBounds i true) ((d, undef) :: al) H) : AQ P N B w0 ops Q Ss (n + 1) listed al H :=
  aq_take i j hi hs hf hr hm hw hn hd (fun a ha => by
    have hw := wanted_of (o := { dst := some d, op, type := ty, pos, after, guard := some (g, want) }) ha rfl hg hl
    rw [hc] at hw
    exact .inr ⟨by cases want <;> simpa using hw, rfl⟩) k
theorem aq_ixr {α : Type} {xs : List α} {a : Option Addr} {m cap : Nat} {t : TypeId} {s ix : Operand} {kd : IntKind} {iv : Int} {E : Enc α} (i j : Nat) (hi : ops[i]? = some { dst := some d, op := .indexAddr t s ix, type := ty, pos, after, guard := none }) (hs : Region.noSelect ops = true) (hf : Region.free .any ops listed i = true) (hr : (Region.ready .any ops listed).contains i = true)
    (hm : (j, Hj) ∈ Ss) (hw : (Region.waitsFor .any ops j i || Nat.ble ops.size j) = true) (hn : (Ss.map (·.1)).contains i = false) (hd : Nat.blt d N.n = true)
    (hl : Rd E B w0 a m cap xs) (h1 : ev al s = some (.slice a m cap)) (h2 : ev al ix = some (.int kd iv)) (hT : Slc P t E.size) (h0 : 0 ≤ iv ∧ iv < m) 
    (k : ∀ x, xs[iv.toNat]? = some x → AQ P N B w0 ops Q Ss n (listed.setIfInBounds i true) ((d, .pointer (a.map (·.add (iv.toNat * E.size)))) :: al) H) : AQ P N B w0 ops Q Ss (n + 1) listed al H := by
  obtain ⟨x, hx⟩ := hl.get (i := iv.toNat) (by omega)
  exact aq_r i j hi hs hf hr hm hw hn hd (r_ix h1 h2 hT (hl.isSome (by omega)) h0) (k x hx)
theorem aq_gixr {α : Type} {xs : List α} {a : Option Addr} {m cap : Nat} {t : TypeId} {s ix : Operand} {kd : IntKind} {iv : Int} {E : Enc α} (i j : Nat) {g dg : Nat} {want c : Bool} (hi : ops[i]? = some { dst := some d, op := .indexAddr t s ix, type := ty, pos, after, guard := some (g, want) }) (hs : Region.noSelect ops = true) (hf : Region.free .any ops listed i = true) (hr : (Region.ready .any ops listed).contains i = true)
    (hm : (j, Hj) ∈ Ss) (hw : (Region.waitsFor .any ops j i || Nat.ble ops.size j) = true) (hn : (Ss.map (·.1)).contains i = false) (hg : gd ops.toList g = some dg) (hlk : look al dg = some (.bool c)) (hc : c = want) (hd : Nat.blt d N.n = true)
    (hl : Rd E B w0 a m cap xs) (h1 : ev al s = some (.slice a m cap)) (h2 : ev al ix = some (.int kd iv)) (hT : Slc P t E.size) (h0 : 0 ≤ iv ∧ iv < m) 
    (k : ∀ x, xs[iv.toNat]? = some x → AQ P N B w0 ops Q Ss n (listed.setIfInBounds i true) ((d, .pointer (a.map (·.add (iv.toNat * E.size)))) :: al) H) : AQ P N B w0 ops Q Ss (n + 1) listed al H := by
  obtain ⟨x, hx⟩ := hl.get (i := iv.toNat) (by omega)
  exact aq_g i j hi hs hf hr hm hw hn hg hlk hc hd (r_ix h1 h2 hT (hl.isSome (by omega)) h0) (k x hx)
theorem aq_ixo {α : Type} {a : Option Addr} {m cap : Nat} {t : TypeId} {s ix : Operand} {kd : IntKind} {iv : Int} {e : TypeId} {id size : Nat} (i j : Nat) (hi : ops[i]? = some { dst := some d, op := .indexAddr t s ix, type := ty, pos, after, guard := none }) (hs : Region.noSelect ops = true) (hf : Region.free .any ops listed i = true) (hr : (Region.ready .any ops listed).contains i = true)
    (hm : (j, Hj) ∈ Ss) (hw : (Region.waitsFor .any ops j i || Nat.ble ops.size j) = true) (hn : (Ss.map (·.1)).contains i = false) (hd : Nat.blt d N.n = true)
    (E : Enc α) (xs : List α) (h1 : ev al s = some (.slice a m cap)) (hH : look Hj id = some (.row a m cap (E.enc xs) e size)) (hz : size = E.size) (h2 : ev al ix = some (.int kd iv)) (hT : Slc P t E.size) (h0 : 0 ≤ iv ∧ iv < m) (hlen : xs.length = m) 
    (k : ∀ x, xs[iv.toNat]? = some x → AQ P N B w0 ops Q Ss n (listed.setIfInBounds i true) ((d, .pointer (a.map (·.add (iv.toNat * E.size)))) :: al) H) : AQ P N B w0 ops Q Ss (n + 1) listed al H := by
  exact aq_r i j hi hs hf hr hm hw hn hd (r_ixo E xs h1 hH hz h2 hT h0) (k (xs[iv.toNat]'(by omega)) (by simp))
theorem aq_gixo {α : Type} {a : Option Addr} {m cap : Nat} {t : TypeId} {s ix : Operand} {kd : IntKind} {iv : Int} {e : TypeId} {id size : Nat} (i j : Nat) {g dg : Nat} {want c : Bool} (hi : ops[i]? = some { dst := some d, op := .indexAddr t s ix, type := ty, pos, after, guard := some (g, want) }) (hs : Region.noSelect ops = true) (hf : Region.free .any ops listed i = true) (hr : (Region.ready .any ops listed).contains i = true)
    (hm : (j, Hj) ∈ Ss) (hw : (Region.waitsFor .any ops j i || Nat.ble ops.size j) = true) (hn : (Ss.map (·.1)).contains i = false) (hg : gd ops.toList g = some dg) (hlk : look al dg = some (.bool c)) (hc : c = want) (hd : Nat.blt d N.n = true)
    (E : Enc α) (xs : List α) (h1 : ev al s = some (.slice a m cap)) (hH : look Hj id = some (.row a m cap (E.enc xs) e size)) (hz : size = E.size) (h2 : ev al ix = some (.int kd iv)) (hT : Slc P t E.size) (h0 : 0 ≤ iv ∧ iv < m) (hlen : xs.length = m) 
    (k : ∀ x, xs[iv.toNat]? = some x → AQ P N B w0 ops Q Ss n (listed.setIfInBounds i true) ((d, .pointer (a.map (·.add (iv.toNat * E.size)))) :: al) H) : AQ P N B w0 ops Q Ss (n + 1) listed al H := by
  exact aq_g i j hi hs hf hr hm hw hn hg hlk hc hd (r_ixo E xs h1 hH hz h2 hT h0) (k (xs[iv.toNat]'(by omega)) (by simp))
theorem aq_u (i j : Nat) {g dg : Nat} {want : Bool} (hi : ops[i]? = some { dst := some d, op, type := ty, pos, after, guard := some (g, want) }) (hs : Region.noSelect ops = true) (hf : Region.free .any ops listed i = true) (hr : (Region.ready .any ops listed).contains i = true)
    (hm : (j, Hj) ∈ Ss) (hw : (Region.waitsFor .any ops j i || Nat.ble ops.size j) = true) (hn : (Ss.map (·.1)).contains i = false) (hg : gd ops.toList g = some dg) (hl : look al dg = some undef) (hd : Nat.blt d N.n = true)
    (k : AQ P N B w0 ops Q Ss n (listed.setIfInBounds i true) ((d, undef) :: al) H) : AQ P N B w0 ops Q Ss (n + 1) listed al H :=
  aq_take i j hi hs hf hr hm hw hn hd (fun a ha => .inr ⟨wanted_undef (o := { dst := some d, op, type := ty, pos, after, guard := some (g, want) }) ha rfl hg hl, rfl⟩) k
end
theorem aq_split {d : Nat} {c : Bool} (hl : look al d = some (.bool c)) (ht : c = true → AQ P N B w0 ops Q Ss n listed al H) (hf : c = false → AQ P N B w0 ops Q Ss n listed al H) : AQ P N B w0 ops Q Ss n listed al H := by
  cases hc : c
  · exact hf hc
  · exact ht hc
/-- One that stands alone, or one of several that may come up: it is carried out, and the stages are shown anew. -/
theorem aq_op {i : Nat} {o : Oper} (ho : ops[i]? = some o) (hsh : Shut ops (listed.setIfInBounds i true))
    (h : ∀ K, (∀ al' H', Holds (listed.setIfInBounds i true) H' Ss → AQ P N B w0 ops Q Ss n (listed.setIfInBounds i true) al' H' → KP N B w0 K al' H') → OL P N B w0 ops.toList [o] (Exit.then K (NoPanic Q)) al H) (a : Act) (w : World) (hst : St N B w0 al H a w) :
    wpOp P ops (NoPanic Q) i (fun a' w' => Stg N B w0 Ss (listed.setIfInBounds i true) w' ∧ AnyS P ops (NoPanic Q) N B w0 Ss n (listed.setIfInBounds i true) a' w') a w := by
  have h1 := h (fun a' w' => Stg N B w0 Ss (listed.setIfInBounds i true) w' ∧ AnyS P ops (NoPanic Q) N B w0 Ss n (listed.setIfInBounds i true) a' w')
    (fun al' H' hh hk a' w' hst' => ⟨Holds.stg hst' hh, hk hsh a' w' hst' (Holds.stg hst' hh)⟩) a w hst
  unfold wpOp
  rw [ho]
  simp only [Array.toArray_toList] at h1
  unfold wpList at h1
  dsimp only at h1 ⊢
  split
  · rename_i hw
    rw [if_pos hw] at h1
    rcases h1 with h1 | ⟨h1, h2⟩
    · refine .inl ?_
      have h2 := Oper.wp_mono (Q := Exit.then _ (NoPanic Q)) (fun a w (h : wpList P ops (Exit.then _ (NoPanic Q)) [] a w) => (h : Exit.then _ (NoPanic Q) .normal a w)) h1
      unfold Oper.wp at h2 ⊢
      generalize (execOp a.eval o).run P w = r at *
      cases r with
      | ok n w' => cases n <;> exact h2
      | halt x w' => cases x <;> exact h2
    · exact .inr ⟨h1, h2⟩
  · rename_i hw
    rw [if_neg hw] at h1
    exact h1
abbrev Next (P : Program) (N : Fr) (B : Nat) (w0 : World) (ops : Array Oper) (Q : Exit → Act → World → Prop) (Ss : List (Nat × HL)) (n : Nat) (listed : Array Bool) (al : AL) (H : HL) (i : Nat) (o : Oper) : Prop :=
  ∀ K, (∀ al' H', Holds (listed.setIfInBounds i true) H' Ss → AQ P N B w0 ops Q Ss n (listed.setIfInBounds i true) al' H' → KP N B w0 K al' H') → OL P N B w0 ops.toList [o] (Exit.then K (NoPanic Q)) al H
theorem aq_one {i : Nat} {o : Oper} (hr : Region.ready .any ops listed = [i]) (ho : ops[i]? = some o) (h : Next P N B w0 ops Q Ss n listed al H i o) : AQ P N B w0 ops Q Ss (n + 1) listed al H := by
  intro hsh a w hst hS
  refine ⟨fun h0 => (by rw [hr] at h0; cases h0), fun j hj => ?_⟩
  have hj' := hj
  rw [hr] at hj'
  have : j = i := by simpa using hj'
  subst this
  exact aq_op ho (hsh.set hj) h a w hst
theorem aq_two {i j : Nat} {o o' : Oper} (hr : Region.ready .any ops listed = [i, j]) (ho : ops[i]? = some o) (ho' : ops[j]? = some o')
    (h : Next P N B w0 ops Q Ss n listed al H i o) (h' : Next P N B w0 ops Q Ss n listed al H j o') : AQ P N B w0 ops Q Ss (n + 1) listed al H := by
  intro hsh a w hst hS
  refine ⟨fun h0 => (by rw [hr] at h0; cases h0), fun k hk => ?_⟩
  have hk' := hk
  rw [hr] at hk'
  rcases (by simpa using hk' : k = i ∨ k = j) with rfl | rfl
  · exact aq_op ho (hsh.set hk) h a w hst
  · exact aq_op ho' (hsh.set hk) h' a w hst
end

/-! #### what a call leaves -/
theorem Ent.ok_mono {B C : Nat} {w : World} {e : Ent} (h : e.ok C w) (hBC : B ≤ C) : e.ok B w := by
  cases e with
  | blk b cl T => exact ⟨Nat.le_trans hBC h.1, h.2⟩
  | row a n cap xs e size => exact ownsRow_mono h hBC
  | mp b es => exact ⟨Nat.le_trans hBC h.1, h.2⟩
  | gone => trivial
/-- New blocks of a call, beside those that were. -/
theorem Sat.more {B : Nat} {w w' : World} {H H' : HL} (hs : Sat B w H) (hB : B ≤ w.heap.size) (hb : ∀ k, k < w.heap.size → w'.heap[k]? = w.heap[k]?) (h' : Sat w.heap.size w' H') : Sat B w' (H' ++ H) := by
  have hl : ∀ i, look (H' ++ H) i = (match look H' i with | some v => some v | none => look H i) := fun i => by rw [look_append]; cases look H' i <;> rfl
  refine ⟨fun i e he => ?_, fun i j e f hij hi hj b hbe hbf => ?_⟩
  · rw [hl] at he
    cases h1 : look H' i with
    | some v => rw [h1] at he; cases he; exact Ent.ok_mono (h'.ok i e h1) hB
    | none => rw [h1] at he; exact Ent.ok_same (hs.ok i e he) fun b hbb => hb b (Ent.own_lt (hs.ok i e he) hbb).2
  · rw [hl] at hi hj
    cases h1 : look H' i with
    | some v =>
      rw [h1] at hi; cases hi
      have b1 := (Ent.own_lt (h'.ok i e h1) hbe).1
      cases h2 : look H' j with
      | some u => rw [h2] at hj; cases hj; exact h'.apart i j e f hij h1 h2 b hbe hbf
      | none => rw [h2] at hj; have := (Ent.own_lt (hs.ok j f hj) hbf).2; omega
    | none =>
      rw [h1] at hi
      have b1 := (Ent.own_lt (hs.ok i e hi) hbe).2
      cases h2 : look H' j with
      | some u => rw [h2] at hj; cases hj; have := (Ent.own_lt (h'.ok j f h2) hbf).1; omega
      | none => rw [h2] at hj; exact hs.apart i j e f hij hi hj b hbe hbf
/-- One entry, two entries, under other numbers. -/
theorem Sat.one {B : Nat} {w : World} {H : HL} (h : Sat B w H) (i k : Nat) {e f : Ent} (hi : look H i = some f) (he : e.le f) : Sat B w [(k, e)] := by
  refine ⟨fun j g hj => ?_, fun j l g g' hjl hj hl => ?_⟩
  · by_cases hk : k = j
    · subst hk; rw [look_cons_eq] at hj; cases hj; exact Ent.le.ok he (h.ok i f hi)
    · rw [look_cons_ne _ _ hk] at hj; simp [look] at hj
  · by_cases hk : k = j
    · subst hk; rw [look_cons_ne _ _ hjl] at hl; simp [look] at hl
    · rw [look_cons_ne _ _ hk] at hj; simp [look] at hj
theorem Sat.two {B : Nat} {w : World} {H : HL} (h : Sat B w H) (i j k l : Nat) {e f e' f' : Ent} (hij : i ≠ j) (hi : look H i = some f) (hj : look H j = some f') (he : e.le f) (he' : e'.le f') : Sat B w [(k, e), (l, e')] :=
  (h.one j l hj he').set2 k (Ent.le.ok he (h.ok i f hi)) (fun _ _ _ _ _ _ => rfl) (fun m g hm hg b hb hgb => by
    by_cases hl : l = m
    · subst hl; rw [look_cons_eq] at hg; cases hg
      exact h.apart i j f f' hij hi hj b (Ent.le.own he hb) (Ent.le.own he' hgb)
    · rw [look_cons_ne _ _ hl] at hg; simp [look] at hg)
theorem Sat.three {B : Nat} {w : World} {H : HL} (h : Sat B w H) (i j m k l p : Nat) {e f e' f' g g' : Ent} (hij : i ≠ j) (him : i ≠ m) (hjm : j ≠ m) (hi : look H i = some f) (hj : look H j = some f') (hm : look H m = some g') (he : e.le f) (he' : e'.le f') (hg : g.le g') : Sat B w [(k, e), (l, e'), (p, g)] :=
  (h.two j m l p hjm hj hm he' hg).set2 k (Ent.le.ok he (h.ok i f hi)) (fun _ _ _ _ _ _ => rfl) (fun q g0 hq hg0 b hb hgb => by
    by_cases hl : l = q
    · subst hl; rw [look_cons_eq] at hg0; cases hg0
      exact h.apart i j f f' hij hi hj b (Ent.le.own he hb) (Ent.le.own he' hgb)
    · rw [look_cons_ne _ _ hl] at hg0
      by_cases hp : p = q
      · subst hp; rw [look_cons_eq] at hg0; cases hg0
        exact h.apart i m f g' him hi hm b (Ent.le.own he hb) (Ent.le.own hg hgb)
      · rw [look_cons_ne _ _ hp] at hg0; simp [look] at hg0)
section
variable {P : Program} {N : Fr} {B : Nat} {w0 : World} {Q : Exit → Act → World → Prop} {al : AL} {H H' : HL} {ops rest : List Oper}
/-- A call that leaves new blocks of its own. -/
theorem After.more {e : Ending} {w w' : World} {v : Value} {d : Nat} (he : e = .returned v) (hw : Below B w0 w) (hs : Sat B w H) (hb : B ≤ w.heap.size) (hbl : Below w.heap.size w w') (h' : Sat w.heap.size w' H')
    (k : OL P N B w0 ops rest Q ((d, v) :: al) (H' ++ H)) : After P N B w0 w ops rest Q al (some d) e w' :=
  ⟨v, _, he, hw.trans (hbl.mono hb), hs.more hb (fun k hk => hbl.block k hk) h', Nat.le_trans hb hbl.size, Kd.of_below hbl, k⟩
/-- A call that works in the caller's blocks: all that is known behind it is H'. -/
theorem After.sat {e : Ending} {w w' : World} {v : Value} {d : Nat} (he : e = .returned v) (hw : Below B w0 w) (hbl : Below B w w') (h' : Sat B w' H') (hB : B ≤ w'.heap.size) (hkd : Kd N.c w w')
    (k : OL P N B w0 ops rest Q ((d, v) :: al) H') : After P N B w0 w ops rest Q al (some d) e w' :=
  ⟨v, _, he, hw.trans hbl, h', hB, hkd, k⟩
end

/-! #### a part of a slice that is only read -/
section
variable {P : Program} {N : Fr} {B : Nat} {w0 : World} {Q : Exit → Act → World → Prop} {al : AL} {H : HL} {ops rest tail : List Oper} {d : Nat} {ty : TypeId} {pos : String} {after : Array Edge} {α : Type} {E : Enc α} {a : Option Addr} {n cap : Nat} {xs : List α}
/-- A bound, or none. -/
def evo (al : AL) : Option Operand → Option (Option Int)
  | none => some none
  | some x => match ev al x with | some (.int .i64 i) => some (some i) | _ => none
theorem evo_eval {a : Act} (h : Regs N al a) {x : Option Operand} {i : Option Int} (hx : evo al x = some i) : x.map a.eval = i.map (Value.int .i64) := by
  cases x with
  | none => simp [evo] at hx; subst hx; rfl
  | some o =>
    unfold evo at hx
    dsimp only at hx
    split at hx
    · rename_i j hj; cases hx; simp [h.eval hj]
    · cases hx
theorem r_sl {s : Operand} {lo hi : Option Operand} {l h : Option Int} {t : TypeId} {size : Nat} (hs : ev al s = some (.slice a n cap)) (hlo : evo al lo = some l) (hhi : evo al hi = some h) (hT : Slc P t size)
    (h0 : 0 ≤ l.getD 0 ∧ l.getD 0 ≤ h.getD n ∧ h.getD n ≤ cap) (hc : n ≤ cap) : Runs P N B w0 (.slice t s lo hi none) ty al H (sliced a (l.getD 0).toNat (h.getD n).toNat cap size) := fun x w hst => by
  obtain ⟨e, hu, hz⟩ := hT
  have hu' : P.underlying t = some (.slice (P.elem t)) := by rw [hu, show P.elem t = e by simp [Program.elem, hu]]
  have hz' : (sizeOf (P.elem t)).run P w = .ok size w := by rw [show P.elem t = e by simp [Program.elem, hu]]; exact run_sizeOf hz w
  have e1 := evo_eval hst.regs hlo
  have e2 := evo_eval hst.regs hhi
  simp only [execOp, hst.regs.eval hs, e1, e2, Option.map_none, Sem.run_bind, run_sliceAt_slice w t _ _ _ _ hu']
  have h1 := run_slice_any w t a n cap hu' (l.map (Value.int .i64)) (h.map (Value.int .i64)) none
  rw [h1]
  have hb : (Instr.sliceBounds true n cap (l.map (Value.int .i64)) (h.map (Value.int .i64)) none).run P w = .ok ((l.getD 0).toNat, (h.getD n).toNat, cap) w := by
    cases l <;> cases h <;> simp [Instr.sliceBounds, run_sliceBound_if] at h0 ⊢ <;> (try simp [h0]) <;> (try omega) <;> (try (rw [if_pos (by omega), if_pos (by omega)]))
  rw [hb]
  simp [hz', Result.andThen]
theorem Rd.part {C : Nat} {w : World} {l h : Nat} (hl : Rd E C w a n cap xs) (h1 : l ≤ h) (h2 : h ≤ n) : ∃ a' c', sliced a l h cap E.size = .slice a' (h - l) c' ∧ Rd E C w a' (h - l) c' ((xs.drop l).take (h - l)) := by
  have hlen := hl.len
  have hroom := hl.room
  refine ⟨_, _, rfl, by simp; omega, by omega, ⟨by omega, by omega⟩, fun i x hx => ?_⟩
  have hi : i < h - l := by
    have := (List.getElem?_eq_some_iff.1 hx).1
    simp at this; omega
  rw [List.getElem?_take, if_pos hi, List.getElem?_drop] at hx
  obtain ⟨b, off, rfl, hb, hc⟩ := hl.cell (l + i) x hx
  rw [if_neg (by omega)]
  refine ⟨b, off + l * E.size, by simp [add_none], hb, fun j u hu => ?_⟩
  have := hc j u hu
  rw [show off + l * E.size + i * E.size + j = off + (l + i) * E.size + j by rw [Nat.add_mul]; omega]
  exact this
theorem ol_slr {s : Operand} {lo hi : Option Operand} {l h : Option Int} {t : TypeId} (hl : Rd E B w0 a n cap xs) (hs : ev al s = some (.slice a n cap)) (hlo : evo al lo = some l) (hhi : evo al hi = some h) (hT : Slc P t E.size)
    (h0 : 0 ≤ l.getD 0 ∧ l.getD 0 ≤ h.getD n ∧ h.getD n ≤ n) (hd : Nat.blt d N.n = true)
    (k : ∀ a' c', Rd E B w0 a' ((h.getD n).toNat - (l.getD 0).toNat) c' ((xs.drop (l.getD 0).toNat).take ((h.getD n).toNat - (l.getD 0).toNat)) → OL P N B w0 ops rest Q ((d, .slice a' ((h.getD n).toNat - (l.getD 0).toNat) c') :: al) H) :
    OL P N B w0 ops ({ dst := some d, op := .slice t s lo hi none, type := ty, pos, after, guard := none } :: rest) Q al H := by
  obtain ⟨a', c', h1, h2⟩ := hl.part (l := (l.getD 0).toNat) (h := (h.getD n).toNat) (by omega) (by omega)
  have hr := r_sl (P := P) (N := N) (B := B) (w0 := w0) (H := H) (ty := ty) (lo := lo) (hi := hi) hs hlo hhi hT ⟨h0.1, h0.2.1, by have := hl.room; omega⟩ hl.room.1
  rw [h1] at hr
  exact ol_r hr hd (k a' c' h2)
theorem ql_slr {Qa : Act → Prop} {s : Operand} {lo hi : Option Operand} {l h : Option Int} {t : TypeId} (hl : Rd E B w0 a n cap xs) (hs : ev al s = some (.slice a n cap)) (hlo : evo al lo = some l) (hhi : evo al hi = some h) (hT : Slc P t E.size)
    (h0 : 0 ≤ l.getD 0 ∧ l.getD 0 ≤ h.getD n ∧ h.getD n ≤ n) (hd : Nat.blt d N.n = true)
    (k : ∀ a' c', Rd E B w0 a' ((h.getD n).toNat - (l.getD 0).toNat) c' ((xs.drop (l.getD 0).toNat).take ((h.getD n).toNat - (l.getD 0).toNat)) → QL P N B w0 ops rest Qa ((d, .slice a' ((h.getD n).toNat - (l.getD 0).toNat) c') :: al) H) :
    QL P N B w0 ops ({ dst := some d, op := .slice t s lo hi none, type := ty, pos, after, guard := none } :: rest) Qa al H := by
  obtain ⟨a', c', h1, h2⟩ := hl.part (l := (l.getD 0).toNat) (h := (h.getD n).toNat) (by omega) (by omega)
  have hr := r_sl (P := P) (N := N) (B := B) (w0 := w0) (H := H) (ty := ty) (lo := lo) (hi := hi) hs hlo hhi hT ⟨h0.1, h0.2.1, by have := hl.room; omega⟩ hl.room.1
  rw [h1] at hr
  exact ql_r hr hd (k a' c' h2)
end

/-! #### make -/
theorem cells_rep (us : List Value) (hs : 0 < us.length) : ∀ l : Nat, (List.range (l * us.length)).map (fun j => us.toArray[j % us.toArray.size]!) = (List.replicate l us).flatten
  | 0 => by simp
  | l + 1 => by
    have ih := cells_rep us hs l
    rw [Nat.succ_mul, List.range_add, List.map_append, ih, List.replicate_succ', List.flatten_append, List.map_map]
    congr 1
    simp only [List.flatten_cons, List.flatten_nil, List.append_nil]
    apply List.ext_getElem
    · simp
    · intro i h1 h2
      simp at h1
      simp [Nat.mul_add_mod_of_lt, Nat.mod_eq_of_lt h1, h1]
theorem ol_make {P : Program} {N : Fr} {B : Nat} {w0 : World} {Q : Exit → Act → World → Prop} {al : AL} {H : HL} {ops rest : List Oper} {d : Nat} {ty : TypeId} {pos : String} {after : Array Edge} {α : Type} (E : Enc α) (x0 : α) (id : Nat)
    {x y : Operand} {k1 k2 : IntKind} {l c : Int} {t e : TypeId} {size bytes : Nat} {us : List Value} (hl : ev al x = some (.int k1 l)) (hc : ev al y = some (.int k2 c)) (hT : RowT P t e size bytes) (hz : ZeroOf P e us) (hE : us = E.cells x0) (hs : size = E.size)
    (hb : 0 ≤ l ∧ l ≤ c ∧ (bytes : Int) * c ≤ 140737488355328 ∧ c ≤ 281474976710656) (hd : Nat.blt d N.n = true)
    (k : ∀ a', OL P N B w0 ops rest Q ((d, .slice a' l.toNat c.toNat) :: al) ((id, .row a' l.toNat c.toNat (E.enc (List.replicate l.toNat x0)) e size) :: H)) :
    OL P N B w0 ops ({ dst := some d, op := .makeSlice t x y, type := ty, pos, after, guard := none } :: rest) Q al H := by
  intro a w hst
  refine wpList_plain rfl fun K hK => ?_
  obtain ⟨hu, i, z, hi, hzz, hsz, hby, hzs, hpos⟩ := hT
  obtain ⟨z', hz', hcells⟩ := hz
  rw [hi] at hz'
  have hzz' : some z = some z' := by rw [← hzz]; exact hz'
  cases hzz'
  subst hE
  subst hs
  have hlen := E.len x0
  have hrun0 := run_make (P := P) w t e i z hu hi hzz k1 k2 l c hb.1 hb.2.1 (by rw [hby]; omega) (by omega)
  have hrun : (execOp a.eval { dst := some d, op := .makeSlice t x y, type := ty, pos, after, guard := none }).run P w = .ok (.value (.slice (some ⟨w.heap.size, 0, none⟩) l.toNat c.toNat)) (w.alloc (.cells (madeCells z.cells (c.toNat * i.size)) e)) := by
    simp only [execOp, hst.regs.eval hl, hst.regs.eval hc, Sem.run_bind, hrun0, Result.andThen_ok, Sem.run_pure]
  unfold Oper.wp
  rw [hrun, Oper.upon_value]
  refine hK _ _ (k _ _ _ (hst.step (hst.regs.put (by simpa using hd) _) (hst.below.alloc hst.base _) ?_ (by have := hst.base; simp; omega) (Kd.alloc w _)))
  refine hst.sat.new id (e := .row (some ⟨w.heap.size, 0, none⟩) l.toNat c.toNat (E.enc (List.replicate l.toNat x0)) e E.size) ?_ (fun k hk => Below.heap_alloc w _ k hk) (fun b hb => by simp [Ent.own] at hb; omega)
  have hmade : ∀ m : Nat, (madeCells z.cells (m * E.size)).toList = E.enc (List.replicate m x0) := by
    intro m
    have := cells_rep (E.cells x0) (by rw [hlen]; exact E.pos) m
    rw [hlen] at this
    unfold madeCells Enc.enc
    rw [hcells]
    simpa [List.flatMap, List.map_replicate] using this
  have hle : l.toNat ≤ c.toNat := by omega
  refine ⟨by rw [E.enc_len]; simp, .inr ⟨w.heap.size, c.toNat, madeCells z.cells (c.toNat * i.size), rfl, hst.base, heap_alloc_new w _, hle, by unfold maxLen; omega, by rw [hsz]; simp [madeCells], ?_⟩⟩
  rw [hsz, hmade]
  have : c.toNat = l.toNat + (c.toNat - l.toNat) := by omega
  rw [this, ← List.replicate_append_replicate, Enc.enc_append, List.take_left' (by rw [E.enc_len]; simp)]
end Go.Proofs.Ytfbmkepogcimlaa.Hx

/-
  Loops over functions: what an iterator promises, and the loop's rule.
-/


namespace Go.Proofs.Ytfbmkepogcimlaa.Hx
open Go Go.RowKit
set_option linter.unusedVariables false
set_option linter.unusedSimpArgs false
set_option linter.unusedSectionVars false

/-- What yield promises an iterator: J between two rounds; Jx when a round has said that no more is wanted. -/
def YieldsOver {α : Type} (P : Program) (l : Nat) (encs : α → List Value) (zs : List α) (J : Nat → World → Prop) (Jx : World → Prop) : Prop :=
  ∀ k x W, zs[k]? = some x → J k W → YieldAt Fence.wide 0 P l (encs x).toArray W fun e W' => (e = .returned (.bool true) ∧ J (k + 1) W') ∨ (e = .returned (.bool false) ∧ Jx W')
/-- An iterator over zs, that reads what Rq says. -/
def Iter {α : Type} (P : Program) (gf : FuncId) (lb : List Value) (encs : α → List Value) (zs : List α) (Rq : World → Prop) : Prop :=
  ∀ (l : Nat) (J : Nat → World → Prop) (Jx : World → Prop) (W : World), (∀ k W, J k W → Rq W) → (∀ k W W', J k W → Below W.heap.size W W' → J k W') → (∀ W W', Jx W → Below W.heap.size W W' → Jx W') →
    YieldsOver P l encs zs J Jx → J 0 W → CallsIn Fence.wide 0 P gf ([Value.func (.yield l) #[] #[]] ++ lb).toArray W fun e W' => (∃ v, e = .returned v) ∧ (J zs.length W' ∨ Jx W')

def alp : List Tmp → List Value → AL → AL
  | p :: ps, v :: vs, al => alp ps vs ((p, v) :: al)
  | _, _, al => al
theorem alp_slot : ∀ (ps : List Tmp) (vs : List Value) (al : AL) (tm : Array Value), (∀ p ∈ ps, p < tm.size) → (∀ n v, look al n = some v → tm[n]? = some v) →
    ∀ n v, look (alp ps vs al) n = some v → ((ps.zip vs).foldl (fun t (p : Tmp × Value) => t.setIfInBounds p.1 p.2) tm)[n]? = some v
  | [], _, al, tm, _, h, n, v, hn => h n v (by simpa [alp] using hn)
  | p :: ps, [], al, tm, _, h, n, v, hn => h n v (by simpa [alp] using hn)
  | p :: ps, u :: vs, al, tm, hp, h, n, v, hn => by
    simp only [List.zip_cons_cons, List.foldl_cons]
    refine alp_slot ps vs ((p, u) :: al) (tm.setIfInBounds p u) (fun q hq => by simp; exact hp q (by simp [hq])) (fun m x hm => ?_) n v hn
    by_cases hk : p = m
    · subst hk
      rw [look_cons_eq] at hm; cases hm
      simp [hp p (by simp)]
    · rw [look_cons_ne _ _ hk] at hm
      rw [Array.getElem?_setIfInBounds_ne hk]
      exact h m x hm
theorem foldl_size : ∀ (l : List (Tmp × Value)) (tm : Array Value), (l.foldl (fun t (p : Tmp × Value) => t.setIfInBounds p.1 p.2) tm).size = tm.size
  | [], tm => rfl
  | p :: l, tm => by simp only [List.foldl_cons]; rw [foldl_size l]; simp

theorem zipfold (pl : List Tmp) (vs : List Value) (tm : Array Value) : (pl.toArray.zip vs.toArray).foldl (fun t (p, v) => t.setIfInBounds p v) tm = (pl.zip vs).foldl (fun t (p : Tmp × Value) => t.setIfInBounds p.1 p.2) tm := by
  rw [List.zip_toArray, List.foldl_toArray]

section
variable {P : Program} {B : Nat} {w0 : World} {Q : Exit → Act → World → Prop} {al : AL} {H : HL}
theorem Sat.putFix {w : World} {l : Nat} {o o' : Obj} (h : Sat B w H) (ho : w.heap[l]? = some o) (hk : Obj.known o = false) : Sat B (w.putObj l o') H :=
  ⟨fun i e he => Ent.ok_same (h.ok i e he) fun b hb => World.putObj_heap_other fun e2 => (by
    have := Ent.own_known (h.ok i e he) hb (e2 ▸ ho)
    rw [hk] at this; simp at this), h.apart⟩
theorem Below.putFix {C : Nat} {w1 w : World} {l : Nat} (o : Obj) (h : Below C w1 w) (hC : C ≤ l) (hs : C ≤ w.heap.size) : Below C w1 (w.putObj l o) := h.grown (grownBy_putObj' w l o) hs (fun k e => by cases e; exact hC)
theorem Kd.putFix {C : Nat → Prop} {w1 w : World} {l : Nat} (o : Obj) (h : Kd C w1 w) (hl : w1.heap.size ≤ l) : Kd C w1 (w.putObj l o) := fun k o' hk hc hm => by
  have : k ≠ l := fun e => by have := (Array.getElem?_eq_some_iff.1 hk).1; omega
  rw [World.putObj_heap_other this]; exact h k o' hk hc hm

theorem wp_rf {α σ τ : Type} {g : Operand} {pl : List Tmp} {assign body : Code} {gf : FuncId} {lb : List Value} {encs : α → List Value} {zs : List α} {Rq : World → Prop} {n : Nat} {C : Nat → Prop} {ds : List Nat}
    (hg : ev al g = some (.func (.func gf) #[] lb.toArray)) (hcb : Callable P gf) (hit : Iter P gf lb encs zs Rq) (hra : Rnd assign = true) (hrb : Rnd body = true) (hpl : pl.all (fun p => Nat.blt p n) = true) (hen : ∀ x, (encs x).length = pl.length)
    (Inv : Nat → σ → Prop) (G : Nat → σ → HL) (G0 : HL) (InvX : τ → Prop) (GX : τ → HL) (s0 : σ) (h0 : Inv 0 s0) (hh : SubH (G 0 s0) H) (hh0 : SubH G0 H)
    (hRq : ∀ k s W, Inv k s → Below B w0 W → Sat B W (G k s ++ G0) → B ≤ W.heap.size → Rq W)
    (hround : ∀ (k : Nat) (x : α) (s : σ) (B0 : Nat) (W : World), zs[k]? = some x → Inv k s → Below B w0 W → B ≤ W.heap.size → (∀ i e b, look H i = some e → e.own = some b → b < B0) → ∀ Ka : Act → World → Prop,
      (∀ al1 H1, (∀ (Wb : World) (R : Exit → Act → World → Prop), Below B w0 Wb → B ≤ Wb.heap.size →
          (∀ s' al2 H2, Inv (k + 1) s' → SubH (G (k + 1) s') H2 → SubH G0 H2 → QP ⟨n, fun j => C j ∧ j < B0, [], false⟩ B Wb R .normal al2 H2) →
          (∀ t al2 H2, InvX t → SubH (GX t) H2 → SubH G0 H2 → QP ⟨n, fun j => C j ∧ j < B0, [], false⟩ B Wb R .ret al2 H2) →
          WP P ⟨n, fun j => C j ∧ j < B0, [], false⟩ B Wb body R al1 H1) → KP ⟨n, fun j => C j ∧ j < B0, [], false⟩ B W Ka al1 H1) →
      WP P ⟨n, fun j => C j ∧ j < B0, [], false⟩ B W assign (Exit.then Ka (fun _ _ _ => False)) (alp pl (encs x) al) (G k s ++ G0))
    (hdone : ∀ s d, Inv zs.length s → QP ⟨n, C, d :: ds, false⟩ B w0 Q .normal al (G zs.length s ++ G0))
    (hstop : ∀ t d, InvX t → QP ⟨n, C, d :: ds, false⟩ B w0 Q .ret al (GX t ++ G0)) : WP P ⟨n, C, ds, false⟩ B w0 (.rangeFunc g pl.toArray assign body) Q al H := by
  intro a w hst
  refine (wpIn_wide (n := 1)).1 (wpIn_rangeFunc ?_)
  intro fn hfn
  obtain ⟨rec, hrec⟩ : ∃ rec : LoopState → Option Code → Loop, rec = fun st pe => { state := st, pending := pe, fn, tmps := a.tmps, params := pl.toArray, assign, body, defers := w.heap.size } := ⟨_, rfl⟩
  obtain ⟨W1, hW1⟩ : ∃ W1, (w.alloc (.deferred (some []))).alloc (.loop (rec .ready none)) = W1 := ⟨_, rfl⟩
  have hsz1 : W1.heap.size = w.heap.size + 2 := by rw [← hW1]; simp
  have hL1 : W1.heap[w.heap.size + 1]? = some (.loop (rec .ready none)) := by
    rw [← hW1]; have := World.alloc_heap_new (w.alloc (.deferred (some []))) (.loop (rec .ready none)); rwa [World.size_alloc] at this
  have hK1 : W1.heap[w.heap.size]? = some (.deferred (some [])) := by
    rw [← hW1]; exact (Below.heap_alloc _ _ _ (by simp)).trans (World.alloc_heap_new w _)
  have hold : ∀ k, k < w.heap.size → W1.heap[k]? = w.heap[k]? := fun k hk => by
    rw [← hW1]; exact (Below.heap_alloc _ _ _ (by simp; omega)).trans (Below.heap_alloc _ _ _ hk)
  have hb1 : Below B w0 W1 := by rw [← hW1]; exact (hst.below.alloc hst.base _).alloc (by have := hst.base; simp; omega) _
  have hB0 : ∀ i e b, look H i = some e → e.own = some b → b < w.heap.size := fun i e b hi hb => (Ent.own_lt (hst.sat.ok i e hi) hb).2
  have hBw := hst.base
  let base : World → Prop := fun W => Below B w0 W ∧ w.heap.size + 2 ≤ W.heap.size ∧ Kd C w W
  let J : Nat → World → Prop := fun k W => (∃ s, Inv k s ∧ base W ∧ Sat B W (G k s ++ G0)) ∧ W.heap[w.heap.size + 1]? = some (.loop (rec .ready none)) ∧ W.heap[w.heap.size]? = some (.deferred (some []))
  let Jx : World → Prop := fun W => (∃ t, InvX t ∧ base W ∧ Sat B W (GX t ++ G0)) ∧ W.heap[w.heap.size + 1]? = some (.loop (rec .done (some .ret))) ∧ W.heap[w.heap.size]? = some (.deferred (some []))
  obtain ⟨fnc, hf1, hf2, hf3⟩ := hcb
  have hcall : ∀ args W, (callFunc gf args).run P W = .ok (.enter gf args) W := fun args W => by
    have hn : ¬ (fnc.name = "runtime.NumGoroutine") := by simpa using hf2
    have hb : ¬ (fnc.body = none) := by intro e; rw [e] at hf3; simp at hf3
    simp [callFunc, program, Sem.run, hf1, hn, hb]
  refine ⟨w.heap.size + 1, [mkMark w.heap.size], W1, { target := .fn (.func gf) lb.toArray, args := #[.func (.yield (w.heap.size + 1)) #[] #[]] }, W1, gf, ([Value.func (.yield (w.heap.size + 1)) #[] #[]] ++ lb).toArray, W1, ?_, ?_, ?_, ?_, fun h => by simp [Fence.wide] at h, ?_⟩
  · rw [← hW1, hrec]; exact run_enterLoop_outer _ _ _ _ _
  · simp only [resolve, hst.regs.eval hg]
    simp [go_sem]
  · intro f' _; trivial
  · simp [invoke, go_sem, hcall]
  have hbase1 : base W1 := ⟨hb1, by omega, fun k o hk _ _ => (hold k (Array.getElem?_eq_some_iff.1 hk).1).trans hk⟩
  refine (hit (w.heap.size + 1) J Jx W1 ?_ ?_ ?_ ?_ ⟨⟨s0, h0, hbase1, (hst.sat.below' hold).sub (subH_app hh hh0)⟩, hL1, hK1⟩).mono ?_
  · rintro k W ⟨⟨s, hi, hb, hs⟩, _, _⟩
    exact hRq k s W hi hb.1 hs (by have := hb.2.1; omega)
  · rintro k W W' ⟨⟨s, hi, hb, hs⟩, hl, hd⟩ hbl
    have h1 : ∀ j, j < W.heap.size → W'.heap[j]? = W.heap[j]? := fun j hj => hbl.block j hj
    have h2 := hb.2.1
    have h3 := hbl.size
    exact ⟨⟨s, hi, ⟨hb.1.trans (hbl.mono (by omega)), by omega, hb.2.2.trans (Kd.of_below hbl)⟩, hs.below' h1⟩, (h1 _ (by omega)).trans hl, (h1 _ (by omega)).trans hd⟩
  · rintro W W' ⟨⟨s, hi, hb, hs⟩, hl, hd⟩ hbl
    have h1 : ∀ j, j < W.heap.size → W'.heap[j]? = W.heap[j]? := fun j hj => hbl.block j hj
    have h2 := hb.2.1
    have h3 := hbl.size
    exact ⟨⟨s, hi, ⟨hb.1.trans (hbl.mono (by omega)), by omega, hb.2.2.trans (Kd.of_below hbl)⟩, hs.below' h1⟩, (h1 _ (by omega)).trans hl, (h1 _ (by omega)).trans hd⟩
  · rintro k x W hx ⟨⟨s, hi, hb, hs⟩, hl, hd⟩
    have hsz := hb.2.1
    have hy := run_yield (P := P) (args := (encs x).toArray) hl (by rw [hrec]; simp [hen x])
    rw [hrec] at hy
    refine ⟨fn, _, assign, body, hy, roundIn_of_wpIn (n := 0) trivial (D.wpIn assign _ _ _ (fun _ _ h => h) hra (hround k x s w.heap.size W hx hi hb.1 (by omega) hB0 _ ?_ _ _ ⟨⟨rfl, ?_, ?_⟩, Below.refl _ _, hs, by omega, fun _ => Kd.refl _ _, MarkOk.nil _ _⟩))⟩
    · intro al1 H1 hbody a1 w1 hst1
      have hs1 := hst1.below.size
      have hl1 : w1.heap[w.heap.size + 1]? = some (.loop (rec .ready none)) := hst1.kd rfl _ _ hl rfl (fun _ => rfl)
      have hd1 : w1.heap[w.heap.size]? = some (.deferred (some [])) := hst1.kd rfl _ _ hd rfl (fun _ => rfl)
      obtain ⟨Wb, hWb⟩ : ∃ Wb, w1.putObj (w.heap.size + 1) (.loop (rec .busy none)) = Wb := ⟨_, rfl⟩
      have hbr : (Instr.beginRound (w.heap.size + 1)).run P w1 = .ok () Wb := by
        have := run_beginRound (P := P) hl1 (by rw [hrec])
        rw [this, ← hWb, hrec]
      have hszb : Wb.heap.size = w1.heap.size := by rw [← hWb]; simp
      have hlb : Wb.heap[w.heap.size + 1]? = some (.loop (rec .busy none)) := by rw [← hWb]; exact World.putObj_heap_same (by omega)
      have hdb : Wb.heap[w.heap.size]? = some (.deferred (some [])) := by rw [← hWb]; exact (World.putObj_heap_other (by omega)).trans hd1
      have hb0b : Below B w0 Wb := by rw [← hWb]; exact Below.putFix _ (hb.1.trans hst1.below) (by omega) (by omega)
      have hkb : Kd C w Wb := by rw [← hWb]; exact Kd.putFix _ (hb.2.2.trans ((hst1.kd rfl).imp fun _ h => h.1)) (by omega)
      -- what a round leaves
      have leave : ∀ (jump : Option Code) (al2 : AL) (H2 : HL) (a2 : Act) (w2 : World), St ⟨n, fun j => C j ∧ j < w.heap.size, [], false⟩ B Wb al2 H2 a2 w2 →
          ∃ w3, (Instr.endRound (w.heap.size + 1) jump).run P w2 = .ok (.bool jump.isNone) w3 ∧ base w3 ∧ Sat B w3 H2 ∧ w3.heap[w.heap.size + 1]? = some (.loop (rec (if jump.isNone then .ready else .done) jump)) ∧ w3.heap[w.heap.size]? = some (.deferred (some [])) := by
        intro jump al2 H2 a2 w2 h2
        have hl2 : w2.heap[w.heap.size + 1]? = some (.loop (rec .busy none)) := h2.kd rfl _ _ hlb rfl (fun _ => rfl)
        have hd2 : w2.heap[w.heap.size]? = some (.deferred (some [])) := h2.kd rfl _ _ hdb rfl (fun _ => rfl)
        have hs2 := h2.below.size
        refine ⟨_, ?_, ⟨Below.putFix (l := w.heap.size + 1) (.loop (rec (if jump.isNone then .ready else .done) jump)) (hb0b.trans h2.below) (by omega) (by omega), by simp; omega, Kd.putFix _ (hkb.trans ((h2.kd rfl).imp fun _ h => h.1)) (by omega)⟩, h2.sat.putFix hl2 rfl, World.putObj_heap_same (by omega), (World.putObj_heap_other (by omega)).trans hd2⟩
        have := run_endRound (P := P) jump hl2
        rw [this, hrec]
      refine ⟨Wb, hbr, D.wpIn body (roundPost P (w.heap.size + 1) _) _ _ (fun _ _ h => h) hrb (hbody Wb _ hb0b (by omega) ?_ ?_ _ _ ⟨hst1.regs, Below.refl _ _, ?_, by omega, fun _ => Kd.refl _ _, MarkOk.nil _ _⟩)⟩
      · intro s' al2 H2 hi2 hg2 hg0 a2 w2 h2
        obtain ⟨w3, q1, q2, q3, q4, q5⟩ := leave none al2 H2 a2 w2 h2
        exact ⟨_, w3, q1, .inl ⟨rfl, ⟨s', hi2, q2, q3.sub (subH_app hg2 hg0)⟩, q4, q5⟩⟩
      · intro t al2 H2 hi2 hg2 hg0 a2 w2 h2
        obtain ⟨w3, q1, q2, q3, q4, q5⟩ := leave (some .ret) al2 H2 a2 w2 h2
        exact ⟨_, w3, q1, .inr ⟨rfl, ⟨t, hi2, q2, q3.sub (subH_app hg2 hg0)⟩, q4, q5⟩⟩
      · rw [← hWb]; exact hst1.sat.putFix hl1 rfl
    · rw [zipfold, foldl_size]; exact hst.regs.size
    · intro m v hm
      rw [zipfold]
      exact alp_slot pl (encs x) al a.tmps (fun p hp => by have := List.all_eq_true.1 hpl p hp; rw [hst.regs.size]; simpa using this) hst.regs.slot m v hm
  · rintro e W2 ⟨⟨v, rfl⟩, hJ⟩
    have hfin : ∀ (st : LoopState) (pe : Option Code) (al' : AL) (H' : HL) , st ≠ .busy → base W2 → Sat B W2 H' → W2.heap[w.heap.size + 1]? = some (.loop (rec st pe)) → W2.heap[w.heap.size]? = some (.deferred (some [])) →
        ∃ w4, (Instr.endLoop (w.heap.size + 1)).run P W2 = .ok pe w4 ∧ St ⟨n, C, w.heap.size :: ds, false⟩ B w0 al H' { a with defers := [mkMark w.heap.size] ++ a.defers } w4 := by
      intro st pe al' H' hne hb hs hl hd
      have hrun := run_endLoop (P := P) hl (by rw [hrec]; exact hne)
      have h2 := hb.2.1
      refine ⟨_, by rw [hrun, hrec], ⟨⟨?_, hst.regs.size, hst.regs.slot⟩, Below.putFix _ hb.1 (by omega) (by omega), hs.putFix hl rfl, by simp; omega, fun hy => Kd.putFix _ ((hst.kd rfl).trans hb.2.2) (by have := hst.below.size; omega), ?_⟩⟩
      · simp [hst.regs.defers]
      · refine ⟨List.nodup_cons.2 ⟨fun hm => ?_, hst.marks.1⟩, fun d hdm => ?_⟩
        · have := (Array.getElem?_eq_some_iff.1 (hst.marks.2 _ hm).2).1; omega
        · rcases List.mem_cons.1 hdm with rfl | hdm
          · exact ⟨hst.below.size, (World.putObj_heap_other (by omega)).trans hd⟩
          · have h3 := hst.marks.2 d hdm
            have h4 := (Array.getElem?_eq_some_iff.1 h3.2).1
            exact ⟨h3.1, (World.putObj_heap_other (by omega)).trans (hb.2.2 d _ h3.2 rfl (fun _ => rfl))⟩
    rcases hJ with ⟨⟨s, hi, hb, hs⟩, hl, hd⟩ | ⟨⟨t, hi, hb, hs⟩, hl, hd⟩
    · obtain ⟨w4, q1, q2⟩ := hfin .ready none al _ (by simp) hb hs hl hd
      exact ⟨none, w4, q1, hdone s w.heap.size hi _ _ q2⟩
    · obtain ⟨w4, q1, q2⟩ := hfin .done (some .ret) al _ (by simp) hb hs hl hd
      exact ⟨some .ret, w4, q1, wpIn_ret (hstop t w.heap.size hi _ _ q2)⟩
end
end Go.Proofs.Ytfbmkepogcimlaa.Hx

/-
  More rules: strings; calls of yield, in an iterator.
-/





namespace Go.Proofs.Ytfbmkepogcimlaa.Hx
open Go Go.RowKit
set_option linter.unusedVariables false
set_option linter.unusedSimpArgs false
set_option linter.unusedSectionVars false
section
variable {P : Program} {N : Fr} {B : Nat} {w0 : World} {Q : Exit → Act → World → Prop} {al : AL} {H : HL} {ty : TypeId}
/-- The byte at a place. -/
def byteAt (s : ByteArray) (k : Nat) : Int := match s[k]? with | some b => b.toNat | none => 0
theorem r_sidx {x i : Operand} {t : TypeId} {kd : IntKind} {s : ByteArray} {iv : Int} (hx : ev al x = some (.string s)) (hi : ev al i = some (.int kd iv)) (hT : Str P t) (h0 : 0 ≤ iv ∧ iv < s.size) :
    Runs P N B w0 (.index t x i) ty al H (.int .u8 (byteAt s iv.toNat)) := fun a w hst => by
  have hlt : iv.toNat < s.size := by omega
  have hs : s[iv.toNat]? = some (s[iv.toNat]'hlt) := getElem?_pos s iv.toNat hlt
  simp only [execOp, hst.regs.eval hx, hst.regs.eval hi, Instr.index, Sem.run_bind, run_underlying hT, Result.andThen_ok, asIntOf, Sem.run_pure, if_pos h0.1, hs, byteAt]
theorem byteAt_bd (s : ByteArray) (k : Nat) : 0 ≤ byteAt s k ∧ byteAt s k ≤ 255 := by
  unfold byteAt
  cases s[k]? with
  | none => simp
  | some b => have := b.toNat_lt; simp; omega
def sLt (a b : ByteArray) : Bool := Op.bytesLess a.toList b.toList
def sEq (a b : ByteArray) : Bool := a.toList == b.toList
section
variable {x y : Operand} {t t' : TypeId} {a b : ByteArray}
theorem r_seql (hx : ev al x = some (.string a)) (hy : ev al y = some (.string b)) : Runs P N B w0 (.binOp .eql t x y t') ty al H (.bool (sEq a b)) := fun s w hst => by
  simp [execOp, hst.regs.eval hx, hst.regs.eval hy, eqGuard_at_string, binOp_string_eql, sEq]
theorem r_sneq (hx : ev al x = some (.string a)) (hy : ev al y = some (.string b)) : Runs P N B w0 (.binOp .neq t x y t') ty al H (.bool (!sEq a b)) := fun s w hst => by
  simp [execOp, hst.regs.eval hx, hst.regs.eval hy, eqGuard_at_string, binOp_string_neq, sEq]
theorem r_slss (hx : ev al x = some (.string a)) (hy : ev al y = some (.string b)) : Runs P N B w0 (.binOp .lss t x y t') ty al H (.bool (sLt a b)) := fun s w hst => by
  simp [execOp, hst.regs.eval hx, hst.regs.eval hy, eqGuard_at_string, binOp_string_lss, sLt]
theorem r_sleq (hx : ev al x = some (.string a)) (hy : ev al y = some (.string b)) : Runs P N B w0 (.binOp .leq t x y t') ty al H (.bool (sLt a b || sEq a b)) := fun s w hst => by
  simp [execOp, hst.regs.eval hx, hst.regs.eval hy, eqGuard_at_string, binOp_string_leq, sLt, sEq]
end

/-! #### yield -/
/-- Operations of an iterator, yield among them. -/
def OLI (P : Program) (N : Fr) (B : Nat) (w0 : World) (ops l : List Oper) (Q : Exit → Act → World → Prop) (al : AL) (H : HL) : Prop := ∀ a w, St N B w0 al H a w → wpListIn Fence.wide 1 P ops.toArray Q l a w
variable {ops rest tail : List Oper} {d : Nat} {op : Op} {pos : String} {after : Array Edge} {v : Value}
theorem oli_nil (h : QP N B w0 Q .normal al H) : OLI P N B w0 ops [] Q al H := fun a w hst => h a w hst
theorem oli_r (hr : Runs P N B w0 op ty al H v) (hd : Nat.blt d N.n = true) (k : OLI P N B w0 ops rest Q ((d, v) :: al) H) :
    OLI P N B w0 ops ({ dst := some d, op, type := ty, pos, after, guard := none } :: rest) Q al H := by
  intro a w hst
  refine wpListIn_plain rfl fun K hK => ⟨fun f _ => trivial, ?_⟩
  have := hr a w hst
  rw [show Fence.wide.round = none from rfl, Oper.semAt_none, show execOp a.eval { dst := some d, op, type := ty, pos, after, guard := none } = execOp a.eval { dst := none, op, type := ty, pos := "", after := #[], guard := none } from rfl, this]
  exact hK _ _ (k _ _ (hst.put (by simpa using hd) v))
theorem wp_regi {id : Nat} {l : List Oper} (hy : N.y = true) (h : OLI P N B w0 l l Q al H) : WP P N B w0 (.region id l.toArray false) Q al H := fun a w hst => .inr ⟨hy, (wpIn_wide (n := 1)).1 (wpIn_region_lit (h a w hst))⟩
theorem oli_ixr {α : Type} {E : Enc α} {a : Option Addr} {n cap : Nat} {xs : List α} {s i : Operand} {t : TypeId} {kd : IntKind} {iv : Int} (hl : Rd E B w0 a n cap xs) (hs : ev al s = some (.slice a n cap)) (hi : ev al i = some (.int kd iv)) (hT : Slc P t E.size) (h0 : 0 ≤ iv ∧ iv < n) (hd : Nat.blt d N.n = true)
    (k : ∀ x, xs[iv.toNat]? = some x → OLI P N B w0 ops rest Q ((d, .pointer (a.map (·.add (iv.toNat * E.size)))) :: al) H) :
    OLI P N B w0 ops ({ dst := some d, op := .indexAddr t s i, type := ty, pos, after, guard := none } :: rest) Q al H := by
  obtain ⟨x, hx⟩ := hl.get (i := iv.toNat) (by omega)
  exact oli_r (r_ix hs hi hT (hl.isSome (by omega)) h0) hd (k x hx)
theorem oli_yield {f : Operand} {args : List Operand} {tys : Array TypeId} {l : Nat} {vs : List Value} (hf : ev al f = some (.func (.yield l) #[] #[])) (ha : evs al args = some vs) (hd : Nat.blt d N.n = true) (hN : N.y = true) (hds : N.ds = [])
    (hc : ∀ w, Below B w0 w → Sat B w H → B ≤ w.heap.size → YieldAt Fence.wide 0 P l vs.toArray w fun e w' => ∃ v, e = .returned v ∧ OLI P N w'.heap.size w' ops rest Q ((d, v) :: al) []) :
    OLI P N B w0 ops ({ dst := some d, op := .call { callee := .value f, args := args.toArray, argTypes := tys }, type := ty, pos, after, guard := none } :: rest) Q al H := by
  intro a w hst
  refine wpListIn_plain rfl fun K hK => ⟨fun f _ => trivial, ?_⟩
  obtain ⟨fn, tmps, assign, body, hy, hR⟩ := hc w hst.below hst.sat hst.base
  have hrun : (execOp a.eval { dst := some d, op := .call { callee := .value f, args := args.toArray, argTypes := tys }, type := ty, pos, after, guard := none }).run P w = .ok (.round l fn tmps assign body) w := by
    have := hst.regs.evals ha
    simp [execOp, resolve, hst.regs.eval hf, Deferred.ofValue, invoke, this, hy]
  rw [show Fence.wide.round = none from rfl, Oper.semAt_none, hrun, Oper.uponIn_round]
  refine ⟨fun h => by simp [Fence.wide] at h, hR.mono ?_⟩
  rintro e w' ⟨v, rfl, h4⟩
  exact hK _ _ (h4 _ _ ⟨hst.regs.put (by simpa using hd) v, Below.refl _ _, Sat.nil _ _, Nat.le_refl _, (fun h => by rw [hN] at h; cases h), by rw [hds]; exact MarkOk.nil _ _⟩)
/-- An iterator's loop: each round from a world of its own on. -/
theorem wp_loopI {n : Nat} {C : Nat → Prop} {c : Code} {J : Nat → World → Prop} (M : Nat → AL) (I : Nat → Prop) (μ : Nat → Nat) (k0 : Nat) (hI : I k0) (hM : Sub (M k0) al) (hJ0 : ∀ w, Below B w0 w → B ≤ w.heap.size → J k0 w)
    (round : ∀ k W, I k → J k W → ∀ K : Act → World → Prop, (∀ k' al' H' B' W', I k' → μ k' < μ k → Sub (M k') al' → (∀ w, Below B' W' w → B' ≤ w.heap.size → J k' w) → KP ⟨n, C, [], true⟩ B' W' K al' H') → WP P ⟨n, C, [], true⟩ W.heap.size W c (Exit.then K Q) (M k) []) :
    WP P ⟨n, C, [], true⟩ B w0 (.loop c) Q al H := by
  intro a w hst
  have key : ∀ m k, I k → μ k < m → ∀ a w, Regs ⟨n, C, [], true⟩ (M k) a → J k w → dloop (D true P c) Q m a w := by
    intro m
    induction m with
    | zero => intro k _ h; omega
    | succ m ih =>
      intro k hI hm a w hr hj
      refine round k w hI hj _ (fun k' al' H' B' W' hI' hμ hs hJ a' w' h' => ih k' hI' (by omega) a' w' (h'.regs.sub hs) (hJ w' h'.below h'.base)) a w ⟨hr, Below.refl _ _, Sat.nil _ _, Nat.le_refl _, (fun h => by cases h), MarkOk.nil _ _⟩
  exact ⟨μ k0 + 1, key _ k0 hI (by omega) a w (hst.regs.sub hM) (hJ0 w hst.below hst.base)⟩
/-- The head of a region of an iterator: operations that only read; the tail in its order. -/
def SLI (P : Program) (N : Fr) (B : Nat) (w0 : World) (ops l tail : List Oper) (Q : Exit → Act → World → Prop) (al : AL) (H : HL) : Prop :=
  ∀ a w, St N B w0 al H a w → wpStill P ops.toArray w (fun a' => wpListIn Fence.wide 1 P ops.toArray Q tail a' w) l a
theorem wpOpIn_of_stOp {ops : Array Oper} {i : Nat} {a : Act} {w : World} {K : Act → Prop} {K' : Act → World → Prop} (h : ∀ a, K a → K' a w) (hh : stOp P ops w i K a) : wpOpIn Fence.wide 1 P ops Q i K' a w := by
  have hp := wpOp_of_stOp (Q' := fun _ _ _ => False) (K' := fun a' w' => w' = w ∧ K a') (fun a h => ⟨rfl, h⟩) hh
  unfold wpOp at hp
  unfold wpOpIn
  split
  · rename_i ho; simp only [ho] at hp; exact h _ hp.2
  · rename_i o ho
    simp only [ho] at hp
    split
    · rename_i hw
      simp only [hw, if_true] at hp
      rcases hp with hp | ⟨_, a1, w1, hp⟩
      · refine ⟨fun f _ => trivial, ?_⟩
        rw [show Fence.wide.round = none from rfl, Oper.semAt_none]
        unfold Oper.wp at hp
        generalize (execOp a.eval o).run P w = r at *
        cases r with
        | ok x w' =>
          cases x with
          | value v => obtain ⟨rfl, hk⟩ := hp; exact h _ hk
          | skip => obtain ⟨rfl, hk⟩ := hp; exact h _ hk
          | defer d => obtain ⟨rfl, hk⟩ := hp; exact h _ hk
          | enter f args =>
            refine ⟨fun h => by simp [Fence.wide] at h, (callsIn_wide.2 hp).mono fun e w'' he => ?_⟩
            cases e with
            | returned v => obtain ⟨rfl, hk⟩ := he; exact h _ hk
            | panicked c => exact he.elim
            | outgrown => obtain ⟨a, w, he⟩ := he; exact he.elim
          | row r args => exact ⟨fun h => by simp [Fence.wide] at h, fun c cs _ => by obtain ⟨v, w', ⟨rfl, hk⟩, s⟩ := hp c cs; exact ⟨v, _, h _ hk, stepsIn_wide.2 s⟩⟩
          | _ => exact (hp : False).elim
        | halt x w' =>
          cases x with
          | panic v => exact (hp : False).elim
          | _ => exact (hp : False).elim
      · exact hp.elim
    · rename_i hw
      simp only [hw] at hp
      exact ⟨fun f _ => trivial, h _ hp.2⟩
theorem wpAnyIn_of_head {ops : Array Oper} {n g : Nat} {w : World} {L : Array Bool → Act → Prop} (hL : ∀ listed a, L listed a → wpAnyIn Fence.wide 1 P .any ops Q g listed a w) :
    ∀ (f : Nat) (listed : Array Bool) (a : Act), wpAnyL P .any ops w n L f listed a → wpAnyIn Fence.wide 1 P .any ops Q (f + g) listed a w
  | 0, listed, a, h => by rw [Nat.zero_add]; exact hL _ _ h
  | f + 1, listed, a, h => by
    rw [show f + 1 + g = (f + g) + 1 by omega]
    exact ⟨fun h0 => absurd h0 h.1, fun i hi => wpOpIn_of_stOp (fun a' h' => wpAnyIn_of_head hL f _ a' h') (h.2 i hi).2⟩
theorem wpAnyIn_of_seq {ops : Array Oper} : ∀ (l : List Oper) (k : Nat) (listed : Array Bool) (a : Act) (w : World), (∀ j, l[j]? = ops[k + j]?) →
    Region.seqB .any ops l.length k listed = true → wpListIn Fence.wide 1 P ops Q l a w → wpAnyIn Fence.wide 1 P .any ops Q l.length listed a w
  | [], _, _, _, _, _, hB, h => ⟨by simpa [Region.seqB] using hB, h⟩
  | o :: l, k, listed, a, w, hl, hB, h => by
    have h0 : ops[k]? = some o := by simpa using (hl 0).symm
    simp only [List.length_cons, Region.seqB, Bool.and_eq_true, decide_eq_true_eq] at hB
    refine ⟨fun h1 => (by rw [hB.1] at h1; cases h1), fun i hi => ?_⟩
    rw [hB.1] at hi
    have hik : i = k := by simpa using hi
    subst hik
    have hw : wpOpIn Fence.wide 1 P ops Q i (wpListIn Fence.wide 1 P ops Q l) a w := by unfold wpOpIn; simp only [h0]; exact h
    exact wpOpIn_mono (fun a' w' h' => wpAnyIn_of_seq l (i + 1) _ a' w' (fun j => by have := hl (j + 1); simpa [Nat.add_assoc, Nat.add_comm 1 j] using this) hB.2 h') hw
theorem wp_regti (n : Nat) {id : Nat} {l : List Oper} (hy : N.y = true) (hm : P.follows .mixedOrders = true) (hB : Region.lexTailB .any l.toArray n = true)
    (h : SLI P N B w0 l (l.take n) (l.drop n) Q al H) : WP P N B w0 (.region id l.toArray true) Q al H := by
  intro a w hst
  refine .inr ⟨hy, (wpIn_wide (n := 1)).1 (wpIn_region_any hm ?_)⟩
  have hw := h a _ hst.drew
  simp only [Region.lexTailB, Bool.and_eq_true, decide_eq_true_eq] at hB
  obtain ⟨⟨⟨⟨h1, h2⟩, h3⟩, h4⟩, h5⟩ := hB
  have e1 : n < l.length := by simpa using h2
  have e2 : (l.take n).length = n := by simp; omega
  have e3 : (l.drop n).length = l.toArray.size - n := by simp
  have hh := wpAnyL_lex (md := .any) (g := l.toArray.size - n) h1 h3 h4 h2 (l.take n) 0 (Array.replicate l.toArray.size false) a (fun j hj => by
      have : j < n := by rw [e2] at hj; exact hj
      simp [this]) (by simpa using e2)
    ⟨by simp, fun j oj _ hl => (by rw [getD_replicate_false] at hl; cases hl), fun t _ ht => getD_in (by simpa using ht) (getD_replicate_false _ _)⟩ (by rw [e2]; exact h5) hw
  have := wpAnyIn_of_head (Q := Q) (g := l.toArray.size - n) (fun listed a' hL => by
    have := wpAnyIn_of_seq (Q := Q) (l.drop n) n listed a' { w with drawn := w.drawn + 1 } (fun j => by simp [List.getElem?_drop]) (by rw [e3]; exact hL.1) hL.2
    rwa [e3] at this) _ _ _ hh
  rw [e2, show n + (l.toArray.size - n) = l.toArray.size by omega] at this
  exact this
theorem sli_nil (h : OLI P N B w0 ops tail Q al H) : SLI P N B w0 ops [] tail Q al H := fun a w hst => wpStill_nil (h a w hst)
theorem sli_r (hr : Runs P N B w0 op ty al H v) (hd : Nat.blt d N.n = true) (k : SLI P N B w0 ops rest tail Q ((d, v) :: al) H) :
    SLI P N B w0 ops ({ dst := some d, op, type := ty, pos, after, guard := none } :: rest) tail Q al H := by
  intro a w hst
  refine wpStill_step fun K hK => ?_
  rw [if_pos (by rfl)]
  unfold Oper.still
  rw [show execOp a.eval { dst := some d, op, type := ty, pos, after, guard := none } = execOp a.eval { dst := none, op, type := ty, pos := "", after := #[], guard := none } from rfl, hr a w hst]
  exact ⟨rfl, hK _ (k _ _ (hst.put (by simpa using hd) v))⟩
theorem sli_ixr {α : Type} {E : Enc α} {a : Option Addr} {n cap : Nat} {xs : List α} {s i : Operand} {t : TypeId} {kd : IntKind} {iv : Int} (hl : Rd E B w0 a n cap xs) (hs : ev al s = some (.slice a n cap)) (hi : ev al i = some (.int kd iv)) (hT : Slc P t E.size) (h0 : 0 ≤ iv ∧ iv < n) (hd : Nat.blt d N.n = true)
    (k : ∀ x, xs[iv.toNat]? = some x → SLI P N B w0 ops rest tail Q ((d, .pointer (a.map (·.add (iv.toNat * E.size)))) :: al) H) :
    SLI P N B w0 ops ({ dst := some d, op := .indexAddr t s i, type := ty, pos, after, guard := none } :: rest) tail Q al H := by
  obtain ⟨x, hx⟩ := hl.get (i := iv.toNat) (by omega)
  exact sli_r (r_ix hs hi hT (hl.isSome (by omega)) h0) hd (k x hx)
/-- The end of an iterator. -/
def EndsI (P : Program) (N : Fr) (R : World → Prop) (Q : Exit → Act → World → Prop) : Prop :=
  ∀ B w0 e al H, (e = .ret ∨ e = .normal) → (∀ w, Below B w0 w → Sat B w H → B ≤ w.heap.size → R w) → QP N B w0 Q e al H
theorem EndsI.fall {R : World → Prop} {Q0 : Exit → Act → World → Prop} (h : EndsI P N R Q0) (hQ : ∀ a w, Q0 .normal a w → Q .normal a w) (hR : ∀ w, Below B w0 w → Sat B w H → B ≤ w.heap.size → R w) : QP N B w0 Q .normal al H := QP.of (h _ _ _ _ _ (.inr rfl) hR) hQ
theorem EndsI.ret {R : World → Prop} {Q0 : Exit → Act → World → Prop} (h : EndsI P N R Q0) (hQ : ∀ a w, Q0 .ret a w → Q .ret a w) (hR : ∀ w, Below B w0 w → Sat B w H → B ≤ w.heap.size → R w) : WP P N B w0 .ret Q al H := wp_ret' (QP.of (h _ _ _ _ _ (.inl rfl) hR) hQ)
theorem enterI {n : Nat} {f : FuncId} {fn : Func} {c : Code} {args : List Value} {w : World} {R : World → Prop} (hf : P.funcs[f]? = some fn) (hb : fn.body = some c) (hn : fn.ntmps = n) (hres : fn.results = #[]) (hl : Nat.ble args.length n = true)
    (h : ∀ Q, EndsI P ⟨n, fun _ => True, [], true⟩ R Q → WP P ⟨n, fun _ => True, [], true⟩ w.heap.size w c Q (pairs 0 args) []) : CallsIn Fence.wide 0 P f args.toArray w fun e w' => (∃ v, e = .returned v) ∧ R w' := by
  refine callsIn_of_wp hf hb trivial (wpIn_wide.2 (D.wp _ _ _ _ _ (h (bodyPost P fn fun e w' => (∃ v, e = .returned v) ∧ R w') ?_ _ _ ⟨⟨rfl, ?_, fun n v hv => ?_⟩, Below.refl _ _, Sat.nil _ _, Nat.le_refl _, (fun h => by cases h), MarkOk.nil _ _⟩))) rfl
  · intro B w0 e al H he hR a w' hst
    have hres' : (results fn a.tmps).run P w' = .ok (.tuple #[]) w' := by simp [results, hres]
    have hd : a.defers = [] := hst.regs.defers
    rcases he with rfl | rfl <;> exact ⟨hd, _, hres', ⟨_, rfl⟩, hR w' hst.below hst.sat hst.base⟩
  · have : args.length ≤ n := by simpa using hl
    simp [hn]; omega
  · have := look_pairs hv
    simp only [Nat.sub_zero] at this
    have h2 := (List.getElem?_eq_some_iff.1 this.2).1
    rw [Array.getElem?_append_left (by simpa using h2)]
    simpa using this.2
end
end Go.Proofs.Ytfbmkepogcimlaa.Hx

/-
  Activities as plain data, and what makes one right. No program stands here.
-/


namespace Go.Proofs.Ytfbmkepogcimlaa
open Hx
set_option linter.unusedVariables false
structure SmpR where
  at_ : Int
  x : Int
  y : Int
  z : Int
  pulse : Int
  power : Int
  steps : Int
structure LapR where
  from_ : Int
  to : Int
  name : ByteArray
/-- What is wrong with the first element with which something is wrong; f sees the element ahead, too. -/
def chkE {α : Type} (f : Option α → α → Int) : Option α → List α → Int
  | _, [] => 0
  | p, x :: r => if f p x ≠ 0 then f p x else chkE f (some x) r
section
variable {α : Type} {f : Option α → α → Int} {xs : List α} {k : Nat} {x : α} {p : Option α} {R c : Int}
theorem chkE_cons (p : Option α) (x : α) (r : List α) : chkE f p (x :: r) = if f p x ≠ 0 then f p x else chkE f (some x) r := rfl
theorem chkE_bad (hP : R = chkE f (ahead xs k) (xs.drop k)) (hx : xs[k]? = some x) (h : f (ahead xs k) x = c) (hc : c ≠ 0) : R = c := by
  rw [hP, drop_cons_get hx, chkE_cons, h, if_pos hc]
theorem chkE_next (hP : R = chkE f (ahead xs k) (xs.drop k)) (hx : xs[k]? = some x) (h : f (ahead xs k) x = 0) : R = chkE f (ahead xs (k + 1)) (xs.drop (k + 1)) := by
  rw [hP, drop_cons_get hx, chkE_cons, h, if_neg (by simp), ahead_succ hx]
theorem chkE_end (hP : R = chkE f (ahead xs k) (xs.drop k)) (hk : xs.length ≤ k) : R = 0 := by rw [hP, List.drop_eq_nil_of_le hk]; rfl
theorem chkE_all : ∀ (k : Nat) (xs : List α) (p : Option α), chkE f p xs = 0 → ∀ x, xs[k]? = some x → f (if k = 0 then p else xs[k - 1]?) x = 0
  | _, [], _, _, x, hx => by simp at hx
  | 0, y :: r, p, h, x, hx => by
    simp at hx; subst hx
    rw [chkE_cons] at h
    by_cases h1 : f p y ≠ 0
    · rw [if_pos h1] at h; exact absurd h h1
    · simpa using h1
  | k + 1, y :: r, p, h, x, hx => by
    rw [chkE_cons] at h
    by_cases h1 : f p y ≠ 0
    · rw [if_pos h1] at h; exact absurd h h1
    · rw [if_neg h1] at h
      have := chkE_all k r (some y) h x (by simpa using hx)
      cases k with
      | zero => simpa using this
      | succ k => simpa using this
theorem chkE_ok (h : chkE f none xs = 0) (hx : xs[k]? = some x) : f (ahead xs k) x = 0 := chkE_all k xs none h x hx
end
theorem chkE_start {α : Type} (f : Option α → α → Int) (xs : List α) : chkE f none xs = chkE f (ahead xs 0) (xs.drop 0) := rfl
theorem ahead_none {α : Type} {xs : List α} {k : Nat} (h : (k : Int) = 0) : ahead xs k = none := by
  have : k = 0 := by omega
  subst this; rfl
def nameC (c : Int) : Bool := (decide (97 ≤ c) && decide (c ≤ 122)) || (decide (65 ≤ c) && decide (c ≤ 90)) || (decide (48 ≤ c) && decide (c ≤ 57)) || decide (c = 45) || decide (c = 95) || decide (c = 46)
theorem nameC_iff {c : Int} : nameC c = true ↔ ((97 ≤ c ∧ c ≤ 122) ∨ (65 ≤ c ∧ c ≤ 90) ∨ (48 ≤ c ∧ c ≤ 57) ∨ c = 45 ∨ c = 95 ∨ c = 46) := by
  unfold nameC
  simp only [Bool.or_eq_true, Bool.and_eq_true, decide_eq_true_eq]
  constructor <;> intro h <;> omega
theorem nameC_not {c : Int} : nameC c = false ↔ ¬((97 ≤ c ∧ c ≤ 122) ∨ (65 ≤ c ∧ c ≤ 90) ∨ (48 ≤ c ∧ c ≤ 57) ∨ c = 45 ∨ c = 95 ∨ c = 46) := by rw [← nameC_iff]; simp
theorem nn_f {c : Int} (h : (97 ≤ c ∧ c ≤ 122) ∨ (65 ≤ c ∧ c ≤ 90) ∨ (48 ≤ c ∧ c ≤ 57) ∨ c = 45 ∨ c = 95 ∨ c = 46) : false = !nameC c := by rw [nameC_iff.2 h]; rfl
theorem nn_d {c : Int} (h : ¬(97 ≤ c ∧ c ≤ 122) ∧ ¬(65 ≤ c ∧ c ≤ 90) ∧ ¬(48 ≤ c ∧ c ≤ 57) ∧ c ≠ 45 ∧ c ≠ 95) : decide (c ≠ 46) = !nameC c := by
  by_cases h1 : c = 46
  · rw [nameC_iff.2 (by omega), decide_eq_false (by omega)]; rfl
  · rw [nameC_not.2 (by omega), decide_eq_true h1]; rfl
theorem nn_e {c : Int} (h : ¬(97 ≤ c ∧ c ≤ 122) ∧ ¬(65 ≤ c ∧ c ≤ 90) ∧ ¬(48 ≤ c ∧ c ≤ 57) ∧ c ≠ 45 ∧ c ≠ 95) : (!decide (c = 46)) = !nameC c := by
  by_cases h1 : c = 46
  · rw [nameC_iff.2 (by omega), decide_eq_true h1]
  · rw [nameC_not.2 (by omega), decide_eq_false h1]
theorem up_to {P : Nat → Prop} {k : Nat} (hP : ∀ i, i < k → P i) (h : P k) : ∀ i, i < k + 1 → P i := fun i hi => by
  by_cases h1 : i < k
  · exact hP i h1
  · rw [show i = k by omega]; exact h
def bytesAll (p : Int → Bool) (s : ByteArray) : Bool := (List.range s.size).all fun i => p (byteAt s i)
theorem bytesAll_iff {p : Int → Bool} {s : ByteArray} : bytesAll p s = true ↔ ∀ i, i < s.size → p (byteAt s i) = true := by simp [bytesAll]
theorem bytesAll_not {p : Int → Bool} {s : ByteArray} {k : Nat} (hk : k < s.size) (h : p (byteAt s k) = false) : bytesAll p s = false := by
  cases hb : bytesAll p s with
  | false => rfl
  | true => rw [bytesAll_iff.1 hb k hk] at h; cases h
def nameB (s : ByteArray) : Bool := bytesAll nameC s && (decide (1 ≤ s.size) && decide (s.size ≤ 60))
def titleB (s : ByteArray) : Bool := bytesAll (fun c => inB c 32 126) s && decide (s.size ≤ 60)
def sLe (a b : ByteArray) : Bool := sLt a b || sEq a b
def smpIn (x : SmpR) : Bool := inB x.x (-100000000) 100000000 && inB x.y (-100000000) 100000000 && inB x.z (-100000) 100000 && (inB x.pulse (-1) 300 && inB x.power (-1) 3000 && inB x.steps (-1) 300)
def ordS : Option SmpR → SmpR → Bool
  | none, x => decide (x.at_ ≠ 0)
  | some y, x => decide (x.at_ ≤ y.at_)
def fS (st : Int) (p : Option SmpR) (x : SmpR) : Int := if ordS p x = true then 10 else if 1000000 < x.at_ ∨ 86399999999 < st + x.at_ ∨ smpIn x = false then 9 else 0
def ordL : Option LapR → LapR → Bool
  | none, _ => false
  | some y, x => decide (x.from_ < y.to)
def fL (sp : Int) (p : Option LapR) (x : LapR) : Int := if x.from_ < 0 ∨ x.to ≤ x.from_ ∨ sp < x.to then 9 else if ordL p x = true then 10 else if titleB x.name = false then 8 else 0
def ordT : Option ByteArray → ByteArray → Bool
  | none, _ => false
  | some y, x => sLe x y
def fT (p : Option ByteArray) (x : ByteArray) : Int := if nameB x = false then 8 else if ordT p x = true then 10 else 0
def spanL (ss : List SmpR) : Int := match ss[ss.length - 1]? with | some x => x.at_ | none => 0
theorem spanL_get {ss : List SmpR} {k : Nat} {x : SmpR} (h : ss[k]? = some x) (hk : k + 1 = ss.length) : spanL ss = x.at_ := by
  unfold spanL; rw [show ss.length - 1 = k by omega, h]
theorem spanL_nil {ss : List SmpR} (h : ss.length = 0) : spanL ss = 0 := by
  have := List.eq_nil_of_length_eq_zero h
  subst this; rfl
/-- An activity's data. -/
structure ActD where
  name : ByteArray
  sport : Int
  start : Int
  ss : List SmpR
  ls : List LapR
  ts : List ByteArray
def chkA (a : ActD) : Int :=
  if nameB a.name = false then 8 else if inB a.sport 1 5 = false then 7 else if inB a.start 0 86399999999 = false then 9
  else if 20000 < a.ss.length ∨ 200 < a.ls.length ∨ 20 < a.ts.length then 3
  else if chkE (fS a.start) none a.ss ≠ 0 then chkE (fS a.start) none a.ss
  else if chkE (fL (spanL a.ss)) none a.ls ≠ 0 then chkE (fL (spanL a.ss)) none a.ls else chkE fT none a.ts
section
variable {a : ActD}
theorem chkA_8 (h : nameB a.name = false) : chkA a = 8 := if_pos h
theorem chkA_7 (h : nameB a.name = true) (h2 : inB a.sport 1 5 = false) : chkA a = 7 := by unfold chkA; rw [if_neg (by rw [h]; simp), if_pos h2]
theorem chkA_9 (h : nameB a.name = true) (h2 : inB a.sport 1 5 = true) (h3 : inB a.start 0 86399999999 = false) : chkA a = 9 := by unfold chkA; rw [if_neg (by rw [h]; simp), if_neg (by rw [h2]; simp), if_pos h3]
theorem chkA_3 (h : nameB a.name = true) (h2 : inB a.sport 1 5 = true) (h3 : inB a.start 0 86399999999 = true) (h4 : 20000 < a.ss.length ∨ 200 < a.ls.length ∨ 20 < a.ts.length) : chkA a = 3 := by
  unfold chkA; rw [if_neg (by rw [h]; simp), if_neg (by rw [h2]; simp), if_neg (by rw [h3]; simp), if_pos h4]
/-- The numbers of an activity are right. -/
def headA (a : ActD) : Prop := nameB a.name = true ∧ inB a.sport 1 5 = true ∧ inB a.start 0 86399999999 = true ∧ a.ss.length ≤ 20000 ∧ a.ls.length ≤ 200 ∧ a.ts.length ≤ 20
theorem chkA_head (h : headA a) : chkA a = if chkE (fS a.start) none a.ss ≠ 0 then chkE (fS a.start) none a.ss
  else if chkE (fL (spanL a.ss)) none a.ls ≠ 0 then chkE (fL (spanL a.ss)) none a.ls else chkE fT none a.ts := by
  obtain ⟨h1, h2, h3, h4, h5, h6⟩ := h
  unfold chkA; rw [if_neg (by rw [h1]; simp), if_neg (by rw [h2]; simp), if_neg (by rw [h3]; simp), if_neg (by omega)]
theorem chkA_s (h : headA a) (h2 : chkE (fS a.start) none a.ss ≠ 0) : chkA a = chkE (fS a.start) none a.ss := by rw [chkA_head h, if_pos h2]
theorem chkA_l (h : headA a) (h2 : chkE (fS a.start) none a.ss = 0) (h3 : chkE (fL (spanL a.ss)) none a.ls ≠ 0) : chkA a = chkE (fL (spanL a.ss)) none a.ls := by rw [chkA_head h, if_neg (by omega), if_pos h3]
theorem chkA_t (h : headA a) (h2 : chkE (fS a.start) none a.ss = 0) (h3 : chkE (fL (spanL a.ss)) none a.ls = 0) : chkA a = chkE fT none a.ts := by rw [chkA_head h, if_neg (by omega), if_neg (by omega)]
end
/-- The samples of a right activity. -/
structure SmpOk (st : Int) (ss : List SmpR) : Prop where
  len : ss.length ≤ 20000
  first : ∀ x, ss[0]? = some x → x.at_ = 0
  rise : ∀ i x y, ss[i]? = some x → ss[i + 1]? = some y → x.at_ < y.at_
  bd : ∀ x ∈ ss, 0 ≤ x.at_ ∧ x.at_ ≤ 1000000 ∧ st + x.at_ ≤ 86399999999 ∧ (-100000000 ≤ x.x ∧ x.x ≤ 100000000) ∧ (-100000000 ≤ x.y ∧ x.y ≤ 100000000) ∧ (-100000 ≤ x.z ∧ x.z ≤ 100000) ∧ (-1 ≤ x.pulse ∧ x.pulse ≤ 300) ∧ (-1 ≤ x.power ∧ x.power ≤ 3000) ∧ (-1 ≤ x.steps ∧ x.steps ≤ 300)
theorem fS_zero {st : Int} {p : Option SmpR} {x : SmpR} (h : fS st p x = 0) : ordS p x = false ∧ x.at_ ≤ 1000000 ∧ st + x.at_ ≤ 86399999999 ∧ smpIn x = true := by
  unfold fS at h
  by_cases h1 : ordS p x = true
  · rw [if_pos h1] at h; omega
  · rw [if_neg h1] at h
    by_cases h2 : 1000000 < x.at_ ∨ 86399999999 < st + x.at_ ∨ smpIn x = false
    · rw [if_pos h2] at h; omega
    · refine ⟨by simpa using h1, by omega, by omega, ?_⟩
      cases h3 : smpIn x with
      | true => rfl
      | false => exact absurd (.inr (.inr h3)) h2
theorem smpIn_ok {x : SmpR} (h : smpIn x = true) : (-100000000 ≤ x.x ∧ x.x ≤ 100000000) ∧ (-100000000 ≤ x.y ∧ x.y ≤ 100000000) ∧ (-100000 ≤ x.z ∧ x.z ≤ 100000) ∧ (-1 ≤ x.pulse ∧ x.pulse ≤ 300) ∧ (-1 ≤ x.power ∧ x.power ≤ 3000) ∧ (-1 ≤ x.steps ∧ x.steps ≤ 300) := by
  unfold smpIn at h
  simp only [Bool.and_eq_true] at h
  exact ⟨inB_iff.1 h.1.1.1, inB_iff.1 h.1.1.2, inB_iff.1 h.1.2, inB_iff.1 h.2.1.1, inB_iff.1 h.2.1.2, inB_iff.1 h.2.2⟩
theorem chkE_pos {st : Int} {ss : List SmpR} (h : chkE (fS st) none ss = 0) : ∀ (k : Nat) (x : SmpR), ss[k]? = some x → 0 ≤ x.at_
  | 0, x, hx => by
    have := (fS_zero (chkE_ok h hx)).1
    simp only [ahead_zero, ordS, decide_eq_false_iff_not] at this
    omega
  | k + 1, x, hx => by
    have hlt : k < ss.length := by have := (List.getElem?_eq_some_iff.1 hx).1; omega
    have hy : ss[k]? = some (ss[k]'hlt) := List.getElem?_eq_getElem hlt
    have h1 := chkE_pos h k _ hy
    have h2 := (fS_zero (chkE_ok h hx)).1
    rw [ahead_succ hy] at h2
    simp only [ordS, decide_eq_false_iff_not] at h2
    omega
theorem smpOk {st : Int} {ss : List SmpR} (hl : ss.length ≤ 20000) (h : chkE (fS st) none ss = 0) : SmpOk st ss := by
  refine ⟨hl, fun x hx => ?_, fun i x y hx hy => ?_, fun x hx => ?_⟩
  · have := (fS_zero (chkE_ok h hx)).1
    simp only [ahead_zero, ordS, decide_eq_false_iff_not] at this
    omega
  · have := (fS_zero (chkE_ok h hy)).1
    rw [ahead_succ hx] at this
    simp only [ordS, decide_eq_false_iff_not] at this
    omega
  · obtain ⟨k, hk⟩ := List.getElem?_of_mem hx
    have h1 := fS_zero (chkE_ok h hk)
    exact ⟨chkE_pos h k x hk, h1.2.1, h1.2.2.1, smpIn_ok h1.2.2.2⟩
/-- What is known of a right activity. -/
structure GoodA (a : ActD) : Prop where
  head : headA a
  s : chkE (fS a.start) none a.ss = 0
  l : chkE (fL (spanL a.ss)) none a.ls = 0
  t : chkE fT none a.ts = 0
theorem goodA {a : ActD} (h : chkA a = 0) : GoodA a := by
  have hh : headA a := by
    unfold chkA at h
    by_cases h1 : nameB a.name = false
    · rw [if_pos h1] at h; omega
    · rw [if_neg h1] at h
      by_cases h2 : inB a.sport 1 5 = false
      · rw [if_pos h2] at h; omega
      · rw [if_neg h2] at h
        by_cases h3 : inB a.start 0 86399999999 = false
        · rw [if_pos h3] at h; omega
        · rw [if_neg h3] at h
          by_cases h4 : 20000 < a.ss.length ∨ 200 < a.ls.length ∨ 20 < a.ts.length
          · rw [if_pos h4] at h; omega
          · exact ⟨by simpa using h1, by simpa using h2, by simpa using h3, by omega, by omega, by omega⟩
  rw [chkA_head hh] at h
  by_cases h1 : chkE (fS a.start) none a.ss ≠ 0
  · rw [if_pos h1] at h; exact absurd h h1
  · rw [if_neg h1] at h
    by_cases h2 : chkE (fL (spanL a.ss)) none a.ls ≠ 0
    · rw [if_pos h2] at h; exact absurd h h2
    · rw [if_neg h2] at h
      exact ⟨hh, by omega, by omega, h⟩
theorem GoodA.chk {a : ActD} (h : GoodA a) : chkA a = 0 := by rw [chkA_t h.head h.s h.l, h.t]
theorem GoodA.smp {a : ActD} (h : GoodA a) : SmpOk a.start a.ss := smpOk h.head.2.2.2.1 h.s
end Go.Proofs.Ytfbmkepogcimlaa

/-
  Segments. No program stands here.
-/

namespace Go.Proofs.Ytfbmkepogcimlaa
set_option linter.unusedVariables false
structure GateR where
  ax : Int
  ay : Int
  bx : Int
  by_ : Int
def ptB (x y : Int) : Bool := inB x (-100000000) 100000000 && inB y (-100000000) 100000000
def fG (_ : Option GateR) (g : GateR) : Int := if ptB g.ax g.ay = false ∨ ptB g.bx g.by_ = false then 9 else if g.ax = g.bx ∧ g.ay = g.by_ then 2 else 0
theorem fG_9 {p : Option GateR} {g : GateR} (h : ptB g.ax g.ay = false ∨ ptB g.bx g.by_ = false) : fG p g = 9 := if_pos h
theorem fG_2 {p : Option GateR} {g : GateR} (h : ptB g.ax g.ay = true) (h2 : ptB g.bx g.by_ = true) (h3 : g.ax = g.bx ∧ g.ay = g.by_) : fG p g = 2 := by unfold fG; rw [if_neg (by simp [h, h2]), if_pos h3]
theorem fG_0 {p : Option GateR} {g : GateR} (h : ptB g.ax g.ay = true) (h2 : ptB g.bx g.by_ = true) (h3 : ¬(g.ax = g.bx ∧ g.ay = g.by_)) : fG p g = 0 := by unfold fG; rw [if_neg (by simp [h, h2]), if_neg h3]
theorem fG_inv {p : Option GateR} {g : GateR} (h : fG p g = 0) : ptB g.ax g.ay = true ∧ ptB g.bx g.by_ = true ∧ ¬(g.ax = g.bx ∧ g.ay = g.by_) := by
  unfold fG at h
  by_cases h1 : ptB g.ax g.ay = false ∨ ptB g.bx g.by_ = false
  · rw [if_pos h1] at h; omega
  · rw [if_neg h1] at h
    by_cases h2 : g.ax = g.bx ∧ g.ay = g.by_
    · rw [if_pos h2] at h; omega
    · refine ⟨?_, ?_, h2⟩
      · cases h3 : ptB g.ax g.ay with
        | true => rfl
        | false => exact absurd (.inl h3) h1
      · cases h3 : ptB g.bx g.by_ with
        | true => rfl
        | false => exact absurd (.inr h3) h1
def chkSeg (nm : ByteArray) (gs : List GateR) : Int := if nameB nm = false then 8 else if inB gs.length 2 50 = false then 3 else chkE fG none gs
theorem chkSeg_8 {nm : ByteArray} {gs : List GateR} (h : nameB nm = false) : chkSeg nm gs = 8 := if_pos h
theorem chkSeg_3 {nm : ByteArray} {gs : List GateR} (h : nameB nm = true) (h2 : inB gs.length 2 50 = false) : chkSeg nm gs = 3 := by unfold chkSeg; rw [if_neg (by simp [h]), if_pos h2]
theorem chkSeg_g {nm : ByteArray} {gs : List GateR} (h : nameB nm = true) (h2 : inB gs.length 2 50 = true) : chkSeg nm gs = chkE fG none gs := by unfold chkSeg; rw [if_neg (by simp [h]), if_neg (by simp [h2])]
theorem chkE_zero {α : Type} {f : Option α → α → Int} {xs : List α} (h : ∀ x ∈ xs, ∀ p, f p x = 0) : chkE f none xs = 0 := by
  have key : ∀ (l : List α) (p : Option α), (∀ x ∈ l, ∀ p, f p x = 0) → chkE f p l = 0 := by
    intro l
    induction l with
    | nil => intro p _; rfl
    | cons x r ih =>
      intro p h
      rw [chkE_cons, h x (by simp) p, if_neg (by simp)]
      exact ih _ fun y hy => h y (by simp [hy])
  exact key xs none h
structure SegOk (nm : ByteArray) (gs : List GateR) : Prop where
  nm : nameB nm = true
  len : 2 ≤ gs.length ∧ gs.length ≤ 50
  g : ∀ x ∈ gs, (∀ p, fG p x = 0)
theorem segOk {nm : ByteArray} {gs : List GateR} (h : chkSeg nm gs = 0) : SegOk nm gs := by
  by_cases h1 : nameB nm = true
  · by_cases h2 : inB gs.length 2 50 = true
    · rw [chkSeg_g h1 h2] at h
      refine ⟨h1, by have := inB_iff.1 h2; omega, fun x hx p => ?_⟩
      obtain ⟨k, hk⟩ := List.getElem?_of_mem hx
      exact chkE_ok h hk
    · rw [chkSeg_3 h1 (by simpa using h2)] at h; omega
  · rw [chkSeg_8 (by simpa using h1)] at h; omega
theorem SegOk.chk {nm : ByteArray} {gs : List GateR} (h : SegOk nm gs) : chkSeg nm gs = 0 := by
  rw [chkSeg_g h.nm (inB_iff.2 (by have := h.len; omega))]
  exact chkE_zero h.g
def GateR.flip (g : GateR) : GateR := ⟨g.bx, g.by_, g.ax, g.ay⟩
def turnL (gs : List GateR) : List GateR := (gs.map GateR.flip).reverse
theorem turnL_two (gs : List GateR) : turnL (turnL gs) = gs := by
  unfold turnL
  rw [List.map_reverse, List.reverse_reverse, List.map_map]
  have : ∀ g ∈ gs, (GateR.flip ∘ GateR.flip) g = g := fun g _ => rfl
  rw [List.map_congr_left this]
  simp
theorem turnL_len (gs : List GateR) : (turnL gs).length = gs.length := by simp [turnL]
theorem turn_ok {nm : ByteArray} {gs : List GateR} (h : SegOk nm gs) : SegOk nm (turnL gs) := by
  refine ⟨h.nm, by rw [turnL_len]; exact h.len, fun x hx p => ?_⟩
  unfold turnL at hx
  obtain ⟨g, hg, rfl⟩ := List.mem_map.1 (List.mem_reverse.1 hx)
  obtain ⟨h1, h2, h3⟩ := fG_inv (h.g g hg none)
  exact fG_0 h2 h1 (fun h4 => h3 ⟨h4.1.symm, h4.2.symm⟩)
def turnR (nm : ByteArray) (gs : List GateR) : ByteArray × List GateR × Int := if chkSeg nm gs ≠ 0 then (ByteArray.empty, [], chkSeg nm gs) else (nm, turnL gs, 0)
theorem turnR_e {nm : ByteArray} {gs : List GateR} (h : chkSeg nm gs ≠ 0) : turnR nm gs = (ByteArray.empty, [], chkSeg nm gs) := if_pos h
theorem turnR_0 {nm : ByteArray} {gs : List GateR} (h : chkSeg nm gs = 0) : turnR nm gs = (nm, turnL gs, 0) := if_neg (by simp [h])
/-- The first k of the gates, from the back. -/
def turnK (gs : List GateR) (k : Nat) : List GateR := (turnL gs).take k
theorem turnK_len {gs : List GateR} {k : Nat} (h : k ≤ gs.length) : (turnK gs k).length = k := by unfold turnK; rw [List.length_take, turnL_len]; omega
theorem turnL_get {gs : List GateR} {k : Nat} {g : GateR} (hk : k < gs.length) (h : gs[gs.length - 1 - k]? = some g) : (turnL gs)[k]? = some g.flip := by
  unfold turnL
  rw [List.getElem?_reverse (by simpa using hk), List.length_map, List.getElem?_map, h]; rfl
theorem turnK_succ {gs : List GateR} {k : Nat} {g : GateR} (hk : k < gs.length) (h : gs[gs.length - 1 - k]? = some g) : turnK gs (k + 1) = turnK gs k ++ [g.flip] := by
  unfold turnK
  rw [take_succ_get (turnL_get hk h)]
theorem turnK_all {gs : List GateR} {k : Nat} (h : gs.length ≤ k) : turnK gs k = turnL gs := List.take_of_length_le (by rw [turnL_len]; exact h)
/-- What Backward yields. -/
def backP (gs : List GateR) : List (Int × GateR) := (((List.range gs.length).map fun (i : Nat) => (i : Int)).zip gs).reverse
theorem backP_len (gs : List GateR) : (backP gs).length = gs.length := by simp [backP]
theorem backP_get {gs : List GateR} {k : Nat} {g : GateR} {v : Int} (hk : k < gs.length) (h : gs[gs.length - 1 - k]? = some g) (hv : v = ((gs.length - 1 - k : Nat) : Int)) : (backP gs)[k]? = some (v, g) := by
  subst hv
  unfold backP
  rw [List.getElem?_reverse (by simp; omega)]
  simp only [List.length_zip, List.length_map, List.length_range, Nat.min_self]
  rw [List.getElem?_zip_eq_some]
  exact ⟨by rw [List.getElem?_map, List.getElem?_range (by omega)]; rfl, h⟩
theorem backP_inv {gs : List GateR} {k : Nat} {x : Int × GateR} (h : (backP gs)[k]? = some x) : k < gs.length ∧ gs[gs.length - 1 - k]? = some x.2 := by
  have hk : k < gs.length := by have := (List.getElem?_eq_some_iff.1 h).1; rwa [backP_len] at this
  have hg : gs[gs.length - 1 - k]? = some (gs[gs.length - 1 - k]'(by omega)) := List.getElem?_eq_getElem _
  rw [backP_get hk hg rfl] at h
  cases h
  exact ⟨hk, hg⟩
end Go.Proofs.Ytfbmkepogcimlaa

/-
  How activities lie in memory.
-/


namespace Go.Proofs.Ytfbmkepogcimlaa
open Go Go.RowKit Hx
set_option linter.unusedVariables false
def encSmp : Enc SmpR := { size := 7, cells := fun x => [.int .i64 x.at_, .int .i64 x.x, .int .i64 x.y, .int .i64 x.z, .int .i64 x.pulse, .int .i64 x.power, .int .i64 x.steps], val := fun x => .agg #[.int .i64 x.at_, .int .i64 x.x, .int .i64 x.y, .int .i64 x.z, .int .i64 x.pulse, .int .i64 x.power, .int .i64 x.steps], len := fun _ => rfl, ones := fun _ u h => (by simp at h; rcases h with h | h | h | h | h | h | h <;> subst h <;> rfl), pos := by decide, vc := fun _ => rfl }
def mk_encSample (a b c d e f g : Int) : SmpR := ⟨a, b, c, d, e, f, g⟩
theorem ty70 : Ty Try.prog 70 encSmp := .inr ⟨ag70, fun _ => rfl⟩
def encLap : Enc LapR := { size := 3, cells := fun x => [.int .i64 x.from_, .int .i64 x.to, .string x.name], val := fun x => .agg #[.int .i64 x.from_, .int .i64 x.to, .string x.name], len := fun _ => rfl, ones := fun _ u h => (by simp at h; rcases h with h | h | h <;> subst h <;> rfl), pos := by decide, vc := fun _ => rfl }
def mk_encLap (a b : Int) (c : ByteArray) : LapR := ⟨a, b, c⟩
theorem ty110 : Ty Try.prog 110 encLap := .inr ⟨ag110, fun _ => rfl⟩
def encStr : Enc ByteArray := { size := 1, cells := fun x => [.string x], val := fun x => .string x, len := fun _ => rfl, ones := fun _ u h => by simp at h; subst h; rfl, pos := by decide, vc := fun _ => rfl }
theorem ty9 : Ty Try.prog 9 encStr := .inl ⟨sc9, fun _ => rfl⟩
/-- An activity's value, and the lists that its slices read as. -/
structure ActV where
  name : ByteArray
  sport : Int
  start : Int
  sa : Option Addr
  sn : Nat
  sc : Nat
  la : Option Addr
  ln : Nat
  lc : Nat
  ta : Option Addr
  tn : Nat
  tc : Nat
  ss : List SmpR
  ls : List LapR
  ts : List ByteArray
def ActV.d (v : ActV) : ActD := ⟨v.name, v.sport, v.start, v.ss, v.ls, v.ts⟩
def maxS : Nat := 9223372036854775807
structure ActV.Ok (C : Nat) (w : World) (v : ActV) : Prop where
  s : Rd encSmp C w v.sa v.sn v.sc v.ss
  l : Rd encLap C w v.la v.ln v.lc v.ls
  t : Rd encStr C w v.ta v.tn v.tc v.ts
  nm : v.name.size ≤ 9223372036854775807
  lm : ∀ x ∈ v.ls, x.name.size ≤ 9223372036854775807
  tm : ∀ x ∈ v.ts, x.size ≤ 9223372036854775807
  lo : ∀ x ∈ v.ss, -9223372036854775808 ≤ x.at_ ∧ x.at_ ≤ 9223372036854775807
theorem ActV.Ok.at {B : Nat} {w0 w : World} {v : ActV} (h : v.Ok B w0) (hb : Below B w0 w) (hB : B ≤ w.heap.size) : v.Ok w.heap.size w := ⟨h.s.at hb hB, h.l.at hb hB, h.t.at hb hB, h.nm, h.lm, h.tm, h.lo⟩
theorem ActV.Ok.below {B : Nat} {w0 w : World} {v : ActV} (h : v.Ok B w0) (hb : Below B w0 w) : v.Ok B w := ⟨h.s.below hb, h.l.below hb, h.t.below hb, h.nm, h.lm, h.tm, h.lo⟩
end Go.Proofs.Ytfbmkepogcimlaa

/-
  More rules: an append of a whole slice to none.
-/


namespace Go.Proofs.Ytfbmkepogcimlaa.Hx
open Go Go.RowKit
set_option linter.unusedVariables false
set_option linter.unusedSimpArgs false
section
variable {P : Program} {N : Fr} {B : Nat} {w0 : World} {Q : Exit → Act → World → Prop} {al : AL} {H : HL} {ops rest : List Oper} {d : Nat} {ty : TypeId} {pos : String} {after : Array Edge}
theorem r_append_nn {s x : Operand} {t e : TypeId} {size bytes c : Nat} (hs : ev al s = some (.slice none 0 0)) (hx : ev al x = some (.slice none 0 c)) (hT : RowT P t e size bytes) :
    Runs P N B w0 (.call { callee := .builtin .append, args := #[s, x], argTypes := #[t, t] }) ty al H (.slice none 0 0) := fun a w hst => by
  obtain ⟨hu, i, z, hi, hz, hsz, hby, hzz, hpos⟩ := hT
  simp [BigFrame.execOp_builtin, BigFrame.builtin_append, hst.regs.eval hs, hst.regs.eval hx, Builtin.append_, run_underlying hu, sizeOf, typeInfo, hi, Builtin.lenOf, Builtin.firstCells]
/-- A loop, its rounds one by one. -/
theorem wp_seq_cutM {x y : Code} {σ : Type} (I : σ → Prop) (M : σ → AL) (L : AL) (G : σ → HL) (G0 : HL) (hL : Sub L al) (hh0 : SubH G0 H)
    (hx : ∀ K : Act → World → Prop, (∀ s al' H', I s → Sub (M s) al' → Sub L al' → SubH (G s) H' → SubH G0 H' → KP N B w0 K al' H') → WP P N B w0 x (Exit.then K Q) al H)
    (hy : ∀ s, I s → WP P N B w0 y Q (M s ++ L) (G s ++ G0)) : WP P N B w0 (.seq x y) Q al H :=
  wp_seq_cut I (fun s => M s ++ L) (fun s => G s ++ G0) (fun K hK => hx K fun s al' H' h1 h2 h3 h4 h5 => (hK s h1).sub (sub_app h2 h3) (subH_app h4 h5)) hy
theorem wp_unroll {c : Code} (n : Nat) (h : KP N B w0 (dloop (D N.y P c) Q n) al H) : WP P N B w0 (.loop c) Q al H := fun a w hst => ⟨n, h a w hst⟩
theorem kp_unroll {c : Code} {n : Nat} (h : ∀ K : Act → World → Prop, (∀ al' H', KP N B w0 (dloop (D N.y P c) Q n) al' H' → KP N B w0 K al' H') → WP P N B w0 c (Exit.then K Q) al H) : KP N B w0 (dloop (D N.y P c) Q (n + 1)) al H :=
  h _ (fun _ _ h => h)
theorem look_shadow {β : Type} (id : Nat) (x y : β) (H : List (Nat × β)) (j : Nat) : look ((id, x) :: (id, y) :: H) j = look ((id, x) :: H) j := by
  by_cases h : id = j
  · subst h; rw [look_cons_eq, look_cons_eq]
  · rw [look_cons_ne _ _ h, look_cons_ne _ _ h, look_cons_ne _ _ h]
theorem Sat.shadow {w : World} {id : Nat} {x y : Ent} (h : Sat B w ((id, x) :: (id, y) :: H)) : Sat B w ((id, x) :: H) :=
  ⟨fun i e he => h.ok i e (by rw [look_shadow]; exact he), fun i j e f hij he hf => h.apart i j e f hij (by rw [look_shadow]; exact he) (by rw [look_shadow]; exact hf)⟩
/-- What H' tells, H tells under other numbers. -/
def Keyed (H : HL) (ks : List (Nat × Nat)) (H' : HL) : Prop := ∀ j e, look H' j = some e → ∃ i, (i, j) ∈ ks ∧ look H i = some e
theorem keyed_nil : Keyed H [] [] := fun j e h => by simp [look] at h
theorem keyed_cons {i k : Nat} {e : Ent} {ks : List (Nat × Nat)} {H' : HL} (h : look H i = some e) (hk : Keyed H ks H') : Keyed H ((i, k) :: ks) ((k, e) :: H') := fun j f hj => by
  by_cases hkj : k = j
  · subst hkj; rw [look_cons_eq] at hj; cases hj; exact ⟨i, by simp, h⟩
  · rw [look_cons_ne _ _ hkj] at hj
    obtain ⟨i', h1, h2⟩ := hk j f hj
    exact ⟨i', by simp [h1], h2⟩
theorem Sat.keys {w : World} {H' : HL} (h : Sat B w H) (ks : List (Nat × Nat)) (hk : Keyed H ks H') (hd : ∀ p ∈ ks, ∀ q ∈ ks, p.1 = q.1 → p.2 = q.2) : Sat B w H' :=
  ⟨fun j e he => by obtain ⟨i, _, h2⟩ := hk j e he; exact h.ok i e h2, fun j j' e f hj he hf => by
    obtain ⟨i, a1, a2⟩ := hk j e he
    obtain ⟨i', b1, b2⟩ := hk j' f hf
    exact h.apart i i' e f (fun hii => hj (hd _ a1 _ b1 hii)) a2 b2⟩
theorem ol_appendN {s x : Operand} {m c : Nat} {ad : Option Addr} {t e : TypeId} {size bytes : Nat} {α : Type} (E : Enc α) {ys : List α} (id : Nat) (hs : ev al s = some (.slice none 0 0)) (hx : ev al x = some (.slice ad m c)) (hl : Rd E B w0 ad m c ys)
    (hz : size = E.size) (hT : RowT P t e size bytes) (hb : m ≤ 9223372036854775807 ∧ m * bytes ≤ 140737488355328) (hd : Nat.blt d N.n = true)
    (k : ∀ a' cap', OL P N B w0 ops rest Q ((d, .slice a' m cap') :: al) ((id, .row a' m cap' (E.enc ys) e size) :: H)) :
    OL P N B w0 ops ({ dst := some d, op := .call { callee := .builtin .append, args := #[s, x], argTypes := #[t, t] }, type := ty, pos, after, guard := none } :: rest) Q al H := by
  have hlen := hl.len
  cases ad with
  | none =>
    have hm : m = 0 := by
      cases m with
      | zero => rfl
      | succ m => have := hl.isSome (by omega); simp at this
    subst hm
    have hys : ys = [] := List.eq_nil_of_length_eq_zero hlen
    subst hys
    exact ol_r (r_append_nn hs hx hT) hd (ol_nilrow id e size (k none 0))
  | some p =>
    refine ol_nilrow id e size ?_
    refine ol_append (id := id) (news := E.enc ys) hs (look_cons_eq ..) hx hT (by rw [Enc.enc_len, hlen, hz]) (E.ones_enc ys) (fun w1 hb1 hs1 hB1 => ⟨p, rfl, (hl.below hb1).flat rfl⟩) (by simpa using hb) hd fun a' c' => ?_
    have h := k a' c'
    simp only [Nat.zero_add, List.nil_append]
    exact fun a w hst => h a w (hst.step hst.regs hst.below (Sat.shadow hst.sat) hst.base (Kd.refl _ _))
end
end Go.Proofs.Ytfbmkepogcimlaa.Hx

/-
  Names, titles, Check, Span: program and reference.
-/


namespace Go.Proofs.Ytfbmkepogcimlaa
open Go Go.RowKit Hx
set_option linter.unusedVariables false
set_option linter.unusedSimpArgs false
set_option maxRecDepth 8000
theorem record_in (n a b : Int) (w : World) : Calls Try.prog 45 #[.int .i64 n, .int .i64 a, .int .i64 b] w fun e w' => e = .returned (.bool (inB n a b)) ∧ Below w.heap.size w w' := by
  refine enterQ (N := 15) (C := fun _ => True) (H := []) (B := w.heap.size) (args := [_, _, _]) Try.func45 rfl rfl rfl (Nat.le_refl _) (Sat.nil _ _) fun Q hQ => ?_
  refine wp_seq' fun K1 hK1 => ?_
  refine wp_reg ?_
  refine ol_r (r_assign rfl) rfl ?_
  refine ol_nil (to_k0 (fun _ _ h => h) (hK1 _ _ _ _ _ ?_))
  clear hK1
  refine wp_seq' fun K2 hK2 => ?_
  refine wp_reg ?_
  refine ol_r (r_move rfl) rfl ?_
  refine ol_r (r_move rfl) rfl ?_
  refine ol_r (r_geq rfl rfl) rfl ?_
  refine ol_r (r_move rfl) rfl ?_
  refine ol_split (d := 10) rfl (fun hs10 => ?_) (fun hs10 => ?_)
  ·have phs10 := hs10; try simp only [decide_eq_true_eq, decide_eq_false_iff_not, Bool.not_eq_true', Bool.not_eq_false', Bool.not_true, Bool.not_false] at phs10
   refine ol_g rfl rfl hs10 ?_
   refine ol_r (r_move rfl) rfl ?_
   refine ol_g rfl rfl hs10 ?_
   refine ol_r (r_move rfl) rfl ?_
   refine ol_g rfl rfl hs10 ?_
   refine ol_r (r_leq rfl rfl) rfl ?_
   refine ol_r (r_pickT rfl hs10 rfl) rfl ?_
   refine ol_r (r_assign rfl) rfl ?_
   refine ol_nil (to_k0 (fun _ _ h => h) (hK2 _ _ _ _ _ ?_))
   clear hK2
   refine hQ.ret (rvs1 (rv_t rfl)) (fun _ _ h => h) fun w hb hs hB hkd => ?_
   exact ⟨by simp [inB, hs10], hb⟩
  ·have phs10 := hs10; try simp only [decide_eq_true_eq, decide_eq_false_iff_not, Bool.not_eq_true', Bool.not_eq_false', Bool.not_true, Bool.not_false] at phs10
   refine ol_s rfl rfl hs10 rfl ?_
   refine ol_s rfl rfl hs10 rfl ?_
   refine ol_s rfl rfl hs10 rfl ?_
   refine ol_r (r_pickF rfl hs10 rfl) rfl ?_
   refine ol_r (r_assign rfl) rfl ?_
   refine ol_nil (to_k0 (fun _ _ h => h) (hK2 _ _ _ _ _ ?_))
   clear hK2
   refine hQ.ret (rvs1 (rv_t rfl)) (fun _ _ h => h) fun w hb hs hB hkd => ?_
   exact ⟨by simp [inB, hs10], hb⟩
theorem quant_isDigit (c : Int) (w : World) : Calls Try.prog 65 #[.int .u8 c] w fun e w' => e = .returned (.bool (decide (48 ≤ c ∧ c ≤ 57))) ∧ Below w.heap.size w w' := by
  refine enterQ (N := 9) (C := fun _ => True) (H := []) (B := w.heap.size) (args := [_]) Try.func65 rfl rfl rfl (Nat.le_refl _) (Sat.nil _ _) fun Q hQ => ?_
  refine wp_seq' fun K1 hK1 => ?_
  refine wp_reg ?_
  refine ol_r (r_assign rfl) rfl ?_
  refine ol_nil (to_k0 (fun _ _ h => h) (hK1 _ _ _ _ _ ?_))
  clear hK1
  refine wp_seq' fun K2 hK2 => ?_
  refine wp_reg ?_
  refine ol_r (r_move rfl) rfl ?_
  refine ol_r (r_geq rfl rfl) rfl ?_
  refine ol_r (r_move rfl) rfl ?_
  refine ol_split (d := 5) rfl (fun hs5 => ?_) (fun hs5 => ?_)
  ·have phs5 := hs5; try simp only [decide_eq_true_eq, decide_eq_false_iff_not, Bool.not_eq_true', Bool.not_eq_false', Bool.not_true, Bool.not_false] at phs5
   refine ol_g rfl rfl hs5 ?_
   refine ol_r (r_move rfl) rfl ?_
   refine ol_g rfl rfl hs5 ?_
   refine ol_r (r_leq rfl rfl) rfl ?_
   refine ol_r (r_pickT rfl hs5 rfl) rfl ?_
   refine ol_r (r_assign rfl) rfl ?_
   refine ol_nil (to_k0 (fun _ _ h => h) (hK2 _ _ _ _ _ ?_))
   clear hK2
   refine hQ.ret (rvs1 (rv_t rfl)) (fun _ _ h => h) fun w hb hs hB hkd => ?_
   first
     | exact ⟨congrArg (fun b => Ending.returned (Value.bool b)) (decide_eq_decide.2 (by omega)), hb⟩
  ·have phs5 := hs5; try simp only [decide_eq_true_eq, decide_eq_false_iff_not, Bool.not_eq_true', Bool.not_eq_false', Bool.not_true, Bool.not_false] at phs5
   refine ol_s rfl rfl hs5 rfl ?_
   refine ol_s rfl rfl hs5 rfl ?_
   refine ol_r (r_pickF rfl hs5 rfl) rfl ?_
   refine ol_r (r_assign rfl) rfl ?_
   refine ol_nil (to_k0 (fun _ _ h => h) (hK2 _ _ _ _ _ ?_))
   clear hK2
   refine hQ.ret (rvs1 (rv_t rfl)) (fun _ _ h => h) fun w hb hs hB hkd => ?_
   first
     | exact ⟨congrArg (fun b => Ending.returned (Value.bool b)) (decide_eq_false (by omega)).symm, hb⟩
theorem quant_IsName (q : ByteArray) (w : World) (hq0 : q.size ≤ 9223372036854775807) : Calls Try.prog 32 #[.string q] w fun e w' => e = .returned (.bool (nameB q)) ∧ Below w.heap.size w w' := by
  refine enterQ (N := 56) (C := fun _ => True) (H := []) (B := w.heap.size) (args := [_]) Try.func32 rfl rfl rfl (Nat.le_refl _) (Sat.nil _ _) fun Q hQ => ?_
  refine wp_seq' fun K1 hK1 => ?_
  refine wp_reg ?_
  refine ol_r (r_assign rfl) rfl ?_
  refine ol_nil (to_k0 (fun _ _ h => h) (hK1 _ _ _ _ _ ?_))
  clear hK1
  refine wp_seq' fun K2 hK2 => ?_
  refine wp_seq' fun K3 hK3 => ?_
  refine wp_reg ?_
  refine ol_r (r_move rfl) rfl ?_
  refine ol_r (r_lens rfl st9) rfl ?_
  refine ol_r (r_move rfl) rfl ?_
  refine ol_nil (to_k0 (fun _ _ h => h) (hK3 _ _ _ _ _ ?_))
  clear hK3
  refine wp_block' ?_
  apply wp_loopM (σ := Nat) (fun s => s ≤ q.size ∧ ∀ i, i < s → nameC (byteAt q i) = true) (fun s => [(8, .int .i64 s)]) [(0, _), (7, _)] (fun s => []) [] (fun s => q.size - s) (0)
  ·try dsimp only
   exact ⟨Nat.zero_le _, fun i h => by omega⟩
  ·exact (sub_cons rfl sub_nil)
  ·exact (sub_cons rfl (sub_cons rfl sub_nil))
  ·exact subH_nil
  ·exact subH_nil
  ·rintro k ⟨hk, hP⟩
   intro K4 hK4
   refine wp_seq' fun K5 hK5 => ?_
   refine wp_reg ?_
   refine ol_r (r_lss rfl rfl) rfl ?_
   refine ol_nil (to_k0 (fun _ _ h => h) (hK5 _ _ _ _ _ ?_))
   clear hK5
   refine wp_seq' fun K6 hK6 => ?_
   refine wp_condD rfl (fun hc9 => ?_) (fun hc9 => ?_)
   ·refine wp_skip' (to_k0 (fun _ _ h => h) (hK6 _ _ _ _ _ ?_))
    clear hK6
    refine wp_seq' fun K7 hK7 => ?_
    refine wp_block' ?_
    refine wp_seq' fun K8 hK8 => ?_
    refine wp_reg ?_
    refine ol_r (r_move rfl) rfl ?_
    refine ol_r (r_assign rfl) rfl ?_
    refine ol_nil (to_k0 (fun _ _ h => h) (hK8 _ _ _ _ _ ?_))
    clear hK8
    refine wp_seq' fun K9 hK9 => ?_
    refine wp_reg ?_
    refine ol_r (r_move rfl) rfl ?_
    refine ol_r (r_move rfl) rfl ?_
    refine ol_r (r_sidx rfl rfl st9 (by omega)) rfl ?_
    try simp only [Int.toNat_natCast]
    refine ol_r (r_assign rfl) rfl ?_
    refine ol_nil (to_k0 (fun _ _ h => h) (hK9 _ _ _ _ _ ?_))
    clear hK9
    apply wp_seq_cutM (σ := Bool) (fun s => s = decide ((97 ≤ byteAt q k ∧ byteAt q k ≤ 122) ∨ (65 ≤ byteAt q k ∧ byteAt q k ≤ 90))) (fun s => [(5, .bool s)]) [(0, _), (4, _), (7, _), (8, _)] (fun s => []) []
    ·exact (sub_cons rfl (sub_cons rfl (sub_cons rfl (sub_cons rfl sub_nil))))
    ·exact subH_nil
    ·intro K10 hK10
     refine wp_reg ?_
     refine ol_r (r_move rfl) rfl ?_
     refine ol_r (r_geq rfl rfl) rfl ?_
     refine ol_r (r_move rfl) rfl ?_
     refine ol_split (d := 16) rfl (fun hs16 => ?_) (fun hs16 => ?_)
     ·have phs16 := hs16; try simp only [decide_eq_true_eq, decide_eq_false_iff_not, Bool.not_eq_true', Bool.not_eq_false', Bool.not_true, Bool.not_false] at phs16
      refine ol_g rfl rfl hs16 ?_
      refine ol_r (r_move rfl) rfl ?_
      refine ol_g rfl rfl hs16 ?_
      refine ol_r (r_leq rfl rfl) rfl ?_
      refine ol_r (r_pickT rfl hs16 rfl) rfl ?_
      refine ol_r (r_move rfl) rfl ?_
      refine ol_split (d := 20) rfl (fun hs20 => ?_) (fun hs20 => ?_)
      ·have phs20 := hs20; try simp only [decide_eq_true_eq, decide_eq_false_iff_not, Bool.not_eq_true', Bool.not_eq_false', Bool.not_true, Bool.not_false] at phs20
       refine ol_s rfl rfl hs20 rfl ?_
       refine ol_s rfl rfl hs20 rfl ?_
       refine ol_s rfl rfl hs20 rfl ?_
       refine ol_u rfl rfl rfl ?_
       refine ol_u rfl rfl rfl ?_
       refine ol_s rfl rfl hs20 rfl ?_
       refine ol_r (r_pickT rfl hs20 rfl) rfl ?_
       refine ol_r (r_assign rfl) rfl ?_
       refine ol_nil (to_k0 (fun _ _ h => h) (hK10 (_) _ _ ?_ (sub_cons rfl sub_nil) (sub_cons rfl (sub_cons rfl (sub_cons rfl (sub_cons rfl sub_nil)))) subH_nil subH_nil))
       try dsimp only
       first
       | exact (decide_eq_true (by omega)).symm
      ·have phs20 := hs20; try simp only [decide_eq_true_eq, decide_eq_false_iff_not, Bool.not_eq_true', Bool.not_eq_false', Bool.not_true, Bool.not_false] at phs20
       refine ol_g rfl rfl hs20 ?_
       refine ol_r (r_move rfl) rfl ?_
       refine ol_g rfl rfl hs20 ?_
       refine ol_r (r_geq rfl rfl) rfl ?_
       refine ol_g rfl rfl hs20 ?_
       refine ol_r (r_move rfl) rfl ?_
       refine ol_split (d := 23) rfl (fun hs23 => ?_) (fun hs23 => ?_)
       ·have phs23 := hs23; try simp only [decide_eq_true_eq, decide_eq_false_iff_not, Bool.not_eq_true', Bool.not_eq_false', Bool.not_true, Bool.not_false] at phs23
        refine ol_g rfl rfl hs23 ?_
        refine ol_r (r_move rfl) rfl ?_
        refine ol_g rfl rfl hs23 ?_
        refine ol_r (r_leq rfl rfl) rfl ?_
        refine ol_g rfl rfl hs20 ?_
        refine ol_r (r_pickT rfl hs23 rfl) rfl ?_
        refine ol_r (r_pickF rfl hs20 rfl) rfl ?_
        refine ol_r (r_assign rfl) rfl ?_
        refine ol_nil (to_k0 (fun _ _ h => h) (hK10 (_) _ _ ?_ (sub_cons rfl sub_nil) (sub_cons rfl (sub_cons rfl (sub_cons rfl (sub_cons rfl sub_nil)))) subH_nil subH_nil))
        try dsimp only
        first
        | exact decide_eq_decide.2 (by omega)
       ·have phs23 := hs23; try simp only [decide_eq_true_eq, decide_eq_false_iff_not, Bool.not_eq_true', Bool.not_eq_false', Bool.not_true, Bool.not_false] at phs23
        refine ol_s rfl rfl hs23 rfl ?_
        refine ol_s rfl rfl hs23 rfl ?_
        refine ol_g rfl rfl hs20 ?_
        refine ol_r (r_pickF rfl hs23 rfl) rfl ?_
        refine ol_r (r_pickF rfl hs20 rfl) rfl ?_
        refine ol_r (r_assign rfl) rfl ?_
        refine ol_nil (to_k0 (fun _ _ h => h) (hK10 (_) _ _ ?_ (sub_cons rfl sub_nil) (sub_cons rfl (sub_cons rfl (sub_cons rfl (sub_cons rfl sub_nil)))) subH_nil subH_nil))
        try dsimp only
        first
        | exact (decide_eq_false (by omega)).symm
     ·have phs16 := hs16; try simp only [decide_eq_true_eq, decide_eq_false_iff_not, Bool.not_eq_true', Bool.not_eq_false', Bool.not_true, Bool.not_false] at phs16
      refine ol_s rfl rfl hs16 rfl ?_
      refine ol_s rfl rfl hs16 rfl ?_
      refine ol_r (r_pickF rfl hs16 rfl) rfl ?_
      refine ol_r (r_move rfl) rfl ?_
      refine ol_g rfl rfl rfl ?_
      refine ol_r (r_move rfl) rfl ?_
      refine ol_g rfl rfl rfl ?_
      refine ol_r (r_geq rfl rfl) rfl ?_
      refine ol_g rfl rfl rfl ?_
      refine ol_r (r_move rfl) rfl ?_
      refine ol_split (d := 23) rfl (fun hs23 => ?_) (fun hs23 => ?_)
      ·have phs23 := hs23; try simp only [decide_eq_true_eq, decide_eq_false_iff_not, Bool.not_eq_true', Bool.not_eq_false', Bool.not_true, Bool.not_false] at phs23
       refine ol_g rfl rfl hs23 ?_
       refine ol_r (r_move rfl) rfl ?_
       refine ol_g rfl rfl hs23 ?_
       refine ol_r (r_leq rfl rfl) rfl ?_
       refine ol_g rfl rfl rfl ?_
       refine ol_r (r_pickT rfl hs23 rfl) rfl ?_
       refine ol_r (r_pickF rfl rfl rfl) rfl ?_
       refine ol_r (r_assign rfl) rfl ?_
       refine ol_nil (to_k0 (fun _ _ h => h) (hK10 (_) _ _ ?_ (sub_cons rfl sub_nil) (sub_cons rfl (sub_cons rfl (sub_cons rfl (sub_cons rfl sub_nil)))) subH_nil subH_nil))
       try dsimp only
       first
       | exact decide_eq_decide.2 (by omega)
      ·have phs23 := hs23; try simp only [decide_eq_true_eq, decide_eq_false_iff_not, Bool.not_eq_true', Bool.not_eq_false', Bool.not_true, Bool.not_false] at phs23
       refine ol_s rfl rfl hs23 rfl ?_
       refine ol_s rfl rfl hs23 rfl ?_
       refine ol_g rfl rfl rfl ?_
       refine ol_r (r_pickF rfl hs23 rfl) rfl ?_
       refine ol_r (r_pickF rfl rfl rfl) rfl ?_
       refine ol_r (r_assign rfl) rfl ?_
       refine ol_nil (to_k0 (fun _ _ h => h) (hK10 (_) _ _ ?_ (sub_cons rfl sub_nil) (sub_cons rfl (sub_cons rfl (sub_cons rfl (sub_cons rfl sub_nil)))) subH_nil subH_nil))
       try dsimp only
       first
       | exact (decide_eq_false (by omega)).symm
    ·rintro b rfl
     apply wp_seq_cutM (σ := Bool) (fun s => s = !nameC (byteAt q k)) (fun s => [(46, .bool s)]) [(0, _), (7, _), (8, _)] (fun s => []) []
     ·exact (sub_cons rfl (sub_cons rfl (sub_cons rfl sub_nil)))
     ·exact subH_nil
     ·intro K11 hK11
      refine wp_reg ?_
      refine ol_r (r_move rfl) rfl ?_
      refine ol_r (r_not rfl) rfl ?_
      refine ol_r (r_move rfl) rfl ?_
      refine ol_split (d := 30) rfl (fun hs30 => ?_) (fun hs30 => ?_)
      ·have phs30 := hs30; try simp only [decide_eq_true_eq, decide_eq_false_iff_not, Bool.not_eq_true', Bool.not_eq_false', Bool.not_true, Bool.not_false] at phs30
       refine ol_g rfl rfl hs30 ?_
       refine ol_r (r_move rfl) rfl ?_
       refine ol_g rfl rfl hs30 ?_
       refine ol_call rfl rfl cb65 rfl (fun w1 hb1 hs1 hB1 => Calls.mono (quant_isDigit _ _) ?_)
       rintro e w2 ⟨rfl, hb2⟩
       refine After.below rfl hb1 hs1 hB1 hb2 ?_
       clear hb2 hB1 hs1 hb1 w2 w1
       refine ol_g rfl rfl hs30 ?_
       refine ol_r (r_not rfl) rfl ?_
       refine ol_r (r_pickT rfl hs30 rfl) rfl ?_
       refine ol_r (r_move rfl) rfl ?_
       refine ol_split (d := 35) rfl (fun hs35 => ?_) (fun hs35 => ?_)
       ·have phs35 := hs35; try simp only [decide_eq_true_eq, decide_eq_false_iff_not, Bool.not_eq_true', Bool.not_eq_false', Bool.not_true, Bool.not_false] at phs35
        refine ol_g rfl rfl hs35 ?_
        refine ol_r (r_move rfl) rfl ?_
        refine ol_g rfl rfl hs35 ?_
        refine ol_r (r_neq rfl rfl) rfl ?_
        refine ol_r (r_pickT rfl hs35 rfl) rfl ?_
        refine ol_r (r_move rfl) rfl ?_
        refine ol_split (d := 39) rfl (fun hs39 => ?_) (fun hs39 => ?_)
        ·have phs39 := hs39; try simp only [decide_eq_true_eq, decide_eq_false_iff_not, Bool.not_eq_true', Bool.not_eq_false', Bool.not_true, Bool.not_false] at phs39
         refine ol_g rfl rfl hs39 ?_
         refine ol_r (r_move rfl) rfl ?_
         refine ol_g rfl rfl hs39 ?_
         refine ol_r (r_neq rfl rfl) rfl ?_
         refine ol_r (r_pickT rfl hs39 rfl) rfl ?_
         refine ol_r (r_move rfl) rfl ?_
         refine ol_split (d := 43) rfl (fun hs43 => ?_) (fun hs43 => ?_)
         ·have phs43 := hs43; try simp only [decide_eq_true_eq, decide_eq_false_iff_not, Bool.not_eq_true', Bool.not_eq_false', Bool.not_true, Bool.not_false] at phs43
          refine ol_g rfl rfl hs43 ?_
          refine ol_r (r_move rfl) rfl ?_
          refine ol_g rfl rfl hs43 ?_
          refine ol_r (r_neq rfl rfl) rfl ?_
          refine ol_r (r_pickT rfl hs43 rfl) rfl ?_
          refine ol_nil (to_k0 (fun _ _ h => h) (hK11 (_) _ _ ?_ (sub_cons rfl sub_nil) (sub_cons rfl (sub_cons rfl (sub_cons rfl sub_nil))) subH_nil subH_nil))
          try dsimp only
          first
          | exact nn_d (by omega)
         ·have phs43 := hs43; try simp only [decide_eq_true_eq, decide_eq_false_iff_not, Bool.not_eq_true', Bool.not_eq_false', Bool.not_true, Bool.not_false] at phs43
          refine ol_s rfl rfl hs43 rfl ?_
          refine ol_s rfl rfl hs43 rfl ?_
          refine ol_r (r_pickF rfl hs43 rfl) rfl ?_
          refine ol_nil (to_k0 (fun _ _ h => h) (hK11 (_) _ _ ?_ (sub_cons rfl sub_nil) (sub_cons rfl (sub_cons rfl (sub_cons rfl sub_nil))) subH_nil subH_nil))
          try dsimp only
          first
          | exact nn_f (by omega)
        ·have phs39 := hs39; try simp only [decide_eq_true_eq, decide_eq_false_iff_not, Bool.not_eq_true', Bool.not_eq_false', Bool.not_true, Bool.not_false] at phs39
         refine ol_s rfl rfl hs39 rfl ?_
         refine ol_s rfl rfl hs39 rfl ?_
         refine ol_r (r_pickF rfl hs39 rfl) rfl ?_
         refine ol_r (r_move rfl) rfl ?_
         refine ol_s rfl rfl rfl rfl ?_
         refine ol_s rfl rfl rfl rfl ?_
         refine ol_r (r_pickF rfl rfl rfl) rfl ?_
         refine ol_nil (to_k0 (fun _ _ h => h) (hK11 (_) _ _ ?_ (sub_cons rfl sub_nil) (sub_cons rfl (sub_cons rfl (sub_cons rfl sub_nil))) subH_nil subH_nil))
         try dsimp only
         first
         | exact nn_f (by omega)
       ·have phs35 := hs35; try simp only [decide_eq_true_eq, decide_eq_false_iff_not, Bool.not_eq_true', Bool.not_eq_false', Bool.not_true, Bool.not_false] at phs35
        refine ol_s rfl rfl hs35 rfl ?_
        refine ol_s rfl rfl hs35 rfl ?_
        refine ol_r (r_pickF rfl hs35 rfl) rfl ?_
        refine ol_r (r_move rfl) rfl ?_
        refine ol_s rfl rfl rfl rfl ?_
        refine ol_s rfl rfl rfl rfl ?_
        refine ol_r (r_pickF rfl rfl rfl) rfl ?_
        refine ol_r (r_move rfl) rfl ?_
        refine ol_s rfl rfl rfl rfl ?_
        refine ol_s rfl rfl rfl rfl ?_
        refine ol_r (r_pickF rfl rfl rfl) rfl ?_
        refine ol_nil (to_k0 (fun _ _ h => h) (hK11 (_) _ _ ?_ (sub_cons rfl sub_nil) (sub_cons rfl (sub_cons rfl (sub_cons rfl sub_nil))) subH_nil subH_nil))
        try dsimp only
        first
        | exact nn_f (by omega)
      ·have phs30 := hs30; try simp only [decide_eq_true_eq, decide_eq_false_iff_not, Bool.not_eq_true', Bool.not_eq_false', Bool.not_true, Bool.not_false] at phs30
       refine ol_s rfl rfl hs30 rfl ?_
       refine ol_s rfl rfl hs30 rfl ?_
       refine ol_s rfl rfl hs30 rfl ?_
       refine ol_r (r_pickF rfl hs30 rfl) rfl ?_
       refine ol_r (r_move rfl) rfl ?_
       refine ol_s rfl rfl rfl rfl ?_
       refine ol_s rfl rfl rfl rfl ?_
       refine ol_r (r_pickF rfl rfl rfl) rfl ?_
       refine ol_r (r_move rfl) rfl ?_
       refine ol_s rfl rfl rfl rfl ?_
       refine ol_s rfl rfl rfl rfl ?_
       refine ol_r (r_pickF rfl rfl rfl) rfl ?_
       refine ol_r (r_move rfl) rfl ?_
       refine ol_s rfl rfl rfl rfl ?_
       refine ol_s rfl rfl rfl rfl ?_
       refine ol_r (r_pickF rfl rfl rfl) rfl ?_
       refine ol_nil (to_k0 (fun _ _ h => h) (hK11 (_) _ _ ?_ (sub_cons rfl sub_nil) (sub_cons rfl (sub_cons rfl (sub_cons rfl sub_nil))) subH_nil subH_nil))
       try dsimp only
       first
       | exact nn_f (by omega)
     ·rintro b rfl
      refine wp_condNB rfl (fun hc46 => ?_) (fun hc46 => ?_)
      ·refine wp_seq' fun K12 hK12 => ?_
       refine wp_reg ?_
       refine ol_r (r_assign rfl) rfl ?_
       refine ol_nil (to_k0 (fun _ _ h => h) (hK12 _ _ _ _ _ ?_))
       clear hK12
       refine hQ.ret (rvs1 (rv_t rfl)) (fun _ _ h => h) fun w hb hs hB hkd => ?_
       first
         | (refine ⟨?_, hb⟩
            have h1 : nameC (byteAt q k) = false := hc46
            have h2 : nameB q = false := by unfold nameB; rw [bytesAll_not (by omega) h1]; rfl
            rw [h2]
            done)
      ·refine wp_skip' (to_k0 (fun _ _ h => h) (hK7 _ _ _ _ _ ?_))
       clear hK7
       refine wp_reg ?_
       refine ol_r (r_add rfl rfl (by omega)) rfl ?_
       refine ol_r (r_move rfl) rfl ?_
       refine ol_nil (to_k0 (fun _ _ h => h) (hK4 (k + 1) _ _ ?_ ?_ (sub_cons rfl sub_nil) (sub_cons rfl (sub_cons rfl sub_nil)) (by exact subH_nil) subH_nil))
       ·try dsimp only
        exact ⟨by omega, up_to hP hc46⟩
       ·try dsimp only
        omega
   ·refine wp_exit' (to_k0 (fun _ _ h => h) (hK2 _ _ _ _ _ ?_))
    clear hK2
    refine wp_seq' fun K13 hK13 => ?_
    refine wp_reg ?_
    refine ol_r (r_move rfl) rfl ?_
    refine ol_r (r_lens rfl st9) rfl ?_
    refine ol_r (r_geq rfl rfl) rfl ?_
    refine ol_r (r_move rfl) rfl ?_
    refine ol_split (d := 51) rfl (fun hs51 => ?_) (fun hs51 => ?_)
    ·have phs51 := hs51; try simp only [decide_eq_true_eq, decide_eq_false_iff_not, Bool.not_eq_true', Bool.not_eq_false', Bool.not_true, Bool.not_false] at phs51
     refine ol_g rfl rfl hs51 ?_
     refine ol_r (r_move rfl) rfl ?_
     refine ol_g rfl rfl hs51 ?_
     refine ol_r (r_lens rfl st9) rfl ?_
     refine ol_g rfl rfl hs51 ?_
     refine ol_r (r_leq rfl rfl) rfl ?_
     refine ol_r (r_pickT rfl hs51 rfl) rfl ?_
     refine ol_r (r_assign rfl) rfl ?_
     refine ol_nil (to_k0 (fun _ _ h => h) (hK13 _ _ _ _ _ ?_))
     clear hK13
     refine hQ.ret (rvs1 (rv_t rfl)) (fun _ _ h => h) fun w hb hs hB hkd => ?_
     first
       | (refine ⟨?_, hb⟩
          have h1 : bytesAll nameC q = true := bytesAll_iff.2 fun i hi => hP i (by omega)
          unfold nameB
          rw [h1]
          congr 2
          simp only [Bool.true_and]
          first
            | (rw [decide_eq_true (show 1 ≤ q.size by omega), Bool.true_and, decide_eq_decide]; omega)
            | (rw [decide_eq_false (show ¬1 ≤ q.size by omega)]; rfl))
    ·have phs51 := hs51; try simp only [decide_eq_true_eq, decide_eq_false_iff_not, Bool.not_eq_true', Bool.not_eq_false', Bool.not_true, Bool.not_false] at phs51
     refine ol_s rfl rfl hs51 rfl ?_
     refine ol_s rfl rfl hs51 rfl ?_
     refine ol_s rfl rfl hs51 rfl ?_
     refine ol_r (r_pickF rfl hs51 rfl) rfl ?_
     refine ol_r (r_assign rfl) rfl ?_
     refine ol_nil (to_k0 (fun _ _ h => h) (hK13 _ _ _ _ _ ?_))
     clear hK13
     refine hQ.ret (rvs1 (rv_t rfl)) (fun _ _ h => h) fun w hb hs hB hkd => ?_
     first
       | (refine ⟨?_, hb⟩
          have h1 : bytesAll nameC q = true := bytesAll_iff.2 fun i hi => hP i (by omega)
          unfold nameB
          rw [h1]
          congr 2
          simp only [Bool.true_and]
          first
            | (rw [decide_eq_true (show 1 ≤ q.size by omega), Bool.true_and, decide_eq_decide]; omega)
            | (rw [decide_eq_false (show ¬1 ≤ q.size by omega)]; rfl))
theorem record_IsTitle (q : ByteArray) (w : World) (hq0 : q.size ≤ 9223372036854775807) : Calls Try.prog 47 #[.string q] w fun e w' => e = .returned (.bool (titleB q)) ∧ Below w.heap.size w w' := by
  refine enterQ (N := 19) (C := fun _ => True) (H := []) (B := w.heap.size) (args := [_]) Try.func47 rfl rfl rfl (Nat.le_refl _) (Sat.nil _ _) fun Q hQ => ?_
  refine wp_seq' fun K1 hK1 => ?_
  refine wp_reg ?_
  refine ol_r (r_assign rfl) rfl ?_
  refine ol_nil (to_k0 (fun _ _ h => h) (hK1 _ _ _ _ _ ?_))
  clear hK1
  refine wp_seq' fun K2 hK2 => ?_
  refine wp_seq' fun K3 hK3 => ?_
  refine wp_reg ?_
  refine ol_r (r_move rfl) rfl ?_
  refine ol_r (r_lens rfl st9) rfl ?_
  refine ol_r (r_move rfl) rfl ?_
  refine ol_nil (to_k0 (fun _ _ h => h) (hK3 _ _ _ _ _ ?_))
  clear hK3
  refine wp_block' ?_
  apply wp_loopM (σ := Nat) (fun s => s ≤ q.size ∧ ∀ i, i < s → inB (byteAt q i) 32 126 = true) (fun s => [(6, .int .i64 s)]) [(0, _), (5, _)] (fun s => []) [] (fun s => q.size - s) (0)
  ·try dsimp only
   exact ⟨Nat.zero_le _, fun i h => by omega⟩
  ·exact (sub_cons rfl sub_nil)
  ·exact (sub_cons rfl (sub_cons rfl sub_nil))
  ·exact subH_nil
  ·exact subH_nil
  ·rintro k ⟨hk, hP⟩
   intro K4 hK4
   refine wp_seq' fun K5 hK5 => ?_
   refine wp_reg ?_
   refine ol_r (r_lss rfl rfl) rfl ?_
   refine ol_nil (to_k0 (fun _ _ h => h) (hK5 _ _ _ _ _ ?_))
   clear hK5
   refine wp_seq' fun K6 hK6 => ?_
   refine wp_condD rfl (fun hc7 => ?_) (fun hc7 => ?_)
   ·refine wp_skip' (to_k0 (fun _ _ h => h) (hK6 _ _ _ _ _ ?_))
    clear hK6
    refine wp_seq' fun K7 hK7 => ?_
    refine wp_block' ?_
    refine wp_seq' fun K8 hK8 => ?_
    refine wp_reg ?_
    refine ol_r (r_move rfl) rfl ?_
    refine ol_r (r_assign rfl) rfl ?_
    refine ol_nil (to_k0 (fun _ _ h => h) (hK8 _ _ _ _ _ ?_))
    clear hK8
    refine wp_seq' fun K9 hK9 => ?_
    refine wp_reg ?_
    refine ol_r (r_move rfl) rfl ?_
    refine ol_r (r_move rfl) rfl ?_
    refine ol_r (r_sidx rfl rfl st9 (by omega)) rfl ?_
    try simp only [Int.toNat_natCast]
    have hbb := byteAt_bd q k
    refine ol_r (r_conv (k2 := .i64) rfl (by kernel_rfl) (by kernel_rfl) (IntWalk.i64_in _ (by omega))) rfl ?_
    refine ol_call rfl rfl cb45 rfl (fun w1 hb1 hs1 hB1 => Calls.mono (record_in _ _ _ _) ?_)
    rintro e w2 ⟨rfl, hb2⟩
    refine After.below rfl hb1 hs1 hB1 hb2 ?_
    clear hb2 hB1 hs1 hb1 w2 w1
    refine ol_r (r_not rfl) rfl ?_
    refine ol_nil (to_k0 (fun _ _ h => h) (hK9 _ _ _ _ _ ?_))
    clear hK9
    refine wp_condNB rfl (fun hc14 => ?_) (fun hc14 => ?_)
    ·refine wp_seq' fun K10 hK10 => ?_
     refine wp_reg ?_
     refine ol_r (r_assign rfl) rfl ?_
     refine ol_nil (to_k0 (fun _ _ h => h) (hK10 _ _ _ _ _ ?_))
     clear hK10
     refine hQ.ret (rvs1 (rv_t rfl)) (fun _ _ h => h) fun w hb hs hB hkd => ?_
     first
       | (refine ⟨?_, hb⟩
          have h1 : inB (byteAt q k) 32 126 = false := by simpa using hc14
          have h2 : titleB q = false := by unfold titleB; rw [bytesAll_not (p := fun c => inB c 32 126) (by omega) h1]; rfl
          rw [h2]
          done)
    ·refine wp_skip' (to_k0 (fun _ _ h => h) (hK7 _ _ _ _ _ ?_))
     clear hK7
     refine wp_reg ?_
     refine ol_r (r_add rfl rfl (by omega)) rfl ?_
     refine ol_r (r_move rfl) rfl ?_
     refine ol_nil (to_k0 (fun _ _ h => h) (hK4 (k + 1) _ _ ?_ ?_ (sub_cons rfl sub_nil) (sub_cons rfl (sub_cons rfl sub_nil)) (by exact subH_nil) subH_nil))
     ·try dsimp only
      refine ⟨by omega, fun i hi => ?_⟩
      by_cases h : i < k
      · exact hP i h
      · have : i = k := by omega
        subst this
        simpa using hc14
     ·try dsimp only
      omega
   ·refine wp_exit' (to_k0 (fun _ _ h => h) (hK2 _ _ _ _ _ ?_))
    clear hK2
    refine wp_seq' fun K11 hK11 => ?_
    refine wp_reg ?_
    refine ol_r (r_move rfl) rfl ?_
    refine ol_r (r_lens rfl st9) rfl ?_
    refine ol_r (r_leq rfl rfl) rfl ?_
    refine ol_r (r_assign rfl) rfl ?_
    refine ol_nil (to_k0 (fun _ _ h => h) (hK11 _ _ _ _ _ ?_))
    clear hK11
    refine hQ.ret (rvs1 (rv_t rfl)) (fun _ _ h => h) fun w hb hs hB hkd => ?_
    first
      | (refine ⟨?_, hb⟩
         have h1 : bytesAll (fun c => inB c 32 126) q = true := bytesAll_iff.2 fun i hi => hP i (by omega)
         unfold titleB
         rw [h1, Bool.true_and]
         congr 2
         rw [decide_eq_decide]; omega)
end Go.Proofs.Ytfbmkepogcimlaa

/-
  Check and Span of activities: program and reference.
-/

namespace Go.Proofs.Ytfbmkepogcimlaa
open Go Go.RowKit Hx
set_option linter.unusedVariables false
set_option linter.unusedSimpArgs false
set_option maxRecDepth 8000
theorem record_inRange (x : SmpR) (w : World) : Calls Try.prog 46 #[.agg #[.int .i64 x.at_, .int .i64 x.x, .int .i64 x.y, .int .i64 x.z, .int .i64 x.pulse, .int .i64 x.power, .int .i64 x.steps]] w fun e w' => e = .returned (.bool (smpIn x)) ∧ Below w.heap.size w w' := by
  refine enterQ (N := 33) (C := fun _ => True) (H := []) (B := w.heap.size) (args := [_]) Try.func46 rfl rfl rfl (Nat.le_refl _) (Sat.nil _ _) fun Q hQ => ?_
  refine wp_seq' fun K1 hK1 => ?_
  refine wp_reg ?_
  refine ol_box 1 rfl rfl rfl fun b1 => ?_
  refine ol_r (r_assign rfl) rfl ?_
  refine ol_nil (to_k0 (fun _ _ h => h) (hK1 _ _ _ _ _ ?_))
  clear hK1
  refine wp_seq' fun K2 hK2 => ?_
  refine wp_reg ?_
  refine ol_r (r_fa (o' := 1) rfl fl70_1 rfl) rfl ?_
  refine ol_r (r_ld (id := 1) rfl rfl rfl sc3) rfl ?_
  refine ol_call rfl rfl cb45 rfl (fun w1 hb1 hs1 hB1 => Calls.mono (record_in _ _ _ _) ?_)
  rintro e w2 ⟨rfl, hb2⟩
  refine After.below rfl hb1 hs1 hB1 hb2 ?_
  clear hb2 hB1 hs1 hb1 w2 w1
  refine ol_r (r_move rfl) rfl ?_
  refine ol_split (d := 7) rfl (fun hs7 => ?_) (fun hs7 => ?_)
  ·have phs7 := hs7; try simp only [decide_eq_true_eq, decide_eq_false_iff_not, Bool.not_eq_true', Bool.not_eq_false', Bool.not_true, Bool.not_false] at phs7
   refine ol_g rfl rfl hs7 ?_
   refine ol_r (r_fa (o' := 2) rfl fl70_2 rfl) rfl ?_
   refine ol_g rfl rfl hs7 ?_
   refine ol_r (r_ld (id := 1) rfl rfl rfl sc3) rfl ?_
   refine ol_g rfl rfl hs7 ?_
   refine ol_call rfl rfl cb45 rfl (fun w1 hb1 hs1 hB1 => Calls.mono (record_in _ _ _ _) ?_)
   rintro e w2 ⟨rfl, hb2⟩
   refine After.below rfl hb1 hs1 hB1 hb2 ?_
   clear hb2 hB1 hs1 hb1 w2 w1
   refine ol_r (r_pickT rfl hs7 rfl) rfl ?_
   refine ol_r (r_move rfl) rfl ?_
   refine ol_split (d := 12) rfl (fun hs12 => ?_) (fun hs12 => ?_)
   ·have phs12 := hs12; try simp only [decide_eq_true_eq, decide_eq_false_iff_not, Bool.not_eq_true', Bool.not_eq_false', Bool.not_true, Bool.not_false] at phs12
    refine ol_g rfl rfl hs12 ?_
    refine ol_r (r_fa (o' := 3) rfl fl70_3 rfl) rfl ?_
    refine ol_g rfl rfl hs12 ?_
    refine ol_r (r_ld (id := 1) rfl rfl rfl sc3) rfl ?_
    refine ol_g rfl rfl hs12 ?_
    refine ol_call rfl rfl cb45 rfl (fun w1 hb1 hs1 hB1 => Calls.mono (record_in _ _ _ _) ?_)
    rintro e w2 ⟨rfl, hb2⟩
    refine After.below rfl hb1 hs1 hB1 hb2 ?_
    clear hb2 hB1 hs1 hb1 w2 w1
    refine ol_r (r_pickT rfl hs12 rfl) rfl ?_
    refine ol_r (r_assign rfl) rfl ?_
    refine ol_nil (to_k0 (fun _ _ h => h) (hK2 _ _ _ _ _ ?_))
    clear hK2
    refine wp_seq' fun K3 hK3 => ?_
    refine wp_reg ?_
    refine ol_r (r_move rfl) rfl ?_
    refine ol_r (r_move rfl) rfl ?_
    refine ol_split (d := 18) rfl (fun hs18 => ?_) (fun hs18 => ?_)
    ·have phs18 := hs18; try simp only [decide_eq_true_eq, decide_eq_false_iff_not, Bool.not_eq_true', Bool.not_eq_false', Bool.not_true, Bool.not_false] at phs18
     refine ol_g rfl rfl hs18 ?_
     refine ol_r (r_fa (o' := 4) rfl fl70_4 rfl) rfl ?_
     refine ol_g rfl rfl hs18 ?_
     refine ol_r (r_ld (id := 1) rfl rfl rfl sc3) rfl ?_
     refine ol_g rfl rfl hs18 ?_
     refine ol_call rfl rfl cb45 rfl (fun w1 hb1 hs1 hB1 => Calls.mono (record_in _ _ _ _) ?_)
     rintro e w2 ⟨rfl, hb2⟩
     refine After.below rfl hb1 hs1 hB1 hb2 ?_
     clear hb2 hB1 hs1 hb1 w2 w1
     refine ol_r (r_pickT rfl hs18 rfl) rfl ?_
     refine ol_r (r_move rfl) rfl ?_
     refine ol_split (d := 23) rfl (fun hs23 => ?_) (fun hs23 => ?_)
     ·have phs23 := hs23; try simp only [decide_eq_true_eq, decide_eq_false_iff_not, Bool.not_eq_true', Bool.not_eq_false', Bool.not_true, Bool.not_false] at phs23
      refine ol_g rfl rfl hs23 ?_
      refine ol_r (r_fa (o' := 5) rfl fl70_5 rfl) rfl ?_
      refine ol_g rfl rfl hs23 ?_
      refine ol_r (r_ld (id := 1) rfl rfl rfl sc3) rfl ?_
      refine ol_g rfl rfl hs23 ?_
      refine ol_call rfl rfl cb45 rfl (fun w1 hb1 hs1 hB1 => Calls.mono (record_in _ _ _ _) ?_)
      rintro e w2 ⟨rfl, hb2⟩
      refine After.below rfl hb1 hs1 hB1 hb2 ?_
      clear hb2 hB1 hs1 hb1 w2 w1
      refine ol_r (r_pickT rfl hs23 rfl) rfl ?_
      refine ol_r (r_move rfl) rfl ?_
      refine ol_split (d := 28) rfl (fun hs28 => ?_) (fun hs28 => ?_)
      ·have phs28 := hs28; try simp only [decide_eq_true_eq, decide_eq_false_iff_not, Bool.not_eq_true', Bool.not_eq_false', Bool.not_true, Bool.not_false] at phs28
       refine ol_g rfl rfl hs28 ?_
       refine ol_r (r_fa (o' := 6) rfl fl70_6 rfl) rfl ?_
       refine ol_g rfl rfl hs28 ?_
       refine ol_r (r_ld (id := 1) rfl rfl rfl sc3) rfl ?_
       refine ol_g rfl rfl hs28 ?_
       refine ol_call rfl rfl cb45 rfl (fun w1 hb1 hs1 hB1 => Calls.mono (record_in _ _ _ _) ?_)
       rintro e w2 ⟨rfl, hb2⟩
       refine After.below rfl hb1 hs1 hB1 hb2 ?_
       clear hb2 hB1 hs1 hb1 w2 w1
       refine ol_r (r_pickT rfl hs28 rfl) rfl ?_
       refine ol_r (r_assign rfl) rfl ?_
       refine ol_nil (to_k0 (fun _ _ h => h) (hK3 _ _ _ _ _ ?_))
       clear hK3
       refine hQ.ret (rvs1 (rv_t rfl)) (fun _ _ h => h) fun w hb hs hB hkd => ?_
       refine ⟨?_, hb⟩
       unfold smpIn
       first
         | (simp_all; done)
         | (congr 2; simp_all; done)
      ·have phs28 := hs28; try simp only [decide_eq_true_eq, decide_eq_false_iff_not, Bool.not_eq_true', Bool.not_eq_false', Bool.not_true, Bool.not_false] at phs28
       refine ol_s rfl rfl hs28 rfl ?_
       refine ol_s rfl rfl hs28 rfl ?_
       refine ol_s rfl rfl hs28 rfl ?_
       refine ol_r (r_pickF rfl hs28 rfl) rfl ?_
       refine ol_r (r_assign rfl) rfl ?_
       refine ol_nil (to_k0 (fun _ _ h => h) (hK3 _ _ _ _ _ ?_))
       clear hK3
       refine hQ.ret (rvs1 (rv_t rfl)) (fun _ _ h => h) fun w hb hs hB hkd => ?_
       refine ⟨?_, hb⟩
       unfold smpIn
       first
         | (simp_all; done)
         | (congr 2; simp_all; done)
     ·have phs23 := hs23; try simp only [decide_eq_true_eq, decide_eq_false_iff_not, Bool.not_eq_true', Bool.not_eq_false', Bool.not_true, Bool.not_false] at phs23
      refine ol_s rfl rfl hs23 rfl ?_
      refine ol_s rfl rfl hs23 rfl ?_
      refine ol_s rfl rfl hs23 rfl ?_
      refine ol_r (r_pickF rfl hs23 rfl) rfl ?_
      refine ol_r (r_move rfl) rfl ?_
      refine ol_s rfl rfl rfl rfl ?_
      refine ol_s rfl rfl rfl rfl ?_
      refine ol_s rfl rfl rfl rfl ?_
      refine ol_r (r_pickF rfl rfl rfl) rfl ?_
      refine ol_r (r_assign rfl) rfl ?_
      refine ol_nil (to_k0 (fun _ _ h => h) (hK3 _ _ _ _ _ ?_))
      clear hK3
      refine hQ.ret (rvs1 (rv_t rfl)) (fun _ _ h => h) fun w hb hs hB hkd => ?_
      refine ⟨?_, hb⟩
      unfold smpIn
      first
        | (simp_all; done)
        | (congr 2; simp_all; done)
    ·have phs18 := hs18; try simp only [decide_eq_true_eq, decide_eq_false_iff_not, Bool.not_eq_true', Bool.not_eq_false', Bool.not_true, Bool.not_false] at phs18
     refine ol_s rfl rfl hs18 rfl ?_
     refine ol_s rfl rfl hs18 rfl ?_
     refine ol_s rfl rfl hs18 rfl ?_
     refine ol_r (r_pickF rfl hs18 rfl) rfl ?_
     refine ol_r (r_move rfl) rfl ?_
     refine ol_s rfl rfl rfl rfl ?_
     refine ol_s rfl rfl rfl rfl ?_
     refine ol_s rfl rfl rfl rfl ?_
     refine ol_r (r_pickF rfl rfl rfl) rfl ?_
     refine ol_r (r_move rfl) rfl ?_
     refine ol_s rfl rfl rfl rfl ?_
     refine ol_s rfl rfl rfl rfl ?_
     refine ol_s rfl rfl rfl rfl ?_
     refine ol_r (r_pickF rfl rfl rfl) rfl ?_
     refine ol_r (r_assign rfl) rfl ?_
     refine ol_nil (to_k0 (fun _ _ h => h) (hK3 _ _ _ _ _ ?_))
     clear hK3
     refine hQ.ret (rvs1 (rv_t rfl)) (fun _ _ h => h) fun w hb hs hB hkd => ?_
     refine ⟨?_, hb⟩
     unfold smpIn
     first
       | (simp_all; done)
       | (congr 2; simp_all; done)
   ·have phs12 := hs12; try simp only [decide_eq_true_eq, decide_eq_false_iff_not, Bool.not_eq_true', Bool.not_eq_false', Bool.not_true, Bool.not_false] at phs12
    refine ol_s rfl rfl hs12 rfl ?_
    refine ol_s rfl rfl hs12 rfl ?_
    refine ol_s rfl rfl hs12 rfl ?_
    refine ol_r (r_pickF rfl hs12 rfl) rfl ?_
    refine ol_r (r_assign rfl) rfl ?_
    refine ol_nil (to_k0 (fun _ _ h => h) (hK2 _ _ _ _ _ ?_))
    clear hK2
    refine wp_seq' fun K4 hK4 => ?_
    refine wp_reg ?_
    refine ol_r (r_move rfl) rfl ?_
    refine ol_r (r_move rfl) rfl ?_
    refine ol_s rfl rfl rfl rfl ?_
    refine ol_s rfl rfl rfl rfl ?_
    refine ol_s rfl rfl rfl rfl ?_
    refine ol_r (r_pickF rfl rfl rfl) rfl ?_
    refine ol_r (r_move rfl) rfl ?_
    refine ol_s rfl rfl rfl rfl ?_
    refine ol_s rfl rfl rfl rfl ?_
    refine ol_s rfl rfl rfl rfl ?_
    refine ol_r (r_pickF rfl rfl rfl) rfl ?_
    refine ol_r (r_move rfl) rfl ?_
    refine ol_s rfl rfl rfl rfl ?_
    refine ol_s rfl rfl rfl rfl ?_
    refine ol_s rfl rfl rfl rfl ?_
    refine ol_r (r_pickF rfl rfl rfl) rfl ?_
    refine ol_r (r_assign rfl) rfl ?_
    refine ol_nil (to_k0 (fun _ _ h => h) (hK4 _ _ _ _ _ ?_))
    clear hK4
    refine hQ.ret (rvs1 (rv_t rfl)) (fun _ _ h => h) fun w hb hs hB hkd => ?_
    refine ⟨?_, hb⟩
    unfold smpIn
    first
      | (simp_all; done)
      | (congr 2; simp_all; done)
  ·have phs7 := hs7; try simp only [decide_eq_true_eq, decide_eq_false_iff_not, Bool.not_eq_true', Bool.not_eq_false', Bool.not_true, Bool.not_false] at phs7
   refine ol_s rfl rfl hs7 rfl ?_
   refine ol_s rfl rfl hs7 rfl ?_
   refine ol_s rfl rfl hs7 rfl ?_
   refine ol_r (r_pickF rfl hs7 rfl) rfl ?_
   refine ol_r (r_move rfl) rfl ?_
   refine ol_s rfl rfl rfl rfl ?_
   refine ol_s rfl rfl rfl rfl ?_
   refine ol_s rfl rfl rfl rfl ?_
   refine ol_r (r_pickF rfl rfl rfl) rfl ?_
   refine ol_r (r_assign rfl) rfl ?_
   refine ol_nil (to_k0 (fun _ _ h => h) (hK2 _ _ _ _ _ ?_))
   clear hK2
   refine wp_seq' fun K5 hK5 => ?_
   refine wp_reg ?_
   refine ol_r (r_move rfl) rfl ?_
   refine ol_r (r_move rfl) rfl ?_
   refine ol_s rfl rfl rfl rfl ?_
   refine ol_s rfl rfl rfl rfl ?_
   refine ol_s rfl rfl rfl rfl ?_
   refine ol_r (r_pickF rfl rfl rfl) rfl ?_
   refine ol_r (r_move rfl) rfl ?_
   refine ol_s rfl rfl rfl rfl ?_
   refine ol_s rfl rfl rfl rfl ?_
   refine ol_s rfl rfl rfl rfl ?_
   refine ol_r (r_pickF rfl rfl rfl) rfl ?_
   refine ol_r (r_move rfl) rfl ?_
   refine ol_s rfl rfl rfl rfl ?_
   refine ol_s rfl rfl rfl rfl ?_
   refine ol_s rfl rfl rfl rfl ?_
   refine ol_r (r_pickF rfl rfl rfl) rfl ?_
   refine ol_r (r_assign rfl) rfl ?_
   refine ol_nil (to_k0 (fun _ _ h => h) (hK5 _ _ _ _ _ ?_))
   clear hK5
   refine hQ.ret (rvs1 (rv_t rfl)) (fun _ _ h => h) fun w hb hs hB hkd => ?_
   refine ⟨?_, hb⟩
   unfold smpIn
   first
     | (simp_all; done)
     | (congr 2; simp_all; done)
theorem record_Span (A : ActV) (w : World) (hA : A.Ok w.heap.size w) : Calls Try.prog 41 #[.agg #[.string A.name, .int .i64 A.sport, .int .i64 A.start, .slice A.sa A.sn A.sc, .slice A.la A.ln A.lc, .slice A.ta A.tn A.tc]] w fun e w' => e = .returned (.int .i64 (spanL A.ss)) ∧ Below w.heap.size w w' := by
  have hn := hA.s.len
  have hfit := hA.s.fit
  refine enterQ (N := 16) (C := fun _ => True) (H := []) (B := w.heap.size) (args := [_]) Try.func41 rfl rfl rfl (Nat.le_refl _) (Sat.nil _ _) fun Q hQ => ?_
  refine wp_seq' fun K1 hK1 => ?_
  refine wp_reg ?_
  refine ol_box 1 rfl rfl rfl fun b1 => ?_
  refine ol_r (r_assign rfl) rfl ?_
  refine ol_nil (to_k0 (fun _ _ h => h) (hK1 _ _ _ _ _ ?_))
  clear hK1
  refine wp_seq' fun K2 hK2 => ?_
  refine wp_seq' fun K3 hK3 => ?_
  refine wp_reg ?_
  refine ol_r (r_fa (o' := 3) rfl fl57_3 rfl) rfl ?_
  refine ol_r (r_ld (id := 1) rfl rfl rfl sc53) rfl ?_
  refine ol_r (r_len rfl sl53) rfl ?_
  refine ol_r (r_assign rfl) rfl ?_
  refine ol_nil (to_k0 (fun _ _ h => h) (hK3 _ _ _ _ _ ?_))
  clear hK3
  refine wp_seq' fun K4 hK4 => ?_
  refine wp_reg ?_
  refine ol_r (r_move rfl) rfl ?_
  refine ol_r (r_gtr rfl rfl) rfl ?_
  refine ol_nil (to_k0 (fun _ _ h => h) (hK4 _ _ _ _ _ ?_))
  clear hK4
  refine wp_condD rfl (fun hc8 => ?_) (fun hc8 => ?_)
  ·refine wp_seq' fun K5 hK5 => ?_
   refine wp_reg ?_
   refine ol_r (r_fa (o' := 3) rfl fl57_3 rfl) rfl ?_
   refine ol_r (r_ld (id := 1) rfl rfl rfl sc53) rfl ?_
   refine ol_r (r_move rfl) rfl ?_
   refine ol_r (r_sub rfl rfl (by omega)) rfl ?_
   refine ol_ixr hA.s rfl rfl sl53 (by omega) rfl fun x13 hx13 => ?_
   try simp only [Int.toNat_natCast] at hx13
   refine ol_r (r_faw rfl (ix_some hA.s (by omega)) fl70_0) rfl ?_
   refine ol_r (r_ldw rfl (fun w1 hb1 hs1 hB1 => Rd.loadsF (o := 0) hA.s sc3 hx13 hb1 rfl)) rfl ?_
   refine ol_r (r_assign rfl) rfl ?_
   refine ol_nil (to_k0 (fun _ _ h => h) (hK5 _ _ _ _ _ ?_))
   clear hK5
   refine hQ.ret (rvs1 (rv_t rfl)) (fun _ _ h => h) fun w hb hs hB hkd => ?_
   exact ⟨by rw [spanL_get hx13 (by omega)], hb⟩
  ·refine wp_skip' (to_k0 (fun _ _ h => h) (hK2 _ _ _ _ _ ?_))
   clear hK2
   refine wp_seq' fun K6 hK6 => ?_
   refine wp_reg ?_
   refine ol_r (r_assign rfl) rfl ?_
   refine ol_nil (to_k0 (fun _ _ h => h) (hK6 _ _ _ _ _ ?_))
   clear hK6
   refine hQ.ret (rvs1 (rv_t rfl)) (fun _ _ h => h) fun w hb hs hB hkd => ?_
   exact ⟨by rw [spanL_nil (by omega)], hb⟩
theorem pos_ahead {ss : List SmpR} {k : Nat} (h : ∀ j y, j < k → ss[j]? = some y → 0 ≤ y.at_) {x y : SmpR} (hk : (0 : Int) < k) (hy : ss[((k : Int) - 1).toNat]? = some y) : 0 ≤ y.at_ := h _ y (by omega) hy
theorem pos_next {ss : List SmpR} {k : Nat} (h : ∀ j y, j < k → ss[j]? = some y → 0 ≤ y.at_) {x : SmpR} (hx : ss[k]? = some x) (h0 : 0 ≤ x.at_) : ∀ j y, j < k + 1 → ss[j]? = some y → 0 ≤ y.at_ := fun j y hj hy => by
  by_cases hjk : j < k
  · exact h j y hjk hy
  · have : j = k := by omega
    subst this
    rw [hx] at hy; cases hy; exact h0
theorem fS_is {st : Int} {p : Option SmpR} {x : SmpR} (h : ordS p x = false) (h1 : x.at_ ≤ 1000000) (h2 : st + x.at_ ≤ 86399999999) (h3 : smpIn x = true) : fS st p x = 0 := by
  unfold fS
  rw [if_neg (by rw [h]; simp), if_neg]
  rintro (h | h | h)
  · omega
  · omega
  · rw [h3] at h; cases h
theorem fS_10 {st : Int} {p : Option SmpR} {x : SmpR} (h : ordS p x = true) : fS st p x = 10 := by unfold fS; rw [if_pos h]
theorem fS_9 {st : Int} {p : Option SmpR} {x : SmpR} (h : ordS p x = false) (h1 : 1000000 < x.at_ ∨ 86399999999 < st + x.at_ ∨ smpIn x = false) : fS st p x = 9 := by
  unfold fS; rw [if_neg (by rw [h]; simp), if_pos h1]
theorem ordS_0 {ss : List SmpR} {k : Nat} {x : SmpR} (hk : (k : Int) = 0) : ordS (ahead ss k) x = decide (x.at_ ≠ 0) := by rw [ahead_none hk]; rfl
theorem ordS_1 {ss : List SmpR} {k : Nat} {x y : SmpR} (hk : (0 : Int) < k) (hy : ss[((k : Int) - 1).toNat]? = some y) : ordS (ahead ss k) x = decide (x.at_ ≤ y.at_) := by rw [ahead_pred hk hy]; rfl
theorem ordL_0 {ls : List LapR} {k : Nat} {x : LapR} (hk : (k : Int) = 0) : ordL (ahead ls k) x = false := by rw [ahead_none hk]; rfl
theorem ordL_1 {ls : List LapR} {k : Nat} {x y : LapR} (hk : (0 : Int) < k) (hy : ls[((k : Int) - 1).toNat]? = some y) : ordL (ahead ls k) x = decide (x.from_ < y.to) := by rw [ahead_pred hk hy]; rfl
theorem ordT_0 {ts : List ByteArray} {k : Nat} {x : ByteArray} (hk : (k : Int) = 0) : ordT (ahead ts k) x = false := by rw [ahead_none hk]; rfl
theorem ordT_1 {ts : List ByteArray} {k : Nat} {x y : ByteArray} (hk : (0 : Int) < k) (hy : ts[((k : Int) - 1).toNat]? = some y) : ordT (ahead ts k) x = sLe x y := by rw [ahead_pred hk hy]; rfl
theorem fL_9 {sp : Int} {p : Option LapR} {x : LapR} (h : x.from_ < 0 ∨ x.to ≤ x.from_ ∨ sp < x.to) : fL sp p x = 9 := by unfold fL; rw [if_pos h]
theorem fL_10 {sp : Int} {p : Option LapR} {x : LapR} (h : ¬(x.from_ < 0 ∨ x.to ≤ x.from_ ∨ sp < x.to)) (h2 : ordL p x = true) : fL sp p x = 10 := by unfold fL; rw [if_neg h, if_pos h2]
theorem fL_8 {sp : Int} {p : Option LapR} {x : LapR} (h : ¬(x.from_ < 0 ∨ x.to ≤ x.from_ ∨ sp < x.to)) (h2 : ordL p x = false) (h3 : titleB x.name = false) : fL sp p x = 8 := by unfold fL; rw [if_neg h, if_neg (by rw [h2]; simp), if_pos h3]
theorem fL_0 {sp : Int} {p : Option LapR} {x : LapR} (h : ¬(x.from_ < 0 ∨ x.to ≤ x.from_ ∨ sp < x.to)) (h2 : ordL p x = false) (h3 : titleB x.name = true) : fL sp p x = 0 := by unfold fL; rw [if_neg h, if_neg (by rw [h2]; simp), if_neg (by rw [h3]; simp)]
theorem fT_8 {p : Option ByteArray} {x : ByteArray} (h : nameB x = false) : fT p x = 8 := by unfold fT; rw [if_pos h]
theorem fT_10 {p : Option ByteArray} {x : ByteArray} (h : nameB x = true) (h2 : ordT p x = true) : fT p x = 10 := by unfold fT; rw [if_neg (by rw [h]; simp), if_pos h2]
theorem fT_0 {p : Option ByteArray} {x : ByteArray} (h : nameB x = true) (h2 : ordT p x = false) : fT p x = 0 := by unfold fT; rw [if_neg (by rw [h]; simp), if_neg (by rw [h2]; simp)]
theorem record_Check (A : ActV) (w : World) (hA : A.Ok w.heap.size w) : Calls Try.prog 20 #[.agg #[.string A.name, .int .i64 A.sport, .int .i64 A.start, .slice A.sa A.sn A.sc, .slice A.la A.ln A.lc, .slice A.ta A.tn A.tc]] w fun e w' => e = .returned (.int .i64 (chkA A.d)) ∧ Below w.heap.size w w' := by
  have hsn := hA.s.len
  have hln := hA.l.len
  have htn := hA.t.len
  have hsf := hA.s.fit
  have hlf := hA.l.fit
  have htf := hA.t.fit
  refine enterQ (N := 164) (C := fun _ => True) (H := []) (B := w.heap.size) (args := [_]) Try.func20 rfl rfl rfl (Nat.le_refl _) (Sat.nil _ _) fun Q hQ => ?_
  refine wp_seq' fun K1 hK1 => ?_
  refine wp_reg ?_
  refine ol_box 1 rfl rfl rfl fun b1 => ?_
  refine ol_r (r_assign rfl) rfl ?_
  refine ol_nil (to_k0 (fun _ _ h => h) (hK1 _ _ _ _ _ ?_))
  clear hK1
  refine wp_seq' fun K2 hK2 => ?_
  refine wp_block' ?_
  refine wp_seq' fun K3 hK3 => ?_
  refine wp_reg ?_
  refine ol_r (r_fa (o' := 0) rfl fl57_0 rfl) rfl ?_
  refine ol_r (r_ld (id := 1) rfl rfl rfl sc9) rfl ?_
  refine ol_call rfl rfl cb32 rfl (fun w1 hb1 hs1 hB1 => Calls.mono (quant_IsName A.name _ hA.nm) ?_)
  rintro e w2 ⟨rfl, hb2⟩
  refine After.below rfl hb1 hs1 hB1 hb2 ?_
  clear hb2 hB1 hs1 hb1 w2 w1
  refine ol_r (r_not rfl) rfl ?_
  refine ol_r (r_assign rfl) rfl ?_
  refine ol_nil (to_k0 (fun _ _ h => h) (hK3 _ _ _ _ _ ?_))
  clear hK3
  refine wp_condNB rfl (fun hc10 => ?_) (fun hc10 => ?_)
  ·refine wp_seq' fun K4 hK4 => ?_
   refine wp_reg ?_
   refine ol_r (r_assign rfl) rfl ?_
   refine ol_nil (to_k0 (fun _ _ h => h) (hK4 _ _ _ _ _ ?_))
   clear hK4
   refine hQ.ret (rvs1 (rv_t rfl)) (fun _ _ h => h) fun w hb hs hB hkd => ?_
   first
     | (exact ⟨by rw [chkA_8 (a := A.d) (show nameB A.name = false by simpa using hc10)], hb⟩; done)
  ·refine wp_seq' fun K5 hK5 => ?_
   refine wp_reg ?_
   refine ol_r (r_fa (o' := 1) rfl fl57_1 rfl) rfl ?_
   refine ol_r (r_ld (id := 1) rfl rfl rfl sc3) rfl ?_
   refine ol_call rfl rfl cb45 rfl (fun w1 hb1 hs1 hB1 => Calls.mono (record_in _ _ _ _) ?_)
   rintro e w2 ⟨rfl, hb2⟩
   refine After.below rfl hb1 hs1 hB1 hb2 ?_
   clear hb2 hB1 hs1 hb1 w2 w1
   refine ol_r (r_not rfl) rfl ?_
   refine ol_r (r_assign rfl) rfl ?_
   refine ol_nil (to_k0 (fun _ _ h => h) (hK5 _ _ _ _ _ ?_))
   clear hK5
   refine wp_condNB rfl (fun hc15 => ?_) (fun hc15 => ?_)
   ·refine wp_seq' fun K6 hK6 => ?_
    refine wp_reg ?_
    refine ol_r (r_assign rfl) rfl ?_
    refine ol_nil (to_k0 (fun _ _ h => h) (hK6 _ _ _ _ _ ?_))
    clear hK6
    refine hQ.ret (rvs1 (rv_t rfl)) (fun _ _ h => h) fun w hb hs hB hkd => ?_
    first
      | (exact ⟨by rw [chkA_7 (a := A.d) (show nameB A.name = true by simpa using hc10) (show inB A.sport 1 5 = false by simpa using hc15)], hb⟩; done)
   ·refine wp_seq' fun K7 hK7 => ?_
    refine wp_reg ?_
    refine ol_r (r_fa (o' := 2) rfl fl57_2 rfl) rfl ?_
    refine ol_r (r_ld (id := 1) rfl rfl rfl sc3) rfl ?_
    refine ol_call rfl rfl cb45 rfl (fun w1 hb1 hs1 hB1 => Calls.mono (record_in _ _ _ _) ?_)
    rintro e w2 ⟨rfl, hb2⟩
    refine After.below rfl hb1 hs1 hB1 hb2 ?_
    clear hb2 hB1 hs1 hb1 w2 w1
    refine ol_r (r_not rfl) rfl ?_
    refine ol_r (r_assign rfl) rfl ?_
    refine ol_nil (to_k0 (fun _ _ h => h) (hK7 _ _ _ _ _ ?_))
    clear hK7
    refine wp_condNB rfl (fun hc20 => ?_) (fun hc20 => ?_)
    ·refine wp_seq' fun K8 hK8 => ?_
     refine wp_reg ?_
     refine ol_r (r_assign rfl) rfl ?_
     refine ol_nil (to_k0 (fun _ _ h => h) (hK8 _ _ _ _ _ ?_))
     clear hK8
     refine hQ.ret (rvs1 (rv_t rfl)) (fun _ _ h => h) fun w hb hs hB hkd => ?_
     first
       | (exact ⟨by rw [chkA_9 (a := A.d) (show nameB A.name = true by simpa using hc10) (show inB A.sport 1 5 = true by simpa using hc15) (show inB A.start 0 86399999999 = false by simpa using hc20)], hb⟩; done)
    ·refine wp_seq' fun K9 hK9 => ?_
     refine wp_reg ?_
     refine ol_r (r_fa (o' := 3) rfl fl57_3 rfl) rfl ?_
     refine ol_r (r_ld (id := 1) rfl rfl rfl sc53) rfl ?_
     refine ol_r (r_len rfl sl53) rfl ?_
     refine ol_r (r_gtr rfl rfl) rfl ?_
     refine ol_r (r_move rfl) rfl ?_
     refine ol_split (d := 30) rfl (fun hs30 => ?_) (fun hs30 => ?_)
     ·have phs30 := hs30; try simp only [decide_eq_true_eq, decide_eq_false_iff_not, Bool.not_eq_true', Bool.not_eq_false', Bool.not_true, Bool.not_false] at phs30
      refine ol_s rfl rfl hs30 rfl ?_
      refine ol_s rfl rfl hs30 rfl ?_
      refine ol_s rfl rfl hs30 rfl ?_
      refine ol_s rfl rfl hs30 rfl ?_
      refine ol_r (r_pickT rfl hs30 rfl) rfl ?_
      refine ol_r (r_move rfl) rfl ?_
      refine ol_s rfl rfl rfl rfl ?_
      refine ol_s rfl rfl rfl rfl ?_
      refine ol_s rfl rfl rfl rfl ?_
      refine ol_s rfl rfl rfl rfl ?_
      refine ol_r (r_pickT rfl rfl rfl) rfl ?_
      refine ol_r (r_assign rfl) rfl ?_
      refine ol_nil (to_k0 (fun _ _ h => h) (hK9 _ _ _ _ _ ?_))
      clear hK9
      refine wp_condT rfl ?_
      refine wp_seq' fun K10 hK10 => ?_
      refine wp_reg ?_
      refine ol_r (r_assign rfl) rfl ?_
      refine ol_nil (to_k0 (fun _ _ h => h) (hK10 _ _ _ _ _ ?_))
      clear hK10
      refine hQ.ret (rvs1 (rv_t rfl)) (fun _ _ h => h) fun w hb hs hB hkd => ?_
      first
        | (exact ⟨by rw [chkA_3 (a := A.d) (show nameB A.name = true by simpa using hc10) (show inB A.sport 1 5 = true by simpa using hc15) (show inB A.start 0 86399999999 = true by simpa using hc20) (show 20000 < A.ss.length ∨ 200 < A.ls.length ∨ 20 < A.ts.length by omega)], hb⟩; done)
     ·have phs30 := hs30; try simp only [decide_eq_true_eq, decide_eq_false_iff_not, Bool.not_eq_true', Bool.not_eq_false', Bool.not_true, Bool.not_false] at phs30
      refine ol_g rfl rfl hs30 ?_
      refine ol_r (r_fa (o' := 4) rfl fl57_4 rfl) rfl ?_
      refine ol_g rfl rfl hs30 ?_
      refine ol_r (r_ld (id := 1) rfl rfl rfl sc54) rfl ?_
      refine ol_g rfl rfl hs30 ?_
      refine ol_r (r_len rfl sl54) rfl ?_
      refine ol_g rfl rfl hs30 ?_
      refine ol_r (r_gtr rfl rfl) rfl ?_
      refine ol_r (r_pickF rfl hs30 rfl) rfl ?_
      refine ol_r (r_move rfl) rfl ?_
      refine ol_split (d := 36) rfl (fun hs36 => ?_) (fun hs36 => ?_)
      ·have phs36 := hs36; try simp only [decide_eq_true_eq, decide_eq_false_iff_not, Bool.not_eq_true', Bool.not_eq_false', Bool.not_true, Bool.not_false] at phs36
       refine ol_s rfl rfl hs36 rfl ?_
       refine ol_s rfl rfl hs36 rfl ?_
       refine ol_s rfl rfl hs36 rfl ?_
       refine ol_s rfl rfl hs36 rfl ?_
       refine ol_r (r_pickT rfl hs36 rfl) rfl ?_
       refine ol_r (r_assign rfl) rfl ?_
       refine ol_nil (to_k0 (fun _ _ h => h) (hK9 _ _ _ _ _ ?_))
       clear hK9
       refine wp_condT rfl ?_
       refine wp_seq' fun K11 hK11 => ?_
       refine wp_reg ?_
       refine ol_r (r_assign rfl) rfl ?_
       refine ol_nil (to_k0 (fun _ _ h => h) (hK11 _ _ _ _ _ ?_))
       clear hK11
       refine hQ.ret (rvs1 (rv_t rfl)) (fun _ _ h => h) fun w hb hs hB hkd => ?_
       first
         | (exact ⟨by rw [chkA_3 (a := A.d) (show nameB A.name = true by simpa using hc10) (show inB A.sport 1 5 = true by simpa using hc15) (show inB A.start 0 86399999999 = true by simpa using hc20) (show 20000 < A.ss.length ∨ 200 < A.ls.length ∨ 20 < A.ts.length by omega)], hb⟩; done)
      ·have phs36 := hs36; try simp only [decide_eq_true_eq, decide_eq_false_iff_not, Bool.not_eq_true', Bool.not_eq_false', Bool.not_true, Bool.not_false] at phs36
       refine ol_g rfl rfl hs36 ?_
       refine ol_r (r_fa (o' := 5) rfl fl57_5 rfl) rfl ?_
       refine ol_g rfl rfl hs36 ?_
       refine ol_r (r_ld (id := 1) rfl rfl rfl sc55) rfl ?_
       refine ol_g rfl rfl hs36 ?_
       refine ol_r (r_len rfl sl55) rfl ?_
       refine ol_g rfl rfl hs36 ?_
       refine ol_r (r_gtr rfl rfl) rfl ?_
       refine ol_r (r_pickF rfl hs36 rfl) rfl ?_
       refine ol_r (r_assign rfl) rfl ?_
       refine ol_nil (to_k0 (fun _ _ h => h) (hK9 _ _ _ _ _ ?_))
       clear hK9
       refine wp_condD rfl (fun hc25 => ?_) (fun hc25 => ?_)
       ·refine wp_seq' fun K12 hK12 => ?_
        refine wp_reg ?_
        refine ol_r (r_assign rfl) rfl ?_
        refine ol_nil (to_k0 (fun _ _ h => h) (hK12 _ _ _ _ _ ?_))
        clear hK12
        refine hQ.ret (rvs1 (rv_t rfl)) (fun _ _ h => h) fun w hb hs hB hkd => ?_
        first
          | (exact ⟨by rw [chkA_3 (a := A.d) (show nameB A.name = true by simpa using hc10) (show inB A.sport 1 5 = true by simpa using hc15) (show inB A.start 0 86399999999 = true by simpa using hc20) (show 20000 < A.ss.length ∨ 200 < A.ls.length ∨ 20 < A.ts.length by omega)], hb⟩; done)
       ·refine wp_skip' (to_k0 (fun _ _ h => h) (hK2 _ _ _ _ _ ?_))
        clear hK2
        refine wp_seq' fun K13 hK13 => ?_
        refine wp_seq' fun K14 hK14 => ?_
        refine wp_reg ?_
        have hH : headA A.d := ⟨show nameB A.name = true by simpa using hc10, show inB A.sport 1 5 = true by simpa using hc15, show inB A.start 0 86399999999 = true by simpa using hc20, by show A.ss.length ≤ 20000; simp_all; omega, by show A.ls.length ≤ 200; simp_all; omega, by show A.ts.length ≤ 20; simp_all; omega⟩
        have hst := inB_iff.1 hH.2.2.1
        simp only [ActV.d] at hst
        refine ol_r (r_fa (o' := 3) rfl fl57_3 rfl) rfl ?_
        refine ol_r (r_ld (id := 1) rfl rfl rfl sc53) rfl ?_
        refine ol_r (r_len rfl sl53) rfl ?_
        refine ol_r (r_move rfl) rfl ?_
        refine ol_nil (to_k0 (fun _ _ h => h) (hK14 _ _ _ _ _ ?_))
        clear hK14
        refine wp_block' ?_
        apply wp_loopM (σ := Nat) (fun s => s ≤ A.sn ∧ chkE (fS A.start) none A.ss = chkE (fS A.start) (ahead A.ss s) (A.ss.drop s) ∧ (∀ j y, j < s → A.ss[j]? = some y → 0 ≤ y.at_)) (fun s => [(45, .int .i64 s)]) [(1, _), (43, _), (44, _)] (fun s => []) [(1, _)] (fun s => A.sn - s) (0)
        ·try dsimp only
         exact ⟨Nat.zero_le _, chkE_start _ _, fun j y h => by omega⟩
        ·exact (sub_cons rfl sub_nil)
        ·exact (sub_cons rfl (sub_cons rfl (sub_cons rfl sub_nil)))
        ·exact subH_nil
        ·exact (subH_same rfl subH_nil)
        ·rintro k ⟨hk, hP, hpos⟩
         intro K15 hK15
         refine wp_seq' fun K16 hK16 => ?_
         refine wp_reg ?_
         refine ol_r (r_lss rfl rfl) rfl ?_
         refine ol_nil (to_k0 (fun _ _ h => h) (hK16 _ _ _ _ _ ?_))
         clear hK16
         refine wp_seq' fun K17 hK17 => ?_
         refine wp_condD rfl (fun hc46 => ?_) (fun hc46 => ?_)
         ·refine wp_skip' (to_k0 (fun _ _ h => h) (hK17 _ _ _ _ _ ?_))
          clear hK17
          refine wp_seq' fun K18 hK18 => ?_
          refine wp_block' ?_
          refine wp_seq' fun K19 hK19 => ?_
          refine wp_reg ?_
          refine ol_r (r_move rfl) rfl ?_
          refine ol_ixr hA.s rfl rfl sl53 (by omega) rfl fun x48 hx48 => ?_
          try simp only [Int.toNat_natCast] at hx48
          refine ol_r (r_ldw rfl (fun w1 hb1 hs1 hB1 => Rd.loads hA.s ty70 hx48 hb1)) rfl ?_
          refine ol_alloc 4 z70 rfl fun b4 => ?_
          refine ol_r (r_assign rfl) rfl ?_
          refine ol_store (id := 4) rfl rfl rfl rfl sz70 rfl rfl (by first | decide | exact Nat.zero_lt_succ _ | simp) ?_
          refine ol_nil (to_k0 (fun _ _ h => h) (hK19 _ _ _ _ _ ?_))
          clear hK19
          refine wp_block' ?_
          refine wp_seq' fun K20 hK20 => ?_
          refine wp_seq' fun K21 hK21 => ?_
          refine wp_reg ?_
          refine ol_r (r_move rfl) rfl ?_
          refine ol_r (r_eql rfl rfl) rfl ?_
          refine ol_r (r_move rfl) rfl ?_
          refine ol_split (d := 53) rfl (fun hs53 => ?_) (fun hs53 => ?_)
          ·have phs53 := hs53; try simp only [decide_eq_true_eq, decide_eq_false_iff_not, Bool.not_eq_true', Bool.not_eq_false', Bool.not_true, Bool.not_false] at phs53
           refine ol_g rfl rfl hs53 ?_
           refine ol_r (r_fa (o' := 0) rfl fl70_0 rfl) rfl ?_
           refine ol_g rfl rfl hs53 ?_
           refine ol_r (r_ld (id := 4) rfl rfl rfl sc3) rfl ?_
           refine ol_g rfl rfl hs53 ?_
           refine ol_r (r_neq rfl rfl) rfl ?_
           refine ol_r (r_pickT rfl hs53 rfl) rfl ?_
           refine ol_r (r_assign rfl) rfl ?_
           refine ol_nil (to_k0 (fun _ _ h => h) (hK21 _ _ _ _ _ ?_))
           clear hK21
           refine wp_condD rfl (fun hc50 => ?_) (fun hc50 => ?_)
           ·refine wp_skip' (to_k0 (fun _ _ h => h) (hK20 _ _ _ _ _ ?_))
            clear hK20
            refine wp_condD rfl (fun hc50 => ?_) (fun hc50 => ?_)
            ·refine wp_seq' fun K22 hK22 => ?_
             refine wp_reg ?_
             refine ol_r (r_assign rfl) rfl ?_
             refine ol_nil (to_k0 (fun _ _ h => h) (hK22 _ _ _ _ _ ?_))
             clear hK22
             refine hQ.ret (rvs1 (rv_t rfl)) (fun _ _ h => h) fun w hb hs hB hkd => ?_
             first
               | (have ho : ordS (ahead A.ss k) x48 = true := by
                    first
                      | (rw [ordS_0 (by omega), decide_eq_true (by omega)]; done)
                      | (rw [ordS_1 (by omega) hx67, decide_eq_true (by omega)]; done)
                  have h := chkE_bad hP hx48 (fS_10 ho) (by simp)
                  exact ⟨by rw [(chkA_s hH (by show chkE (fS A.start) none A.ss ≠ 0; rw [h]; simp)).trans h], hb⟩)
            ·refine wp_seq' fun K23 hK23 => ?_
             refine wp_reg ?_
             refine ol_r (r_fa (o' := 0) rfl fl70_0 rfl) rfl ?_
             refine ol_r (r_ld (id := 4) rfl rfl rfl sc3) rfl ?_
             refine ol_r (r_gtr rfl rfl) rfl ?_
             refine ol_r (r_move rfl) rfl ?_
             refine ol_split (d := 76) rfl (fun hs76 => ?_) (fun hs76 => ?_)
             ·have phs76 := hs76; try simp only [decide_eq_true_eq, decide_eq_false_iff_not, Bool.not_eq_true', Bool.not_eq_false', Bool.not_true, Bool.not_false] at phs76
              refine ol_s rfl rfl hs76 rfl ?_
              refine ol_s rfl rfl hs76 rfl ?_
              refine ol_s rfl rfl hs76 rfl ?_
              refine ol_s rfl rfl hs76 rfl ?_
              refine ol_s rfl rfl hs76 rfl ?_
              refine ol_s rfl rfl hs76 rfl ?_
              refine ol_r (r_pickT rfl hs76 rfl) rfl ?_
              refine ol_r (r_move rfl) rfl ?_
              refine ol_s rfl rfl rfl rfl ?_
              refine ol_s rfl rfl rfl rfl ?_
              refine ol_s rfl rfl rfl rfl ?_
              refine ol_r (r_pickT rfl rfl rfl) rfl ?_
              refine ol_r (r_assign rfl) rfl ?_
              refine ol_nil (to_k0 (fun _ _ h => h) (hK23 _ _ _ _ _ ?_))
              clear hK23
              refine wp_condT rfl ?_
              refine wp_seq' fun K24 hK24 => ?_
              refine wp_reg ?_
              refine ol_r (r_assign rfl) rfl ?_
              refine ol_nil (to_k0 (fun _ _ h => h) (hK24 _ _ _ _ _ ?_))
              clear hK24
              refine hQ.ret (rvs1 (rv_t rfl)) (fun _ _ h => h) fun w hb hs hB hkd => ?_
              first
                | (exfalso; omega)
             ·have phs76 := hs76; try simp only [decide_eq_true_eq, decide_eq_false_iff_not, Bool.not_eq_true', Bool.not_eq_false', Bool.not_true, Bool.not_false] at phs76
              refine ol_g rfl rfl hs76 ?_
              refine ol_r (r_fa (o' := 2) rfl fl57_2 rfl) rfl ?_
              refine ol_g rfl rfl hs76 ?_
              refine ol_r (r_ld (id := 1) rfl rfl rfl sc3) rfl ?_
              refine ol_g rfl rfl hs76 ?_
              refine ol_r (r_fa (o' := 0) rfl fl70_0 rfl) rfl ?_
              refine ol_g rfl rfl hs76 ?_
              refine ol_r (r_ld (id := 4) rfl rfl rfl sc3) rfl ?_
              refine ol_g rfl rfl hs76 ?_
              have hlo := hA.lo _ (List.mem_of_getElem? hx48)
              have hat : 0 ≤ x48.at_ := by
                first
                  | (have h1 := hpos _ _ (by omega) hx67
                     omega)
                  | omega
              refine ol_r (r_add rfl rfl (by omega)) rfl ?_
              refine ol_g rfl rfl hs76 ?_
              refine ol_r (r_gtr rfl rfl) rfl ?_
              refine ol_r (r_pickF rfl hs76 rfl) rfl ?_
              refine ol_r (r_move rfl) rfl ?_
              refine ol_split (d := 84) rfl (fun hs84 => ?_) (fun hs84 => ?_)
              ·have phs84 := hs84; try simp only [decide_eq_true_eq, decide_eq_false_iff_not, Bool.not_eq_true', Bool.not_eq_false', Bool.not_true, Bool.not_false] at phs84
               refine ol_s rfl rfl hs84 rfl ?_
               refine ol_s rfl rfl hs84 rfl ?_
               refine ol_s rfl rfl hs84 rfl ?_
               refine ol_r (r_pickT rfl hs84 rfl) rfl ?_
               refine ol_r (r_assign rfl) rfl ?_
               refine ol_nil (to_k0 (fun _ _ h => h) (hK23 _ _ _ _ _ ?_))
               clear hK23
               refine wp_condT rfl ?_
               refine wp_seq' fun K25 hK25 => ?_
               refine wp_reg ?_
               refine ol_r (r_assign rfl) rfl ?_
               refine ol_nil (to_k0 (fun _ _ h => h) (hK25 _ _ _ _ _ ?_))
               clear hK25
               refine hQ.ret (rvs1 (rv_t rfl)) (fun _ _ h => h) fun w hb hs hB hkd => ?_
               first
                 | (exfalso; omega)
              ·have phs84 := hs84; try simp only [decide_eq_true_eq, decide_eq_false_iff_not, Bool.not_eq_true', Bool.not_eq_false', Bool.not_true, Bool.not_false] at phs84
               refine ol_g rfl rfl hs84 ?_
               refine ol_r (r_lda (id := 4) (n := 7) rfl rfl rfl ag70) rfl ?_
               refine ol_g rfl rfl hs84 ?_
               refine ol_call rfl rfl cb46 rfl (fun w1 hb1 hs1 hB1 => Calls.mono (record_inRange x48 _) ?_)
               rintro e w2 ⟨rfl, hb2⟩
               refine After.below rfl hb1 hs1 hB1 hb2 ?_
               clear hb2 hB1 hs1 hb1 w2 w1
               refine ol_g rfl rfl hs84 ?_
               refine ol_r (r_not rfl) rfl ?_
               refine ol_r (r_pickF rfl hs84 rfl) rfl ?_
               refine ol_r (r_assign rfl) rfl ?_
               refine ol_nil (to_k0 (fun _ _ h => h) (hK23 _ _ _ _ _ ?_))
               clear hK23
               refine wp_condNB rfl (fun hc72 => ?_) (fun hc72 => ?_)
               ·refine wp_seq' fun K26 hK26 => ?_
                refine wp_reg ?_
                refine ol_r (r_assign rfl) rfl ?_
                refine ol_nil (to_k0 (fun _ _ h => h) (hK26 _ _ _ _ _ ?_))
                clear hK26
                refine hQ.ret (rvs1 (rv_t rfl)) (fun _ _ h => h) fun w hb hs hB hkd => ?_
                first
                  | (exfalso; omega)
               ·refine wp_skip' (to_k0 (fun _ _ h => h) (hK18 _ _ _ _ _ ?_))
                clear hK18
                refine wp_reg ?_
                refine ol_r (r_add rfl rfl (by omega)) rfl ?_
                refine ol_r (r_move rfl) rfl ?_
                refine ol_nil (to_k0 (fun _ _ h => h) (hK15 (k + 1) _ _ ?_ ?_ (sub_cons rfl sub_nil) (sub_cons rfl (sub_cons rfl (sub_cons rfl sub_nil))) (by exact subH_nil) (subH_same rfl subH_nil)))
                ·try dsimp only
                 first
                   | (exfalso; omega)
                ·try dsimp only
                 omega
           ·refine wp_regq (by kernel_rfl) (by kernel_rfl) ?_
            refine ql_r (r_move rfl) rfl ?_
            refine ql_r (r_gtr rfl rfl) rfl ?_
            refine ql_r (r_move rfl) rfl ?_
            refine ql_split (d := 60) rfl (fun hs60 => ?_) (fun hs60 => ?_)
            ·have phs60 := hs60; try simp only [decide_eq_true_eq, decide_eq_false_iff_not, Bool.not_eq_true', Bool.not_eq_false', Bool.not_true, Bool.not_false] at phs60
             refine ql_g rfl rfl hs60 ?_
             refine ql_r (r_fa (o' := 0) rfl fl70_0 rfl) rfl ?_
             refine ql_g rfl rfl hs60 ?_
             refine ql_r (r_ld (id := 4) rfl rfl rfl sc3) rfl ?_
             refine ql_g rfl rfl hs60 ?_
             refine ql_r (r_fa (o' := 3) rfl fl57_3 rfl) rfl ?_
             refine ql_g rfl rfl hs60 ?_
             refine ql_r (r_ld (id := 1) rfl rfl rfl sc53) rfl ?_
             refine ql_g rfl rfl hs60 ?_
             refine ql_r (r_move rfl) rfl ?_
             refine ql_g rfl rfl hs60 ?_
             refine ql_r (r_sub rfl rfl (by omega)) rfl ?_
             refine ql_g rfl rfl hs60 ?_
             refine ql_ixr hA.s rfl rfl sl53 (by omega) rfl fun x67 hx67 => ?_
             try simp only [Int.toNat_natCast] at hx67
             refine ql_g rfl rfl hs60 ?_
             refine ql_r (r_faw rfl (ix_some hA.s (by omega)) fl70_0) rfl ?_
             refine ql_g rfl rfl hs60 ?_
             refine ql_r (r_ldw rfl (fun w1 hb1 hs1 hB1 => Rd.loadsF (o := 0) hA.s sc3 hx67 hb1 rfl)) rfl ?_
             refine ql_g rfl rfl hs60 ?_
             refine ql_r (r_leq rfl rfl) rfl ?_
             refine ql_r (r_pickT rfl hs60 rfl) rfl ?_
             refine ql_r (r_assign rfl) rfl ?_
             refine ql_nil (to_k0 (fun _ _ h => h) (hK20 _ _ _ _ _ ?_))
             clear hK20
             refine wp_condD rfl (fun hc50 => ?_) (fun hc50 => ?_)
             ·refine wp_seq' fun K27 hK27 => ?_
              refine wp_reg ?_
              refine ol_r (r_assign rfl) rfl ?_
              refine ol_nil (to_k0 (fun _ _ h => h) (hK27 _ _ _ _ _ ?_))
              clear hK27
              refine hQ.ret (rvs1 (rv_t rfl)) (fun _ _ h => h) fun w hb hs hB hkd => ?_
              first
                | (exfalso; omega)
             ·refine wp_seq' fun K28 hK28 => ?_
              refine wp_reg ?_
              refine ol_r (r_fa (o' := 0) rfl fl70_0 rfl) rfl ?_
              refine ol_r (r_ld (id := 4) rfl rfl rfl sc3) rfl ?_
              refine ol_r (r_gtr rfl rfl) rfl ?_
              refine ol_r (r_move rfl) rfl ?_
              refine ol_split (d := 76) rfl (fun hs76 => ?_) (fun hs76 => ?_)
              ·have phs76 := hs76; try simp only [decide_eq_true_eq, decide_eq_false_iff_not, Bool.not_eq_true', Bool.not_eq_false', Bool.not_true, Bool.not_false] at phs76
               refine ol_s rfl rfl hs76 rfl ?_
               refine ol_s rfl rfl hs76 rfl ?_
               refine ol_s rfl rfl hs76 rfl ?_
               refine ol_s rfl rfl hs76 rfl ?_
               refine ol_s rfl rfl hs76 rfl ?_
               refine ol_s rfl rfl hs76 rfl ?_
               refine ol_r (r_pickT rfl hs76 rfl) rfl ?_
               refine ol_r (r_move rfl) rfl ?_
               refine ol_s rfl rfl rfl rfl ?_
               refine ol_s rfl rfl rfl rfl ?_
               refine ol_s rfl rfl rfl rfl ?_
               refine ol_r (r_pickT rfl rfl rfl) rfl ?_
               refine ol_r (r_assign rfl) rfl ?_
               refine ol_nil (to_k0 (fun _ _ h => h) (hK28 _ _ _ _ _ ?_))
               clear hK28
               refine wp_condT rfl ?_
               refine wp_seq' fun K29 hK29 => ?_
               refine wp_reg ?_
               refine ol_r (r_assign rfl) rfl ?_
               refine ol_nil (to_k0 (fun _ _ h => h) (hK29 _ _ _ _ _ ?_))
               clear hK29
               refine hQ.ret (rvs1 (rv_t rfl)) (fun _ _ h => h) fun w hb hs hB hkd => ?_
               first
                 | (exfalso; omega)
              ·have phs76 := hs76; try simp only [decide_eq_true_eq, decide_eq_false_iff_not, Bool.not_eq_true', Bool.not_eq_false', Bool.not_true, Bool.not_false] at phs76
               refine ol_g rfl rfl hs76 ?_
               refine ol_r (r_fa (o' := 2) rfl fl57_2 rfl) rfl ?_
               refine ol_g rfl rfl hs76 ?_
               refine ol_r (r_ld (id := 1) rfl rfl rfl sc3) rfl ?_
               refine ol_g rfl rfl hs76 ?_
               refine ol_r (r_fa (o' := 0) rfl fl70_0 rfl) rfl ?_
               refine ol_g rfl rfl hs76 ?_
               refine ol_r (r_ld (id := 4) rfl rfl rfl sc3) rfl ?_
               refine ol_g rfl rfl hs76 ?_
               have hlo := hA.lo _ (List.mem_of_getElem? hx48)
               have hat : 0 ≤ x48.at_ := by
                 first
                   | (have h1 := hpos _ _ (by omega) hx67
                      omega)
                   | omega
               refine ol_r (r_add rfl rfl (by omega)) rfl ?_
               refine ol_g rfl rfl hs76 ?_
               refine ol_r (r_gtr rfl rfl) rfl ?_
               refine ol_r (r_pickF rfl hs76 rfl) rfl ?_
               refine ol_r (r_move rfl) rfl ?_
               refine ol_split (d := 84) rfl (fun hs84 => ?_) (fun hs84 => ?_)
               ·have phs84 := hs84; try simp only [decide_eq_true_eq, decide_eq_false_iff_not, Bool.not_eq_true', Bool.not_eq_false', Bool.not_true, Bool.not_false] at phs84
                refine ol_s rfl rfl hs84 rfl ?_
                refine ol_s rfl rfl hs84 rfl ?_
                refine ol_s rfl rfl hs84 rfl ?_
                refine ol_r (r_pickT rfl hs84 rfl) rfl ?_
                refine ol_r (r_assign rfl) rfl ?_
                refine ol_nil (to_k0 (fun _ _ h => h) (hK28 _ _ _ _ _ ?_))
                clear hK28
                refine wp_condT rfl ?_
                refine wp_seq' fun K30 hK30 => ?_
                refine wp_reg ?_
                refine ol_r (r_assign rfl) rfl ?_
                refine ol_nil (to_k0 (fun _ _ h => h) (hK30 _ _ _ _ _ ?_))
                clear hK30
                refine hQ.ret (rvs1 (rv_t rfl)) (fun _ _ h => h) fun w hb hs hB hkd => ?_
                first
                  | (exfalso; omega)
               ·have phs84 := hs84; try simp only [decide_eq_true_eq, decide_eq_false_iff_not, Bool.not_eq_true', Bool.not_eq_false', Bool.not_true, Bool.not_false] at phs84
                refine ol_g rfl rfl hs84 ?_
                refine ol_r (r_lda (id := 4) (n := 7) rfl rfl rfl ag70) rfl ?_
                refine ol_g rfl rfl hs84 ?_
                refine ol_call rfl rfl cb46 rfl (fun w1 hb1 hs1 hB1 => Calls.mono (record_inRange x48 _) ?_)
                rintro e w2 ⟨rfl, hb2⟩
                refine After.below rfl hb1 hs1 hB1 hb2 ?_
                clear hb2 hB1 hs1 hb1 w2 w1
                refine ol_g rfl rfl hs84 ?_
                refine ol_r (r_not rfl) rfl ?_
                refine ol_r (r_pickF rfl hs84 rfl) rfl ?_
                refine ol_r (r_assign rfl) rfl ?_
                refine ol_nil (to_k0 (fun _ _ h => h) (hK28 _ _ _ _ _ ?_))
                clear hK28
                refine wp_condNB rfl (fun hc72 => ?_) (fun hc72 => ?_)
                ·refine wp_seq' fun K31 hK31 => ?_
                 refine wp_reg ?_
                 refine ol_r (r_assign rfl) rfl ?_
                 refine ol_nil (to_k0 (fun _ _ h => h) (hK31 _ _ _ _ _ ?_))
                 clear hK31
                 refine hQ.ret (rvs1 (rv_t rfl)) (fun _ _ h => h) fun w hb hs hB hkd => ?_
                 first
                   | (exfalso; omega)
                ·refine wp_skip' (to_k0 (fun _ _ h => h) (hK18 _ _ _ _ _ ?_))
                 clear hK18
                 refine wp_reg ?_
                 refine ol_r (r_add rfl rfl (by omega)) rfl ?_
                 refine ol_r (r_move rfl) rfl ?_
                 refine ol_nil (to_k0 (fun _ _ h => h) (hK15 (k + 1) _ _ ?_ ?_ (sub_cons rfl sub_nil) (sub_cons rfl (sub_cons rfl (sub_cons rfl sub_nil))) (by exact subH_nil) (subH_same rfl subH_nil)))
                 ·try dsimp only
                  first
                    | (exfalso; omega)
                 ·try dsimp only
                  omega
            ·have phs60 := hs60; try simp only [decide_eq_true_eq, decide_eq_false_iff_not, Bool.not_eq_true', Bool.not_eq_false', Bool.not_true, Bool.not_false] at phs60
             refine ql_s rfl rfl hs60 rfl ?_
             refine ql_s rfl rfl hs60 rfl ?_
             refine ql_s rfl rfl hs60 rfl ?_
             refine ql_s rfl rfl hs60 rfl ?_
             refine ql_s rfl rfl hs60 rfl ?_
             refine ql_s rfl rfl hs60 rfl ?_
             refine ql_s rfl rfl hs60 rfl ?_
             refine ql_s rfl rfl hs60 rfl ?_
             refine ql_s rfl rfl hs60 rfl ?_
             refine ql_s rfl rfl hs60 rfl ?_
             refine ql_r (r_pickF rfl hs60 rfl) rfl ?_
             refine ql_r (r_assign rfl) rfl ?_
             refine ql_nil (to_k0 (fun _ _ h => h) (hK20 _ _ _ _ _ ?_))
             clear hK20
             refine wp_condF rfl ?_
             refine wp_seq' fun K32 hK32 => ?_
             refine wp_reg ?_
             refine ol_r (r_fa (o' := 0) rfl fl70_0 rfl) rfl ?_
             refine ol_r (r_ld (id := 4) rfl rfl rfl sc3) rfl ?_
             refine ol_r (r_gtr rfl rfl) rfl ?_
             refine ol_r (r_move rfl) rfl ?_
             refine ol_split (d := 76) rfl (fun hs76 => ?_) (fun hs76 => ?_)
             ·have phs76 := hs76; try simp only [decide_eq_true_eq, decide_eq_false_iff_not, Bool.not_eq_true', Bool.not_eq_false', Bool.not_true, Bool.not_false] at phs76
              refine ol_s rfl rfl hs76 rfl ?_
              refine ol_s rfl rfl hs76 rfl ?_
              refine ol_s rfl rfl hs76 rfl ?_
              refine ol_s rfl rfl hs76 rfl ?_
              refine ol_s rfl rfl hs76 rfl ?_
              refine ol_s rfl rfl hs76 rfl ?_
              refine ol_r (r_pickT rfl hs76 rfl) rfl ?_
              refine ol_r (r_move rfl) rfl ?_
              refine ol_s rfl rfl rfl rfl ?_
              refine ol_s rfl rfl rfl rfl ?_
              refine ol_s rfl rfl rfl rfl ?_
              refine ol_r (r_pickT rfl rfl rfl) rfl ?_
              refine ol_r (r_assign rfl) rfl ?_
              refine ol_nil (to_k0 (fun _ _ h => h) (hK32 _ _ _ _ _ ?_))
              clear hK32
              refine wp_condT rfl ?_
              refine wp_seq' fun K33 hK33 => ?_
              refine wp_reg ?_
              refine ol_r (r_assign rfl) rfl ?_
              refine ol_nil (to_k0 (fun _ _ h => h) (hK33 _ _ _ _ _ ?_))
              clear hK33
              refine hQ.ret (rvs1 (rv_t rfl)) (fun _ _ h => h) fun w hb hs hB hkd => ?_
              first
                | (exfalso; omega)
             ·have phs76 := hs76; try simp only [decide_eq_true_eq, decide_eq_false_iff_not, Bool.not_eq_true', Bool.not_eq_false', Bool.not_true, Bool.not_false] at phs76
              refine ol_g rfl rfl hs76 ?_
              refine ol_r (r_fa (o' := 2) rfl fl57_2 rfl) rfl ?_
              refine ol_g rfl rfl hs76 ?_
              refine ol_r (r_ld (id := 1) rfl rfl rfl sc3) rfl ?_
              refine ol_g rfl rfl hs76 ?_
              refine ol_r (r_fa (o' := 0) rfl fl70_0 rfl) rfl ?_
              refine ol_g rfl rfl hs76 ?_
              refine ol_r (r_ld (id := 4) rfl rfl rfl sc3) rfl ?_
              refine ol_g rfl rfl hs76 ?_
              have hlo := hA.lo _ (List.mem_of_getElem? hx48)
              have hat : 0 ≤ x48.at_ := by
                first
                  | (have h1 := hpos _ _ (by omega) hx67
                     omega)
                  | omega
              refine ol_r (r_add rfl rfl (by omega)) rfl ?_
              refine ol_g rfl rfl hs76 ?_
              refine ol_r (r_gtr rfl rfl) rfl ?_
              refine ol_r (r_pickF rfl hs76 rfl) rfl ?_
              refine ol_r (r_move rfl) rfl ?_
              refine ol_split (d := 84) rfl (fun hs84 => ?_) (fun hs84 => ?_)
              ·have phs84 := hs84; try simp only [decide_eq_true_eq, decide_eq_false_iff_not, Bool.not_eq_true', Bool.not_eq_false', Bool.not_true, Bool.not_false] at phs84
               refine ol_s rfl rfl hs84 rfl ?_
               refine ol_s rfl rfl hs84 rfl ?_
               refine ol_s rfl rfl hs84 rfl ?_
               refine ol_r (r_pickT rfl hs84 rfl) rfl ?_
               refine ol_r (r_assign rfl) rfl ?_
               refine ol_nil (to_k0 (fun _ _ h => h) (hK32 _ _ _ _ _ ?_))
               clear hK32
               refine wp_condT rfl ?_
               refine wp_seq' fun K34 hK34 => ?_
               refine wp_reg ?_
               refine ol_r (r_assign rfl) rfl ?_
               refine ol_nil (to_k0 (fun _ _ h => h) (hK34 _ _ _ _ _ ?_))
               clear hK34
               refine hQ.ret (rvs1 (rv_t rfl)) (fun _ _ h => h) fun w hb hs hB hkd => ?_
               first
                 | (exfalso; omega)
              ·have phs84 := hs84; try simp only [decide_eq_true_eq, decide_eq_false_iff_not, Bool.not_eq_true', Bool.not_eq_false', Bool.not_true, Bool.not_false] at phs84
               refine ol_g rfl rfl hs84 ?_
               refine ol_r (r_lda (id := 4) (n := 7) rfl rfl rfl ag70) rfl ?_
               refine ol_g rfl rfl hs84 ?_
               refine ol_call rfl rfl cb46 rfl (fun w1 hb1 hs1 hB1 => Calls.mono (record_inRange x48 _) ?_)
               rintro e w2 ⟨rfl, hb2⟩
               refine After.below rfl hb1 hs1 hB1 hb2 ?_
               clear hb2 hB1 hs1 hb1 w2 w1
               refine ol_g rfl rfl hs84 ?_
               refine ol_r (r_not rfl) rfl ?_
               refine ol_r (r_pickF rfl hs84 rfl) rfl ?_
               refine ol_r (r_assign rfl) rfl ?_
               refine ol_nil (to_k0 (fun _ _ h => h) (hK32 _ _ _ _ _ ?_))
               clear hK32
               refine wp_condNB rfl (fun hc72 => ?_) (fun hc72 => ?_)
               ·refine wp_seq' fun K35 hK35 => ?_
                refine wp_reg ?_
                refine ol_r (r_assign rfl) rfl ?_
                refine ol_nil (to_k0 (fun _ _ h => h) (hK35 _ _ _ _ _ ?_))
                clear hK35
                refine hQ.ret (rvs1 (rv_t rfl)) (fun _ _ h => h) fun w hb hs hB hkd => ?_
                first
                  | (have ho : ordS (ahead A.ss k) x48 = false := by
                       first
                         | (rw [ordS_0 (by omega), decide_eq_false (by omega)]; done)
                         | (rw [ordS_1 (by omega) hx67, decide_eq_false (by omega)]; done)
                     have h := chkE_bad hP hx48 (fS_9 (st := A.start) ho (by first | (left; omega) | (right; left; omega) | (right; right; simpa using hc72))) (by simp)
                     exact ⟨by rw [(chkA_s hH (by show chkE (fS A.start) none A.ss ≠ 0; rw [h]; simp)).trans h], hb⟩)
               ·refine wp_skip' (to_k0 (fun _ _ h => h) (hK18 _ _ _ _ _ ?_))
                clear hK18
                refine wp_reg ?_
                refine ol_r (r_add rfl rfl (by omega)) rfl ?_
                refine ol_r (r_move rfl) rfl ?_
                refine ol_nil (to_k0 (fun _ _ h => h) (hK15 (k + 1) _ _ ?_ ?_ (sub_cons rfl sub_nil) (sub_cons rfl (sub_cons rfl (sub_cons rfl sub_nil))) (by exact subH_nil) (subH_same rfl subH_nil)))
                ·try dsimp only
                 first
                   | (have ho := ordS_0 (ss := A.ss) (k := k) (x := x48) (by omega)
                      rw [decide_eq_false (by omega)] at ho
                      exact ⟨by omega, chkE_next hP hx48 (fS_is ho (by omega) (by omega) (by simpa using hc72)), pos_next hpos hx48 (by omega)⟩)
                ·try dsimp only
                 omega
          ·have phs53 := hs53; try simp only [decide_eq_true_eq, decide_eq_false_iff_not, Bool.not_eq_true', Bool.not_eq_false', Bool.not_true, Bool.not_false] at phs53
           refine ol_s rfl rfl hs53 rfl ?_
           refine ol_s rfl rfl hs53 rfl ?_
           refine ol_s rfl rfl hs53 rfl ?_
           refine ol_r (r_pickF rfl hs53 rfl) rfl ?_
           refine ol_r (r_assign rfl) rfl ?_
           refine ol_nil (to_k0 (fun _ _ h => h) (hK21 _ _ _ _ _ ?_))
           clear hK21
           refine wp_condF rfl ?_
           refine wp_regq (by kernel_rfl) (by kernel_rfl) ?_
           refine ql_r (r_move rfl) rfl ?_
           refine ql_r (r_gtr rfl rfl) rfl ?_
           refine ql_r (r_move rfl) rfl ?_
           refine ql_split (d := 60) rfl (fun hs60 => ?_) (fun hs60 => ?_)
           ·have phs60 := hs60; try simp only [decide_eq_true_eq, decide_eq_false_iff_not, Bool.not_eq_true', Bool.not_eq_false', Bool.not_true, Bool.not_false] at phs60
            refine ql_g rfl rfl hs60 ?_
            refine ql_r (r_fa (o' := 0) rfl fl70_0 rfl) rfl ?_
            refine ql_g rfl rfl hs60 ?_
            refine ql_r (r_ld (id := 4) rfl rfl rfl sc3) rfl ?_
            refine ql_g rfl rfl hs60 ?_
            refine ql_r (r_fa (o' := 3) rfl fl57_3 rfl) rfl ?_
            refine ql_g rfl rfl hs60 ?_
            refine ql_r (r_ld (id := 1) rfl rfl rfl sc53) rfl ?_
            refine ql_g rfl rfl hs60 ?_
            refine ql_r (r_move rfl) rfl ?_
            refine ql_g rfl rfl hs60 ?_
            refine ql_r (r_sub rfl rfl (by omega)) rfl ?_
            refine ql_g rfl rfl hs60 ?_
            refine ql_ixr hA.s rfl rfl sl53 (by omega) rfl fun x67 hx67 => ?_
            try simp only [Int.toNat_natCast] at hx67
            refine ql_g rfl rfl hs60 ?_
            refine ql_r (r_faw rfl (ix_some hA.s (by omega)) fl70_0) rfl ?_
            refine ql_g rfl rfl hs60 ?_
            refine ql_r (r_ldw rfl (fun w1 hb1 hs1 hB1 => Rd.loadsF (o := 0) hA.s sc3 hx67 hb1 rfl)) rfl ?_
            refine ql_g rfl rfl hs60 ?_
            refine ql_r (r_leq rfl rfl) rfl ?_
            refine ql_r (r_pickT rfl hs60 rfl) rfl ?_
            refine ql_r (r_assign rfl) rfl ?_
            refine ql_nil (to_k0 (fun _ _ h => h) (hK20 _ _ _ _ _ ?_))
            clear hK20
            refine wp_condD rfl (fun hc50 => ?_) (fun hc50 => ?_)
            ·refine wp_seq' fun K36 hK36 => ?_
             refine wp_reg ?_
             refine ol_r (r_assign rfl) rfl ?_
             refine ol_nil (to_k0 (fun _ _ h => h) (hK36 _ _ _ _ _ ?_))
             clear hK36
             refine hQ.ret (rvs1 (rv_t rfl)) (fun _ _ h => h) fun w hb hs hB hkd => ?_
             first
               | (have ho : ordS (ahead A.ss k) x48 = true := by
                    first
                      | (rw [ordS_0 (by omega), decide_eq_true (by omega)]; done)
                      | (rw [ordS_1 (by omega) hx67, decide_eq_true (by omega)]; done)
                  have h := chkE_bad hP hx48 (fS_10 ho) (by simp)
                  exact ⟨by rw [(chkA_s hH (by show chkE (fS A.start) none A.ss ≠ 0; rw [h]; simp)).trans h], hb⟩)
            ·refine wp_seq' fun K37 hK37 => ?_
             refine wp_reg ?_
             refine ol_r (r_fa (o' := 0) rfl fl70_0 rfl) rfl ?_
             refine ol_r (r_ld (id := 4) rfl rfl rfl sc3) rfl ?_
             refine ol_r (r_gtr rfl rfl) rfl ?_
             refine ol_r (r_move rfl) rfl ?_
             refine ol_split (d := 76) rfl (fun hs76 => ?_) (fun hs76 => ?_)
             ·have phs76 := hs76; try simp only [decide_eq_true_eq, decide_eq_false_iff_not, Bool.not_eq_true', Bool.not_eq_false', Bool.not_true, Bool.not_false] at phs76
              refine ol_s rfl rfl hs76 rfl ?_
              refine ol_s rfl rfl hs76 rfl ?_
              refine ol_s rfl rfl hs76 rfl ?_
              refine ol_s rfl rfl hs76 rfl ?_
              refine ol_s rfl rfl hs76 rfl ?_
              refine ol_s rfl rfl hs76 rfl ?_
              refine ol_r (r_pickT rfl hs76 rfl) rfl ?_
              refine ol_r (r_move rfl) rfl ?_
              refine ol_s rfl rfl rfl rfl ?_
              refine ol_s rfl rfl rfl rfl ?_
              refine ol_s rfl rfl rfl rfl ?_
              refine ol_r (r_pickT rfl rfl rfl) rfl ?_
              refine ol_r (r_assign rfl) rfl ?_
              refine ol_nil (to_k0 (fun _ _ h => h) (hK37 _ _ _ _ _ ?_))
              clear hK37
              refine wp_condT rfl ?_
              refine wp_seq' fun K38 hK38 => ?_
              refine wp_reg ?_
              refine ol_r (r_assign rfl) rfl ?_
              refine ol_nil (to_k0 (fun _ _ h => h) (hK38 _ _ _ _ _ ?_))
              clear hK38
              refine hQ.ret (rvs1 (rv_t rfl)) (fun _ _ h => h) fun w hb hs hB hkd => ?_
              first
                | (have ho : ordS (ahead A.ss k) x48 = false := by
                     first
                       | (rw [ordS_0 (by omega), decide_eq_false (by omega)]; done)
                       | (rw [ordS_1 (by omega) hx67, decide_eq_false (by omega)]; done)
                   have h := chkE_bad hP hx48 (fS_9 (st := A.start) ho (by first | (left; omega) | (right; left; omega) | (right; right; simpa using hc72))) (by simp)
                   exact ⟨by rw [(chkA_s hH (by show chkE (fS A.start) none A.ss ≠ 0; rw [h]; simp)).trans h], hb⟩)
             ·have phs76 := hs76; try simp only [decide_eq_true_eq, decide_eq_false_iff_not, Bool.not_eq_true', Bool.not_eq_false', Bool.not_true, Bool.not_false] at phs76
              refine ol_g rfl rfl hs76 ?_
              refine ol_r (r_fa (o' := 2) rfl fl57_2 rfl) rfl ?_
              refine ol_g rfl rfl hs76 ?_
              refine ol_r (r_ld (id := 1) rfl rfl rfl sc3) rfl ?_
              refine ol_g rfl rfl hs76 ?_
              refine ol_r (r_fa (o' := 0) rfl fl70_0 rfl) rfl ?_
              refine ol_g rfl rfl hs76 ?_
              refine ol_r (r_ld (id := 4) rfl rfl rfl sc3) rfl ?_
              refine ol_g rfl rfl hs76 ?_
              have hlo := hA.lo _ (List.mem_of_getElem? hx48)
              have hat : 0 ≤ x48.at_ := by
                first
                  | (have h1 := hpos _ _ (by omega) hx67
                     omega)
                  | omega
              refine ol_r (r_add rfl rfl (by omega)) rfl ?_
              refine ol_g rfl rfl hs76 ?_
              refine ol_r (r_gtr rfl rfl) rfl ?_
              refine ol_r (r_pickF rfl hs76 rfl) rfl ?_
              refine ol_r (r_move rfl) rfl ?_
              refine ol_split (d := 84) rfl (fun hs84 => ?_) (fun hs84 => ?_)
              ·have phs84 := hs84; try simp only [decide_eq_true_eq, decide_eq_false_iff_not, Bool.not_eq_true', Bool.not_eq_false', Bool.not_true, Bool.not_false] at phs84
               refine ol_s rfl rfl hs84 rfl ?_
               refine ol_s rfl rfl hs84 rfl ?_
               refine ol_s rfl rfl hs84 rfl ?_
               refine ol_r (r_pickT rfl hs84 rfl) rfl ?_
               refine ol_r (r_assign rfl) rfl ?_
               refine ol_nil (to_k0 (fun _ _ h => h) (hK37 _ _ _ _ _ ?_))
               clear hK37
               refine wp_condT rfl ?_
               refine wp_seq' fun K39 hK39 => ?_
               refine wp_reg ?_
               refine ol_r (r_assign rfl) rfl ?_
               refine ol_nil (to_k0 (fun _ _ h => h) (hK39 _ _ _ _ _ ?_))
               clear hK39
               refine hQ.ret (rvs1 (rv_t rfl)) (fun _ _ h => h) fun w hb hs hB hkd => ?_
               first
                 | (have ho : ordS (ahead A.ss k) x48 = false := by
                      first
                        | (rw [ordS_0 (by omega), decide_eq_false (by omega)]; done)
                        | (rw [ordS_1 (by omega) hx67, decide_eq_false (by omega)]; done)
                    have h := chkE_bad hP hx48 (fS_9 (st := A.start) ho (by first | (left; omega) | (right; left; omega) | (right; right; simpa using hc72))) (by simp)
                    exact ⟨by rw [(chkA_s hH (by show chkE (fS A.start) none A.ss ≠ 0; rw [h]; simp)).trans h], hb⟩)
              ·have phs84 := hs84; try simp only [decide_eq_true_eq, decide_eq_false_iff_not, Bool.not_eq_true', Bool.not_eq_false', Bool.not_true, Bool.not_false] at phs84
               refine ol_g rfl rfl hs84 ?_
               refine ol_r (r_lda (id := 4) (n := 7) rfl rfl rfl ag70) rfl ?_
               refine ol_g rfl rfl hs84 ?_
               refine ol_call rfl rfl cb46 rfl (fun w1 hb1 hs1 hB1 => Calls.mono (record_inRange x48 _) ?_)
               rintro e w2 ⟨rfl, hb2⟩
               refine After.below rfl hb1 hs1 hB1 hb2 ?_
               clear hb2 hB1 hs1 hb1 w2 w1
               refine ol_g rfl rfl hs84 ?_
               refine ol_r (r_not rfl) rfl ?_
               refine ol_r (r_pickF rfl hs84 rfl) rfl ?_
               refine ol_r (r_assign rfl) rfl ?_
               refine ol_nil (to_k0 (fun _ _ h => h) (hK37 _ _ _ _ _ ?_))
               clear hK37
               refine wp_condNB rfl (fun hc72 => ?_) (fun hc72 => ?_)
               ·refine wp_seq' fun K40 hK40 => ?_
                refine wp_reg ?_
                refine ol_r (r_assign rfl) rfl ?_
                refine ol_nil (to_k0 (fun _ _ h => h) (hK40 _ _ _ _ _ ?_))
                clear hK40
                refine hQ.ret (rvs1 (rv_t rfl)) (fun _ _ h => h) fun w hb hs hB hkd => ?_
                first
                  | (have ho : ordS (ahead A.ss k) x48 = false := by
                       first
                         | (rw [ordS_0 (by omega), decide_eq_false (by omega)]; done)
                         | (rw [ordS_1 (by omega) hx67, decide_eq_false (by omega)]; done)
                     have h := chkE_bad hP hx48 (fS_9 (st := A.start) ho (by first | (left; omega) | (right; left; omega) | (right; right; simpa using hc72))) (by simp)
                     exact ⟨by rw [(chkA_s hH (by show chkE (fS A.start) none A.ss ≠ 0; rw [h]; simp)).trans h], hb⟩)
               ·refine wp_skip' (to_k0 (fun _ _ h => h) (hK18 _ _ _ _ _ ?_))
                clear hK18
                refine wp_reg ?_
                refine ol_r (r_add rfl rfl (by omega)) rfl ?_
                refine ol_r (r_move rfl) rfl ?_
                refine ol_nil (to_k0 (fun _ _ h => h) (hK15 (k + 1) _ _ ?_ ?_ (sub_cons rfl sub_nil) (sub_cons rfl (sub_cons rfl (sub_cons rfl sub_nil))) (by exact subH_nil) (subH_same rfl subH_nil)))
                ·try dsimp only
                 first
                   | (have ho := ordS_1 (ss := A.ss) (k := k) (x := x48) (by omega) hx67
                      have hy := hpos _ _ (by omega) hx67
                      rw [decide_eq_false (by omega)] at ho
                      exact ⟨by omega, chkE_next hP hx48 (fS_is ho (by omega) (by omega) (by simpa using hc72)), pos_next hpos hx48 (by omega)⟩)
                ·try dsimp only
                 omega
           ·have phs60 := hs60; try simp only [decide_eq_true_eq, decide_eq_false_iff_not, Bool.not_eq_true', Bool.not_eq_false', Bool.not_true, Bool.not_false] at phs60
            refine ql_s rfl rfl hs60 rfl ?_
            refine ql_s rfl rfl hs60 rfl ?_
            refine ql_s rfl rfl hs60 rfl ?_
            refine ql_s rfl rfl hs60 rfl ?_
            refine ql_s rfl rfl hs60 rfl ?_
            refine ql_s rfl rfl hs60 rfl ?_
            refine ql_s rfl rfl hs60 rfl ?_
            refine ql_s rfl rfl hs60 rfl ?_
            refine ql_s rfl rfl hs60 rfl ?_
            refine ql_s rfl rfl hs60 rfl ?_
            refine ql_r (r_pickF rfl hs60 rfl) rfl ?_
            refine ql_r (r_assign rfl) rfl ?_
            refine ql_nil (to_k0 (fun _ _ h => h) (hK20 _ _ _ _ _ ?_))
            clear hK20
            refine wp_condF rfl ?_
            refine wp_seq' fun K41 hK41 => ?_
            refine wp_reg ?_
            refine ol_r (r_fa (o' := 0) rfl fl70_0 rfl) rfl ?_
            refine ol_r (r_ld (id := 4) rfl rfl rfl sc3) rfl ?_
            refine ol_r (r_gtr rfl rfl) rfl ?_
            refine ol_r (r_move rfl) rfl ?_
            refine ol_split (d := 76) rfl (fun hs76 => ?_) (fun hs76 => ?_)
            ·have phs76 := hs76; try simp only [decide_eq_true_eq, decide_eq_false_iff_not, Bool.not_eq_true', Bool.not_eq_false', Bool.not_true, Bool.not_false] at phs76
             refine ol_s rfl rfl hs76 rfl ?_
             refine ol_s rfl rfl hs76 rfl ?_
             refine ol_s rfl rfl hs76 rfl ?_
             refine ol_s rfl rfl hs76 rfl ?_
             refine ol_s rfl rfl hs76 rfl ?_
             refine ol_s rfl rfl hs76 rfl ?_
             refine ol_r (r_pickT rfl hs76 rfl) rfl ?_
             refine ol_r (r_move rfl) rfl ?_
             refine ol_s rfl rfl rfl rfl ?_
             refine ol_s rfl rfl rfl rfl ?_
             refine ol_s rfl rfl rfl rfl ?_
             refine ol_r (r_pickT rfl rfl rfl) rfl ?_
             refine ol_r (r_assign rfl) rfl ?_
             refine ol_nil (to_k0 (fun _ _ h => h) (hK41 _ _ _ _ _ ?_))
             clear hK41
             refine wp_condT rfl ?_
             refine wp_seq' fun K42 hK42 => ?_
             refine wp_reg ?_
             refine ol_r (r_assign rfl) rfl ?_
             refine ol_nil (to_k0 (fun _ _ h => h) (hK42 _ _ _ _ _ ?_))
             clear hK42
             refine hQ.ret (rvs1 (rv_t rfl)) (fun _ _ h => h) fun w hb hs hB hkd => ?_
             first
               | (exfalso; omega)
            ·have phs76 := hs76; try simp only [decide_eq_true_eq, decide_eq_false_iff_not, Bool.not_eq_true', Bool.not_eq_false', Bool.not_true, Bool.not_false] at phs76
             refine ol_g rfl rfl hs76 ?_
             refine ol_r (r_fa (o' := 2) rfl fl57_2 rfl) rfl ?_
             refine ol_g rfl rfl hs76 ?_
             refine ol_r (r_ld (id := 1) rfl rfl rfl sc3) rfl ?_
             refine ol_g rfl rfl hs76 ?_
             refine ol_r (r_fa (o' := 0) rfl fl70_0 rfl) rfl ?_
             refine ol_g rfl rfl hs76 ?_
             refine ol_r (r_ld (id := 4) rfl rfl rfl sc3) rfl ?_
             refine ol_g rfl rfl hs76 ?_
             have hlo := hA.lo _ (List.mem_of_getElem? hx48)
             have hat : 0 ≤ x48.at_ := by
               first
                 | (have h1 := hpos _ _ (by omega) hx67
                    omega)
                 | omega
             refine ol_r (r_add rfl rfl (by omega)) rfl ?_
             refine ol_g rfl rfl hs76 ?_
             refine ol_r (r_gtr rfl rfl) rfl ?_
             refine ol_r (r_pickF rfl hs76 rfl) rfl ?_
             refine ol_r (r_move rfl) rfl ?_
             refine ol_split (d := 84) rfl (fun hs84 => ?_) (fun hs84 => ?_)
             ·have phs84 := hs84; try simp only [decide_eq_true_eq, decide_eq_false_iff_not, Bool.not_eq_true', Bool.not_eq_false', Bool.not_true, Bool.not_false] at phs84
              refine ol_s rfl rfl hs84 rfl ?_
              refine ol_s rfl rfl hs84 rfl ?_
              refine ol_s rfl rfl hs84 rfl ?_
              refine ol_r (r_pickT rfl hs84 rfl) rfl ?_
              refine ol_r (r_assign rfl) rfl ?_
              refine ol_nil (to_k0 (fun _ _ h => h) (hK41 _ _ _ _ _ ?_))
              clear hK41
              refine wp_condT rfl ?_
              refine wp_seq' fun K43 hK43 => ?_
              refine wp_reg ?_
              refine ol_r (r_assign rfl) rfl ?_
              refine ol_nil (to_k0 (fun _ _ h => h) (hK43 _ _ _ _ _ ?_))
              clear hK43
              refine hQ.ret (rvs1 (rv_t rfl)) (fun _ _ h => h) fun w hb hs hB hkd => ?_
              first
                | (exfalso; omega)
             ·have phs84 := hs84; try simp only [decide_eq_true_eq, decide_eq_false_iff_not, Bool.not_eq_true', Bool.not_eq_false', Bool.not_true, Bool.not_false] at phs84
              refine ol_g rfl rfl hs84 ?_
              refine ol_r (r_lda (id := 4) (n := 7) rfl rfl rfl ag70) rfl ?_
              refine ol_g rfl rfl hs84 ?_
              refine ol_call rfl rfl cb46 rfl (fun w1 hb1 hs1 hB1 => Calls.mono (record_inRange x48 _) ?_)
              rintro e w2 ⟨rfl, hb2⟩
              refine After.below rfl hb1 hs1 hB1 hb2 ?_
              clear hb2 hB1 hs1 hb1 w2 w1
              refine ol_g rfl rfl hs84 ?_
              refine ol_r (r_not rfl) rfl ?_
              refine ol_r (r_pickF rfl hs84 rfl) rfl ?_
              refine ol_r (r_assign rfl) rfl ?_
              refine ol_nil (to_k0 (fun _ _ h => h) (hK41 _ _ _ _ _ ?_))
              clear hK41
              refine wp_condNB rfl (fun hc72 => ?_) (fun hc72 => ?_)
              ·refine wp_seq' fun K44 hK44 => ?_
               refine wp_reg ?_
               refine ol_r (r_assign rfl) rfl ?_
               refine ol_nil (to_k0 (fun _ _ h => h) (hK44 _ _ _ _ _ ?_))
               clear hK44
               refine hQ.ret (rvs1 (rv_t rfl)) (fun _ _ h => h) fun w hb hs hB hkd => ?_
               first
                 | (exfalso; omega)
              ·refine wp_skip' (to_k0 (fun _ _ h => h) (hK18 _ _ _ _ _ ?_))
               clear hK18
               refine wp_reg ?_
               refine ol_r (r_add rfl rfl (by omega)) rfl ?_
               refine ol_r (r_move rfl) rfl ?_
               refine ol_nil (to_k0 (fun _ _ h => h) (hK15 (k + 1) _ _ ?_ ?_ (sub_cons rfl sub_nil) (sub_cons rfl (sub_cons rfl (sub_cons rfl sub_nil))) (by exact subH_nil) (subH_same rfl subH_nil)))
               ·try dsimp only
                first
                  | (exfalso; omega)
               ·try dsimp only
                omega
         ·refine wp_exit' (to_k0 (fun _ _ h => h) (hK13 _ _ _ _ _ ?_))
          clear hK13
          refine wp_seq' fun K45 hK45 => ?_
          refine wp_reg ?_
          refine ol_r (r_lda (id := 1) (n := 6) rfl rfl rfl ag57) rfl ?_
          have hS0 := chkE_end hP (by omega)
          refine ol_call rfl rfl cb41 rfl (fun w1 hb1 hs1 hB1 => Calls.mono (record_Span A _ (hA.at hb1 hB1)) ?_)
          rintro e w2 ⟨rfl, hb2⟩
          refine After.below rfl hb1 hs1 hB1 hb2 ?_
          clear hb2 hB1 hs1 hb1 w2 w1
          refine ol_r (r_assign rfl) rfl ?_
          refine ol_nil (to_k0 (fun _ _ h => h) (hK45 _ _ _ _ _ ?_))
          clear hK45
          refine wp_seq' fun K46 hK46 => ?_
          refine wp_seq' fun K47 hK47 => ?_
          refine wp_reg ?_
          refine ol_r (r_fa (o' := 4) rfl fl57_4 rfl) rfl ?_
          refine ol_r (r_ld (id := 1) rfl rfl rfl sc54) rfl ?_
          refine ol_r (r_len rfl sl54) rfl ?_
          refine ol_r (r_move rfl) rfl ?_
          refine ol_nil (to_k0 (fun _ _ h => h) (hK47 _ _ _ _ _ ?_))
          clear hK47
          refine wp_block' ?_
          apply wp_loopM (σ := Nat) (fun s => s ≤ A.ln ∧ chkE (fL (spanL A.ss)) none A.ls = chkE (fL (spanL A.ss)) (ahead A.ls s) (A.ls.drop s)) (fun s => [(95, .int .i64 s)]) [(1, _), (5, _), (93, _), (94, _)] (fun s => []) [(1, _)] (fun s => A.ln - s) (0)
          ·try dsimp only
           exact ⟨Nat.zero_le _, chkE_start _ _⟩
          ·exact (sub_cons rfl sub_nil)
          ·exact (sub_cons rfl (sub_cons rfl (sub_cons rfl (sub_cons rfl sub_nil))))
          ·exact subH_nil
          ·exact (subH_same rfl subH_nil)
          ·rintro k ⟨hk, hPl⟩
           intro K48 hK48
           refine wp_seq' fun K49 hK49 => ?_
           refine wp_reg ?_
           refine ol_r (r_lss rfl rfl) rfl ?_
           refine ol_nil (to_k0 (fun _ _ h => h) (hK49 _ _ _ _ _ ?_))
           clear hK49
           refine wp_seq' fun K50 hK50 => ?_
           refine wp_condD rfl (fun hc96 => ?_) (fun hc96 => ?_)
           ·refine wp_skip' (to_k0 (fun _ _ h => h) (hK50 _ _ _ _ _ ?_))
            clear hK50
            refine wp_seq' fun K51 hK51 => ?_
            refine wp_block' ?_
            refine wp_seq' fun K52 hK52 => ?_
            refine wp_reg ?_
            refine ol_r (r_move rfl) rfl ?_
            refine ol_ixr hA.l rfl rfl sl54 (by omega) rfl fun x98 hx98 => ?_
            try simp only [Int.toNat_natCast] at hx98
            refine ol_r (r_ldw rfl (fun w1 hb1 hs1 hB1 => Rd.loads hA.l ty110 hx98 hb1)) rfl ?_
            refine ol_alloc 7 z110 rfl fun b7 => ?_
            refine ol_r (r_assign rfl) rfl ?_
            refine ol_store (id := 7) rfl rfl rfl rfl sz110 rfl rfl (by first | decide | exact Nat.zero_lt_succ _ | simp) ?_
            refine ol_nil (to_k0 (fun _ _ h => h) (hK52 _ _ _ _ _ ?_))
            clear hK52
            refine wp_block' ?_
            refine wp_seq' fun K53 hK53 => ?_
            refine wp_reg ?_
            refine ol_r (r_fa (o' := 0) rfl fl110_0 rfl) rfl ?_
            refine ol_r (r_ld (id := 7) rfl rfl rfl sc3) rfl ?_
            refine ol_r (r_lss rfl rfl) rfl ?_
            refine ol_r (r_move rfl) rfl ?_
            refine ol_split (d := 104) rfl (fun hs104 => ?_) (fun hs104 => ?_)
            ·have phs104 := hs104; try simp only [decide_eq_true_eq, decide_eq_false_iff_not, Bool.not_eq_true', Bool.not_eq_false', Bool.not_true, Bool.not_false] at phs104
             refine ol_s rfl rfl hs104 rfl ?_
             refine ol_s rfl rfl hs104 rfl ?_
             refine ol_s rfl rfl hs104 rfl ?_
             refine ol_s rfl rfl hs104 rfl ?_
             refine ol_s rfl rfl hs104 rfl ?_
             refine ol_r (r_pickT rfl hs104 rfl) rfl ?_
             refine ol_r (r_move rfl) rfl ?_
             refine ol_s rfl rfl rfl rfl ?_
             refine ol_s rfl rfl rfl rfl ?_
             refine ol_s rfl rfl rfl rfl ?_
             refine ol_s rfl rfl rfl rfl ?_
             refine ol_r (r_pickT rfl rfl rfl) rfl ?_
             refine ol_r (r_assign rfl) rfl ?_
             refine ol_nil (to_k0 (fun _ _ h => h) (hK53 _ _ _ _ _ ?_))
             clear hK53
             refine wp_condT rfl ?_
             refine wp_seq' fun K54 hK54 => ?_
             refine wp_reg ?_
             refine ol_r (r_assign rfl) rfl ?_
             refine ol_nil (to_k0 (fun _ _ h => h) (hK54 _ _ _ _ _ ?_))
             clear hK54
             refine hQ.ret (rvs1 (rv_t rfl)) (fun _ _ h => h) fun w hb hs hB hkd => ?_
             first
               | (have h := chkE_bad hPl hx98 (fL_9 (by omega)) (by simp)
                  exact ⟨by rw [(chkA_l hH hS0 (by show chkE (fL (spanL A.ss)) none A.ls ≠ 0; rw [h]; simp)).trans h], hb⟩)
            ·have phs104 := hs104; try simp only [decide_eq_true_eq, decide_eq_false_iff_not, Bool.not_eq_true', Bool.not_eq_false', Bool.not_true, Bool.not_false] at phs104
             refine ol_g rfl rfl hs104 ?_
             refine ol_r (r_fa (o' := 0) rfl fl110_0 rfl) rfl ?_
             refine ol_g rfl rfl hs104 ?_
             refine ol_r (r_ld (id := 7) rfl rfl rfl sc3) rfl ?_
             refine ol_g rfl rfl hs104 ?_
             refine ol_r (r_fa (o' := 1) rfl fl110_1 rfl) rfl ?_
             refine ol_g rfl rfl hs104 ?_
             refine ol_r (r_ld (id := 7) rfl rfl rfl sc3) rfl ?_
             refine ol_g rfl rfl hs104 ?_
             refine ol_r (r_geq rfl rfl) rfl ?_
             refine ol_r (r_pickF rfl hs104 rfl) rfl ?_
             refine ol_r (r_move rfl) rfl ?_
             refine ol_split (d := 111) rfl (fun hs111 => ?_) (fun hs111 => ?_)
             ·have phs111 := hs111; try simp only [decide_eq_true_eq, decide_eq_false_iff_not, Bool.not_eq_true', Bool.not_eq_false', Bool.not_true, Bool.not_false] at phs111
              refine ol_s rfl rfl hs111 rfl ?_
              refine ol_s rfl rfl hs111 rfl ?_
              refine ol_s rfl rfl hs111 rfl ?_
              refine ol_s rfl rfl hs111 rfl ?_
              refine ol_r (r_pickT rfl hs111 rfl) rfl ?_
              refine ol_r (r_assign rfl) rfl ?_
              refine ol_nil (to_k0 (fun _ _ h => h) (hK53 _ _ _ _ _ ?_))
              clear hK53
              refine wp_condT rfl ?_
              refine wp_seq' fun K55 hK55 => ?_
              refine wp_reg ?_
              refine ol_r (r_assign rfl) rfl ?_
              refine ol_nil (to_k0 (fun _ _ h => h) (hK55 _ _ _ _ _ ?_))
              clear hK55
              refine hQ.ret (rvs1 (rv_t rfl)) (fun _ _ h => h) fun w hb hs hB hkd => ?_
              first
                | (have h := chkE_bad hPl hx98 (fL_9 (by omega)) (by simp)
                   exact ⟨by rw [(chkA_l hH hS0 (by show chkE (fL (spanL A.ss)) none A.ls ≠ 0; rw [h]; simp)).trans h], hb⟩)
             ·have phs111 := hs111; try simp only [decide_eq_true_eq, decide_eq_false_iff_not, Bool.not_eq_true', Bool.not_eq_false', Bool.not_true, Bool.not_false] at phs111
              refine ol_g rfl rfl hs111 ?_
              refine ol_r (r_fa (o' := 1) rfl fl110_1 rfl) rfl ?_
              refine ol_g rfl rfl hs111 ?_
              refine ol_r (r_ld (id := 7) rfl rfl rfl sc3) rfl ?_
              refine ol_g rfl rfl hs111 ?_
              refine ol_r (r_move rfl) rfl ?_
              refine ol_g rfl rfl hs111 ?_
              refine ol_r (r_gtr rfl rfl) rfl ?_
              refine ol_r (r_pickF rfl hs111 rfl) rfl ?_
              refine ol_r (r_assign rfl) rfl ?_
              refine ol_nil (to_k0 (fun _ _ h => h) (hK53 _ _ _ _ _ ?_))
              clear hK53
              refine wp_condD rfl (fun hc100 => ?_) (fun hc100 => ?_)
              ·refine wp_seq' fun K56 hK56 => ?_
               refine wp_reg ?_
               refine ol_r (r_assign rfl) rfl ?_
               refine ol_nil (to_k0 (fun _ _ h => h) (hK56 _ _ _ _ _ ?_))
               clear hK56
               refine hQ.ret (rvs1 (rv_t rfl)) (fun _ _ h => h) fun w hb hs hB hkd => ?_
               first
                 | (have h := chkE_bad hPl hx98 (fL_9 (by omega)) (by simp)
                    exact ⟨by rw [(chkA_l hH hS0 (by show chkE (fL (spanL A.ss)) none A.ls ≠ 0; rw [h]; simp)).trans h], hb⟩)
              ·refine wp_seq' fun K57 hK57 => ?_
               refine wp_regq (by kernel_rfl) (by kernel_rfl) ?_
               refine ql_r (r_move rfl) rfl ?_
               refine ql_r (r_gtr rfl rfl) rfl ?_
               refine ql_r (r_move rfl) rfl ?_
               refine ql_split (d := 120) rfl (fun hs120 => ?_) (fun hs120 => ?_)
               ·have phs120 := hs120; try simp only [decide_eq_true_eq, decide_eq_false_iff_not, Bool.not_eq_true', Bool.not_eq_false', Bool.not_true, Bool.not_false] at phs120
                refine ql_g rfl rfl hs120 ?_
                refine ql_r (r_fa (o' := 0) rfl fl110_0 rfl) rfl ?_
                refine ql_g rfl rfl hs120 ?_
                refine ql_r (r_ld (id := 7) rfl rfl rfl sc3) rfl ?_
                refine ql_g rfl rfl hs120 ?_
                refine ql_r (r_fa (o' := 4) rfl fl57_4 rfl) rfl ?_
                refine ql_g rfl rfl hs120 ?_
                refine ql_r (r_ld (id := 1) rfl rfl rfl sc54) rfl ?_
                refine ql_g rfl rfl hs120 ?_
                refine ql_r (r_move rfl) rfl ?_
                refine ql_g rfl rfl hs120 ?_
                refine ql_r (r_sub rfl rfl (by omega)) rfl ?_
                refine ql_g rfl rfl hs120 ?_
                refine ql_ixr hA.l rfl rfl sl54 (by omega) rfl fun x127 hx127 => ?_
                try simp only [Int.toNat_natCast] at hx127
                refine ql_g rfl rfl hs120 ?_
                refine ql_r (r_faw rfl (ix_some hA.l (by omega)) fl110_1) rfl ?_
                refine ql_g rfl rfl hs120 ?_
                refine ql_r (r_ldw rfl (fun w1 hb1 hs1 hB1 => Rd.loadsF (o := 1) hA.l sc3 hx127 hb1 rfl)) rfl ?_
                refine ql_g rfl rfl hs120 ?_
                refine ql_r (r_lss rfl rfl) rfl ?_
                refine ql_r (r_pickT rfl hs120 rfl) rfl ?_
                refine ql_r (r_assign rfl) rfl ?_
                refine ql_nil (to_k0 (fun _ _ h => h) (hK57 _ _ _ _ _ ?_))
                clear hK57
                refine wp_condD rfl (fun hc117 => ?_) (fun hc117 => ?_)
                ·refine wp_seq' fun K58 hK58 => ?_
                 refine wp_reg ?_
                 refine ol_r (r_assign rfl) rfl ?_
                 refine ol_nil (to_k0 (fun _ _ h => h) (hK58 _ _ _ _ _ ?_))
                 clear hK58
                 refine hQ.ret (rvs1 (rv_t rfl)) (fun _ _ h => h) fun w hb hs hB hkd => ?_
                 first
                   | (have h := chkE_bad hPl hx98 (fL_10 (by omega) (by rw [ordL_1 (by omega) hx127, decide_eq_true (by omega)])) (by simp)
                      exact ⟨by rw [(chkA_l hH hS0 (by show chkE (fL (spanL A.ss)) none A.ls ≠ 0; rw [h]; simp)).trans h], hb⟩)
                ·refine wp_seq' fun K59 hK59 => ?_
                 refine wp_reg ?_
                 refine ol_r (r_fa (o' := 2) rfl fl110_2 rfl) rfl ?_
                 refine ol_r (r_ld (id := 7) rfl rfl rfl sc9) rfl ?_
                 refine ol_call rfl rfl cb47 rfl (fun w1 hb1 hs1 hB1 => Calls.mono (record_IsTitle _ _ (hA.lm _ (List.mem_of_getElem? hx98))) ?_)
                 rintro e w2 ⟨rfl, hb2⟩
                 refine After.below rfl hb1 hs1 hB1 hb2 ?_
                 clear hb2 hB1 hs1 hb1 w2 w1
                 refine ol_r (r_not rfl) rfl ?_
                 refine ol_r (r_assign rfl) rfl ?_
                 refine ol_nil (to_k0 (fun _ _ h => h) (hK59 _ _ _ _ _ ?_))
                 clear hK59
                 refine wp_condNB rfl (fun hc132 => ?_) (fun hc132 => ?_)
                 ·refine wp_seq' fun K60 hK60 => ?_
                  refine wp_reg ?_
                  refine ol_r (r_assign rfl) rfl ?_
                  refine ol_nil (to_k0 (fun _ _ h => h) (hK60 _ _ _ _ _ ?_))
                  clear hK60
                  refine hQ.ret (rvs1 (rv_t rfl)) (fun _ _ h => h) fun w hb hs hB hkd => ?_
                  first
                    | (have ho : ordL (ahead A.ls k) x98 = false := by
                         first
                           | (rw [ordL_0 (by omega)]; done)
                           | (rw [ordL_1 (by omega) hx127, decide_eq_false (by omega)]; done)
                       have h := chkE_bad hPl hx98 (fL_8 (by omega) ho (by simpa using hc132)) (by simp)
                       exact ⟨by rw [(chkA_l hH hS0 (by show chkE (fL (spanL A.ss)) none A.ls ≠ 0; rw [h]; simp)).trans h], hb⟩)
                 ·refine wp_skip' (to_k0 (fun _ _ h => h) (hK51 _ _ _ _ _ ?_))
                  clear hK51
                  refine wp_reg ?_
                  refine ol_r (r_add rfl rfl (by omega)) rfl ?_
                  refine ol_r (r_move rfl) rfl ?_
                  refine ol_nil (to_k0 (fun _ _ h => h) (hK48 (k + 1) _ _ ?_ ?_ (sub_cons rfl sub_nil) (sub_cons rfl (sub_cons rfl (sub_cons rfl (sub_cons rfl sub_nil)))) (by exact subH_nil) (subH_same rfl subH_nil)))
                  ·try dsimp only
                   first
                     | (have ho := ordL_1 (ls := A.ls) (k := k) (x := x98) (by omega) hx127
                        rw [decide_eq_false (by omega)] at ho
                        exact ⟨by omega, chkE_next hPl hx98 (fL_0 (by omega) ho (by simpa using hc132))⟩)
                  ·try dsimp only
                   omega
               ·have phs120 := hs120; try simp only [decide_eq_true_eq, decide_eq_false_iff_not, Bool.not_eq_true', Bool.not_eq_false', Bool.not_true, Bool.not_false] at phs120
                refine ql_s rfl rfl hs120 rfl ?_
                refine ql_s rfl rfl hs120 rfl ?_
                refine ql_s rfl rfl hs120 rfl ?_
                refine ql_s rfl rfl hs120 rfl ?_
                refine ql_s rfl rfl hs120 rfl ?_
                refine ql_s rfl rfl hs120 rfl ?_
                refine ql_s rfl rfl hs120 rfl ?_
                refine ql_s rfl rfl hs120 rfl ?_
                refine ql_s rfl rfl hs120 rfl ?_
                refine ql_s rfl rfl hs120 rfl ?_
                refine ql_r (r_pickF rfl hs120 rfl) rfl ?_
                refine ql_r (r_assign rfl) rfl ?_
                refine ql_nil (to_k0 (fun _ _ h => h) (hK57 _ _ _ _ _ ?_))
                clear hK57
                refine wp_condF rfl ?_
                refine wp_seq' fun K61 hK61 => ?_
                refine wp_reg ?_
                refine ol_r (r_fa (o' := 2) rfl fl110_2 rfl) rfl ?_
                refine ol_r (r_ld (id := 7) rfl rfl rfl sc9) rfl ?_
                refine ol_call rfl rfl cb47 rfl (fun w1 hb1 hs1 hB1 => Calls.mono (record_IsTitle _ _ (hA.lm _ (List.mem_of_getElem? hx98))) ?_)
                rintro e w2 ⟨rfl, hb2⟩
                refine After.below rfl hb1 hs1 hB1 hb2 ?_
                clear hb2 hB1 hs1 hb1 w2 w1
                refine ol_r (r_not rfl) rfl ?_
                refine ol_r (r_assign rfl) rfl ?_
                refine ol_nil (to_k0 (fun _ _ h => h) (hK61 _ _ _ _ _ ?_))
                clear hK61
                refine wp_condNB rfl (fun hc132 => ?_) (fun hc132 => ?_)
                ·refine wp_seq' fun K62 hK62 => ?_
                 refine wp_reg ?_
                 refine ol_r (r_assign rfl) rfl ?_
                 refine ol_nil (to_k0 (fun _ _ h => h) (hK62 _ _ _ _ _ ?_))
                 clear hK62
                 refine hQ.ret (rvs1 (rv_t rfl)) (fun _ _ h => h) fun w hb hs hB hkd => ?_
                 first
                   | (have ho : ordL (ahead A.ls k) x98 = false := by
                        first
                          | (rw [ordL_0 (by omega)]; done)
                          | (rw [ordL_1 (by omega) hx127, decide_eq_false (by omega)]; done)
                      have h := chkE_bad hPl hx98 (fL_8 (by omega) ho (by simpa using hc132)) (by simp)
                      exact ⟨by rw [(chkA_l hH hS0 (by show chkE (fL (spanL A.ss)) none A.ls ≠ 0; rw [h]; simp)).trans h], hb⟩)
                ·refine wp_skip' (to_k0 (fun _ _ h => h) (hK51 _ _ _ _ _ ?_))
                 clear hK51
                 refine wp_reg ?_
                 refine ol_r (r_add rfl rfl (by omega)) rfl ?_
                 refine ol_r (r_move rfl) rfl ?_
                 refine ol_nil (to_k0 (fun _ _ h => h) (hK48 (k + 1) _ _ ?_ ?_ (sub_cons rfl sub_nil) (sub_cons rfl (sub_cons rfl (sub_cons rfl (sub_cons rfl sub_nil)))) (by exact subH_nil) (subH_same rfl subH_nil)))
                 ·try dsimp only
                  first
                    | (have ho := ordL_0 (ls := A.ls) (k := k) (x := x98) (by omega)
                       exact ⟨by omega, chkE_next hPl hx98 (fL_0 (by omega) ho (by simpa using hc132))⟩)
                 ·try dsimp only
                  omega
           ·refine wp_exit' (to_k0 (fun _ _ h => h) (hK46 _ _ _ _ _ ?_))
            clear hK46
            refine wp_seq' fun K63 hK63 => ?_
            refine wp_seq' fun K64 hK64 => ?_
            refine wp_reg ?_
            have hL0 := chkE_end hPl (by omega)
            refine ol_r (r_fa (o' := 5) rfl fl57_5 rfl) rfl ?_
            refine ol_r (r_ld (id := 1) rfl rfl rfl sc55) rfl ?_
            refine ol_r (r_len rfl sl55) rfl ?_
            refine ol_r (r_move rfl) rfl ?_
            refine ol_nil (to_k0 (fun _ _ h => h) (hK64 _ _ _ _ _ ?_))
            clear hK64
            refine wp_block' ?_
            apply wp_loopM (σ := Nat) (fun s => s ≤ A.tn ∧ chkE fT none A.ts = chkE fT (ahead A.ts s) (A.ts.drop s)) (fun s => [(141, .int .i64 s)]) [(1, _), (139, _), (140, _)] (fun s => []) [(1, _)] (fun s => A.tn - s) (0)
            ·try dsimp only
             exact ⟨Nat.zero_le _, chkE_start _ _⟩
            ·exact (sub_cons rfl sub_nil)
            ·exact (sub_cons rfl (sub_cons rfl (sub_cons rfl sub_nil)))
            ·exact subH_nil
            ·exact (subH_same rfl subH_nil)
            ·rintro k ⟨hk, hPt⟩
             intro K65 hK65
             refine wp_seq' fun K66 hK66 => ?_
             refine wp_reg ?_
             refine ol_r (r_lss rfl rfl) rfl ?_
             refine ol_nil (to_k0 (fun _ _ h => h) (hK66 _ _ _ _ _ ?_))
             clear hK66
             refine wp_seq' fun K67 hK67 => ?_
             refine wp_condD rfl (fun hc142 => ?_) (fun hc142 => ?_)
             ·refine wp_skip' (to_k0 (fun _ _ h => h) (hK67 _ _ _ _ _ ?_))
              clear hK67
              refine wp_seq' fun K68 hK68 => ?_
              refine wp_block' ?_
              refine wp_seq' fun K69 hK69 => ?_
              refine wp_reg ?_
              refine ol_r (r_move rfl) rfl ?_
              refine ol_ixr hA.t rfl rfl sl55 (by omega) rfl fun x144 hx144 => ?_
              try simp only [Int.toNat_natCast] at hx144
              refine ol_r (r_ldw rfl (fun w1 hb1 hs1 hB1 => Rd.loads hA.t ty9 hx144 hb1)) rfl ?_
              refine ol_r (r_assign rfl) rfl ?_
              refine ol_r (r_assign rfl) rfl ?_
              refine ol_nil (to_k0 (fun _ _ h => h) (hK69 _ _ _ _ _ ?_))
              clear hK69
              refine wp_block' ?_
              refine wp_seq' fun K70 hK70 => ?_
              refine wp_reg ?_
              refine ol_r (r_move rfl) rfl ?_
              refine ol_call rfl rfl cb32 rfl (fun w1 hb1 hs1 hB1 => Calls.mono (quant_IsName x144 _ (hA.tm _ (List.mem_of_getElem? hx144))) ?_)
              rintro e w2 ⟨rfl, hb2⟩
              refine After.below rfl hb1 hs1 hB1 hb2 ?_
              clear hb2 hB1 hs1 hb1 w2 w1
              refine ol_r (r_not rfl) rfl ?_
              refine ol_r (r_assign rfl) rfl ?_
              refine ol_nil (to_k0 (fun _ _ h => h) (hK70 _ _ _ _ _ ?_))
              clear hK70
              refine wp_condNB rfl (fun hc146 => ?_) (fun hc146 => ?_)
              ·refine wp_seq' fun K71 hK71 => ?_
               refine wp_reg ?_
               refine ol_r (r_assign rfl) rfl ?_
               refine ol_nil (to_k0 (fun _ _ h => h) (hK71 _ _ _ _ _ ?_))
               clear hK71
               refine hQ.ret (rvs1 (rv_t rfl)) (fun _ _ h => h) fun w hb hs hB hkd => ?_
               first
                 | (have h := chkE_bad hPt hx144 (fT_8 (by simpa using hc146)) (by simp)
                    exact ⟨by rw [(chkA_t hH hS0 hL0).trans h], hb⟩)
              ·refine wp_seq' fun K72 hK72 => ?_
               refine wp_reg ?_
               refine ol_r (r_move rfl) rfl ?_
               refine ol_r (r_gtr rfl rfl) rfl ?_
               refine ol_r (r_move rfl) rfl ?_
               refine ol_split (d := 153) rfl (fun hs153 => ?_) (fun hs153 => ?_)
               ·have phs153 := hs153; try simp only [decide_eq_true_eq, decide_eq_false_iff_not, Bool.not_eq_true', Bool.not_eq_false', Bool.not_true, Bool.not_false] at phs153
                refine ol_g rfl rfl hs153 ?_
                refine ol_r (r_move rfl) rfl ?_
                refine ol_g rfl rfl hs153 ?_
                refine ol_r (r_fa (o' := 5) rfl fl57_5 rfl) rfl ?_
                refine ol_g rfl rfl hs153 ?_
                refine ol_r (r_ld (id := 1) rfl rfl rfl sc55) rfl ?_
                refine ol_g rfl rfl hs153 ?_
                refine ol_r (r_move rfl) rfl ?_
                refine ol_g rfl rfl hs153 ?_
                refine ol_r (r_sub rfl rfl (by omega)) rfl ?_
                refine ol_g rfl rfl hs153 ?_
                refine ol_ixr hA.t rfl rfl sl55 (by omega) rfl fun x159 hx159 => ?_
                try simp only [Int.toNat_natCast] at hx159
                refine ol_g rfl rfl hs153 ?_
                refine ol_r (r_ldw rfl (fun w1 hb1 hs1 hB1 => Rd.loads hA.t ty9 hx159 hb1)) rfl ?_
                refine ol_g rfl rfl hs153 ?_
                refine ol_r (r_sleq rfl rfl) rfl ?_
                refine ol_r (r_pickT rfl hs153 rfl) rfl ?_
                refine ol_r (r_assign rfl) rfl ?_
                refine ol_nil (to_k0 (fun _ _ h => h) (hK72 _ _ _ _ _ ?_))
                clear hK72
                refine wp_cond' rfl (fun hc150 => ?_) (fun hc150 => ?_)
                ·refine wp_seq' fun K73 hK73 => ?_
                 refine wp_reg ?_
                 refine ol_r (r_assign rfl) rfl ?_
                 refine ol_nil (to_k0 (fun _ _ h => h) (hK73 _ _ _ _ _ ?_))
                 clear hK73
                 refine hQ.ret (rvs1 (rv_t rfl)) (fun _ _ h => h) fun w hb hs hB hkd => ?_
                 first
                   | (have hc : sLe x144 x159 = true := hc150
                      have h := chkE_bad hPt hx144 (fT_10 (by simpa using hc146) (by rw [ordT_1 (by omega) hx159, hc])) (by simp)
                      exact ⟨by rw [(chkA_t hH hS0 hL0).trans h], hb⟩)
                ·refine wp_skip' (to_k0 (fun _ _ h => h) (hK68 _ _ _ _ _ ?_))
                 clear hK68
                 refine wp_reg ?_
                 refine ol_r (r_add rfl rfl (by omega)) rfl ?_
                 refine ol_r (r_move rfl) rfl ?_
                 refine ol_nil (to_k0 (fun _ _ h => h) (hK65 (k + 1) _ _ ?_ ?_ (sub_cons rfl sub_nil) (sub_cons rfl (sub_cons rfl (sub_cons rfl sub_nil))) (by exact subH_nil) (subH_same rfl subH_nil)))
                 ·try dsimp only
                  first
                    | (have ho := ordT_1 (ts := A.ts) (k := k) (x := x144) (by omega) hx159
                       have hc : sLe x144 x159 = false := hc150
                       rw [hc] at ho
                       exact ⟨by omega, chkE_next hPt hx144 (fT_0 (by simpa using hc146) ho)⟩)
                 ·try dsimp only
                  omega
               ·have phs153 := hs153; try simp only [decide_eq_true_eq, decide_eq_false_iff_not, Bool.not_eq_true', Bool.not_eq_false', Bool.not_true, Bool.not_false] at phs153
                refine ol_s rfl rfl hs153 rfl ?_
                refine ol_s rfl rfl hs153 rfl ?_
                refine ol_s rfl rfl hs153 rfl ?_
                refine ol_s rfl rfl hs153 rfl ?_
                refine ol_s rfl rfl hs153 rfl ?_
                refine ol_s rfl rfl hs153 rfl ?_
                refine ol_s rfl rfl hs153 rfl ?_
                refine ol_s rfl rfl hs153 rfl ?_
                refine ol_r (r_pickF rfl hs153 rfl) rfl ?_
                refine ol_r (r_assign rfl) rfl ?_
                refine ol_nil (to_k0 (fun _ _ h => h) (hK72 _ _ _ _ _ ?_))
                clear hK72
                refine wp_condF rfl ?_
                refine wp_skip' (to_k0 (fun _ _ h => h) (hK68 _ _ _ _ _ ?_))
                clear hK68
                refine wp_reg ?_
                refine ol_r (r_add rfl rfl (by omega)) rfl ?_
                refine ol_r (r_move rfl) rfl ?_
                refine ol_nil (to_k0 (fun _ _ h => h) (hK65 (k + 1) _ _ ?_ ?_ (sub_cons rfl sub_nil) (sub_cons rfl (sub_cons rfl (sub_cons rfl sub_nil))) (by exact subH_nil) (subH_same rfl subH_nil)))
                ·try dsimp only
                 first
                   | (have ho := ordT_0 (ts := A.ts) (k := k) (x := x144) (by omega)
                      exact ⟨by omega, chkE_next hPt hx144 (fT_0 (by simpa using hc146) ho)⟩)
                ·try dsimp only
                 omega
             ·refine wp_exit' (to_k0 (fun _ _ h => h) (hK63 _ _ _ _ _ ?_))
              clear hK63
              refine wp_seq' fun K74 hK74 => ?_
              refine wp_reg ?_
              refine ol_r (r_assign rfl) rfl ?_
              refine ol_nil (to_k0 (fun _ _ h => h) (hK74 _ _ _ _ _ ?_))
              clear hK74
              refine hQ.ret (rvs1 (rv_t rfl)) (fun _ _ h => h) fun w hb hs hB hkd => ?_
              first
                | (exact ⟨by rw [(chkA_t hH hS0 hL0).trans (chkE_end hPt (by omega))], hb⟩)
end Go.Proofs.Ytfbmkepogcimlaa

/-
  Check: the reference.
-/


namespace Go.Proofs.Ytfbmkepogcimlaa
open Go Go.RowKit Hx
set_option linter.unusedVariables false
set_option linter.unusedSimpArgs false
set_option maxRecDepth 8000
end Go.Proofs.Ytfbmkepogcimlaa

/-
  More rules: structs within structs.
-/

namespace Go.Proofs.Ytfbmkepogcimlaa.Hx
open Go Go.RowKit
set_option linter.unusedVariables false
set_option linter.unusedSimpArgs false
section
variable {P : Program} {B : Nat} {w0 : World} {H : HL} {α : Type} {E : Enc α} {a : Option Addr} {n cap : Nat} {xs : List α}
theorem Rd.loadsFA {w : World} {t : TypeId} {x : α} {i o m : Nat} {us : List Value} (h : Rd E B w0 a n cap xs) (hT : Aggr P t m) (hx : xs[i]? = some x) (hb : Below B w0 w) (hu : ((E.cells x).drop o).take m = us) (hm : us.length = m) :
    Loads P w t ((a.map (·.add (i * E.size))).map (·.add o)) (.agg us.toArray) := by
  obtain ⟨b, off, rfl, h2, h3⟩ := (h.below hb).cell i x hx
  refine ⟨_, rfl, ?_⟩
  simp only [add_none]
  refine run_loadVar_agg (by rw [hm]; exact hT) fun j u hj => ?_
  rw [add_none, Nat.add_assoc, Nat.add_assoc, ← Nat.add_assoc]
  refine h3 (o + j) u ?_
  subst hu
  rw [List.getElem?_take] at hj
  split at hj
  · rw [List.getElem?_drop] at hj; exact hj
  · cases hj
theorem ld_ownFA {w : World} {t e : TypeId} {id size i o m : Nat} {x : α} {us : List Value} (hs : Sat B w H) (hH : look H id = some (.row a n cap (E.enc xs) e size)) (hz : size = E.size) (hT : Aggr P t m) (hx : xs[i]? = some x) (hu : ((E.cells x).drop o).take m = us) (hm : us.length = m) : Loads P w t ((a.map (·.add (i * E.size))).map (·.add o)) (.agg us.toArray) :=
  (hs.rd hH hz).loadsFA hT hx (Below.refl _ _) hu hm
end
section
variable {P : Program} {N : Fr} {B : Nat} {w0 : World} {Q : Exit → Act → World → Prop} {al : AL} {H : HL} {ops : Array Oper} {Ss : List (Nat × HL)} {n : Nat} {listed : Array Bool}
theorem aq_three {i j l : Nat} {o o' o2 : Oper} (hr : Region.ready .any ops listed = [i, j, l]) (ho : ops[i]? = some o) (ho' : ops[j]? = some o') (ho2 : ops[l]? = some o2)
    (h : Next P N B w0 ops Q Ss n listed al H i o) (h' : Next P N B w0 ops Q Ss n listed al H j o') (h2 : Next P N B w0 ops Q Ss n listed al H l o2) : AQ P N B w0 ops Q Ss (n + 1) listed al H := by
  intro hsh a w hst hS
  refine ⟨fun h0 => (by rw [hr] at h0; cases h0), fun k hk => ?_⟩
  have hk' := hk
  rw [hr] at hk'
  rcases (by simpa using hk' : k = i ∨ k = j ∨ k = l) with rfl | rfl | rfl
  · exact aq_op ho (hsh.set hk) h a w hst
  · exact aq_op ho' (hsh.set hk) h' a w hst
  · exact aq_op ho2 (hsh.set hk) h2 a w hst
end
section
variable {P : Program}
/-- The fields from number i on lie one behind the other, and the values fit them; fields that are structs, too. -/
def okFG (P : Program) : Nat → List Field → Nat → List Value → List Value → Bool
  | 0, _, _, _, _ => false
  | _ + 1, [], _, [], [] => true
  | _ + 1, [], _, _, _ => false
  | k + 1, f :: fs, i, us, vs => !(f.name == "_") && Nat.beq f.offset i && (match P.underlying f.type with
    | some (.struct gs) => (match P.info? f.type with
      | some inf => Nat.ble inf.size us.length && Nat.ble inf.size vs.length && !P.stoodInHeld f.type && okFG P k gs.toList 0 (us.take inf.size) (vs.take inf.size) && okFG P k fs (i + inf.size) (us.drop inf.size) (vs.drop inf.size)
      | none => false)
    | some (.int _) => (match us, vs with | .int k1 _ :: us, .int k2 _ :: vs => decide (k1 = k2) && okFG P k fs (i + 1) us vs | _, _ => false)
    | some .bool => (match us, vs with | .bool _ :: us, .bool _ :: vs => okFG P k fs (i + 1) us vs | _, _ => false)
    | some .string => (match us, vs with | .string _ :: us, .string _ :: vs => okFG P k fs (i + 1) us vs | _, _ => false)
    | _ => false)
theorem eqs_app : ∀ (us us' vs vs' : List Value), us.length = vs.length → eqs (us ++ us') (vs ++ vs') = (eqs us vs && eqs us' vs')
  | [], us', [], vs', _ => by simp [eqs]
  | u :: us, us', v :: vs, vs', h => by
    simp only [List.cons_append, eqs]
    rw [eqs_app us us' vs vs' (by simpa using h), Bool.and_assoc]
theorem run_eqFG {w : World} : ∀ (k d : Nat) {xs ys : Array Value} {fs : List Field} {i : Nat} {us vs : List Value}, k ≤ d → okFG P k fs i us vs = true → (∀ j u, us[j]? = some u → xs[i + j]? = some u) → (∀ j v, vs[j]? = some v → ys[i + j]? = some v) →
    (Op.eqFields (d + 1) xs ys fs).run P w = .ok (eqs us vs) w
  | 0, _, _, _, _, _, _, _, _, h, _, _ => by simp [okFG] at h
  | k + 1, d, xs, ys, [], i, us, vs, hd, h, h1, h2 => by
    cases us with
    | nil => cases vs with
      | nil => simp [Op.eqFields, eqs]
      | cons v vs => simp [okFG] at h
    | cons u us => simp [okFG] at h
  | k + 1, d, xs, ys, f :: fs, i, us, vs, hd, h, h1, h2 => by
    unfold okFG at h
    rw [Bool.and_eq_true, Bool.and_eq_true] at h
    obtain ⟨⟨q1, q2⟩, q3⟩ := h
    have hoff : f.offset = i := Nat.eq_of_beq_eq_true q2
    have hname : f.name ≠ "_" := by simpa using q1
    have step : ∀ (u v : Value) (us' vs' : List Value) (m : Nat) (b : Bool), (part f.type xs f.offset).run P w = .ok u w → (part f.type ys f.offset).run P w = .ok v w → (Op.equalIn (d + 1) f.type u v).run P w = .ok b w →
        okFG P k fs (i + m) us' vs' = true → (∀ j u, us'[j]? = some u → xs[i + m + j]? = some u) → (∀ j v, vs'[j]? = some v → ys[i + m + j]? = some v) → eqs us vs = (b && eqs us' vs') → (Op.eqFields (d + 1) xs ys (f :: fs)).run P w = .ok (eqs us vs) w := by
      intro u v us' vs' m b p1 p2 p3 hr r1 r2 he
      have ih := run_eqFG k d (xs := xs) (ys := ys) (w := w) (by omega) hr r1 r2
      unfold Op.eqFields
      rw [if_pos hname]
      simp only [Sem.run_bind, p1, p2, p3, Result.andThen_ok]
      cases hb : b with
      | false => rw [he, hb]; simp
      | true => rw [he, hb]; simp [ih]
    have one : ∀ (dd : TypeDesc) (u v : Value) (us' vs' : List Value), P.underlying f.type = some dd → (match dd with | .int _ | .bool | .string => true | _ => false) = true → us = u :: us' → vs = v :: vs' → (Op.equalIn (d + 1) f.type u v).run P w = .ok (eqV u v) w →
        okFG P k fs (i + 1) us' vs' = true → (Op.eqFields (d + 1) xs ys (f :: fs)).run P w = .ok (eqs us vs) w := by
      intro dd u v us' vs' hdd hp hus hvs p3 hr
      subst hus; subst hvs
      have hagg : (isAgg f.type).run P w = .ok false w := by
        simp only [isAgg, Sem.run_bind, run_underlying hdd, Result.andThen_ok]
        cases dd <;> first | rfl | (simp at hp)
      have hu : xs[i]? = some u := by simpa using h1 0 u rfl
      have hv : ys[i]? = some v := by simpa using h2 0 v rfl
      refine step u v us' vs' 1 (eqV u v) (by rw [hoff]; simp [part, hagg, hu]) (by rw [hoff]; simp [part, hagg, hv]) p3 hr ?_ ?_ rfl
      · intro j u' hj; have := h1 (j + 1) u' (by simpa using hj); rwa [show i + (j + 1) = i + 1 + j from by omega] at this
      · intro j v' hj; have := h2 (j + 1) v' (by simpa using hj); rwa [show i + (j + 1) = i + 1 + j from by omega] at this
    split at q3
    · rename_i gs hgs
      split at q3
      · rename_i inf hinf
        rw [Bool.and_eq_true, Bool.and_eq_true, Bool.and_eq_true, Bool.and_eq_true] at q3
        obtain ⟨⟨⟨⟨a1, a2⟩, a3⟩, a4⟩, a5⟩ := q3
        have l1 : inf.size ≤ us.length := by simpa using a1
        have l2 : inf.size ≤ vs.length := by simpa using a2
        have hagg : (isAgg f.type).run P w = .ok true w := by simp [isAgg, Sem.run_bind, run_underlying hgs, Result.andThen_ok]
        have hsz : (sizeOf f.type).run P w = .ok inf.size w := by simp [sizeOf, typeInfo, hinf]
        have hf : P.fieldsOf f.type = gs := by simp [Program.fieldsOf, hgs]
        have cut : ∀ (zs : Array Value) (ws : List Value), inf.size ≤ ws.length → (∀ j u, ws[j]? = some u → zs[i + j]? = some u) → ∀ j u, (ws.take inf.size)[j]? = some u → (zs.extract i (i + inf.size))[0 + j]? = some u := by
          intro zs ws hl hz j u hj
          rw [List.getElem?_take] at hj
          split at hj
          · rename_i hlt
            have h3 := hz j u hj
            have h4 := (Array.getElem?_eq_some_iff.1 h3).1
            rw [Nat.zero_add, Array.getElem?_extract, if_pos (by omega)]
            exact h3
          · cases hj
        obtain ⟨d', rfl⟩ : ∃ d', d = d' + 1 := ⟨d - 1, by omega⟩
        have inner : (Op.equalIn (d' + 1 + 1) f.type (.agg (xs.extract i (i + inf.size))) (.agg (ys.extract i (i + inf.size)))).run P w = .ok (eqs (us.take inf.size) (vs.take inf.size)) w := by
          rw [run_equalIn_struct (w := w) (d' + 1) f.type _ _ (by rw [hf]; exact hgs) (by simpa using a3), hf]
          exact run_eqFG k d' (by omega) a4 (cut xs us l1 h1) (cut ys vs l2 h2)
        refine step _ _ (us.drop inf.size) (vs.drop inf.size) inf.size _ (by rw [hoff]; simp [part, hagg, hsz]) (by rw [hoff]; simp [part, hagg, hsz]) inner a5 ?_ ?_ ?_
        · intro j u hj; rw [List.getElem?_drop] at hj; have := h1 _ u hj; rwa [← Nat.add_assoc] at this
        · intro j v hj; rw [List.getElem?_drop] at hj; have := h2 _ v hj; rwa [← Nat.add_assoc] at this
        · rw [← eqs_app _ _ _ _ (by simp; omega), List.take_append_drop, List.take_append_drop]
      · cases q3
    · rename_i kk hdd
      split at q3
      · rename_i k1 a us k2 b vs
        rw [Bool.and_eq_true] at q3
        have hk : k1 = k2 := by simpa using q3.1
        subst hk
        exact one _ _ _ _ _ hdd rfl rfl rfl (by rw [run_equalIn_int w d f.type k1 kk a b hdd]; rfl) q3.2
      · cases q3
    · rename_i hdd
      split at q3
      · rename_i a us b vs
        exact one _ _ _ _ _ hdd rfl rfl rfl (run_equalIn_bool' w d f.type a b hdd) q3
      · cases q3
    · rename_i hdd
      split at q3
      · rename_i a us b vs
        exact one _ _ _ _ _ hdd rfl rfl rfl (by simp [Op.equalIn, run_underlying hdd, eqV]) q3
      · cases q3
    · cases q3
def okSG (P : Program) (t : TypeId) (us vs : List Value) : Bool := match P.underlying t with | some (.struct fs) => okFG P 50 fs.toList 0 us vs | _ => false
theorem run_eqsG {t : TypeId} {us vs : List Value} (h : okSG P t us vs = true) (hp : P.stoodInHeld t = false) (w : World) : (Op.equalIn 10000 t (.agg us.toArray) (.agg vs.toArray)).run P w = .ok (eqs us vs) w := by
  unfold okSG at h
  split at h
  · rename_i fs hu
    have hf : P.fieldsOf t = fs := by simp [Program.fieldsOf, hu]
    rw [show (10000 : Nat) = 9999 + 1 from rfl, run_equalIn_struct (w := w) 9999 t _ _ (by rw [hf]; exact hu) hp, hf]
    exact run_eqFG 50 9998 (by omega) h (fun j u hj => by simpa using hj) (fun j u hj => by simpa using hj)
  · simp at h
end
end Go.Proofs.Ytfbmkepogcimlaa.Hx
