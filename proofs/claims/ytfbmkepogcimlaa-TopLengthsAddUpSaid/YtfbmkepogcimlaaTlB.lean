/-
  More rules of the logic: regions that draw their order, of whatever shape: an operation that yields the same in every world that keeps H0 is taken first; one that stands alone is carried out.
-/
import Derived.OrdersHeld
import Derived.StillTail
import Derived.Deep.RegionHeld3
import Derived.RangeFuncNested
import Derived.OrdersIn
import Derived.TacticsIn
import Derived.Laws.Strings
import Derived.Laws.Cover1
import Derived.Lib.SlicesCompact
import Derived.Sort.EncStr
import Derived.Test.YtfbmkepogcimlaaTlA




namespace Go.Proofs.Ytfbmkepogcimlaa.Hx
open Go Go.RowKit
set_option linter.unusedVariables false
set_option linter.unusedSimpArgs false
set_option linter.unusedSectionVars false
section
variable {P : Program} {N : Fr} {B : Nat} {w0 : World} {Q : Exit → Act → World → Prop} {al : AL} {H : HL} {ops : Array Oper} {n : Nat} {listed : Array Bool} {Ss : List (Nat × HL)}
/-- As long as operation j has not come up, the entries of its stage hold. -/
def Stg (N : Fr) (B : Nat) (w0 : World) (Ss : List (Nat × HL)) (listed : Array Bool) (w : World) : Prop := ∀ p ∈ Ss, listed.getD p.1 false = false → Cl N B w0 p.2 w
/-- What has come up is closed under what it waits for. -/
def Shut (ops : Array Oper) (listed : Array Bool) : Prop := listed.size = ops.size ∧ ∀ j oj, ops[j]? = some oj → listed.getD j false = true → ∀ e ∈ oj.after, Region.binds .any e = true → listed.getD e.on false = true
theorem Shut.start (ops : Array Oper) : Shut ops (Array.replicate ops.size false) := ⟨by simp, fun j oj _ hl => by rw [getD_replicate_false] at hl; cases hl⟩
theorem Shut.set {i : Nat} (h : Shut ops listed) (hi : i ∈ Region.ready .any ops listed) : Shut ops (listed.setIfInBounds i true) := by
  obtain ⟨_, oi, hoi, hall⟩ := mem_ready.1 hi
  refine ⟨by simp [h.1], ?_⟩
  intro j oj hj hl e he hb
  by_cases hij : i = j
  · subst hij
    have : oj = oi := Option.some.inj (hj.symm.trans hoi)
    subst this
    exact getD_set_true (hall e he hb)
  · rw [getD_set_ne false hij] at hl
    exact getD_set_true (h.2 j oj hj hl e he hb)
theorem Stg.set {i : Nat} {w : World} (h : Stg N B w0 Ss listed w) : Stg N B w0 Ss (listed.setIfInBounds i true) w := fun p hp hl => by
  by_cases hi : i = p.1
  · subst hi
    cases h1 : listed.getD p.1 false with
    | true => have := getD_set_true (i := p.1) h1; rw [this] at hl; cases hl
    | false => exact h p hp h1
  · rw [getD_set_ne false hi] at hl; exact h p hp hl
theorem Stg.unset {i : Nat} {w : World} (h : Stg N B w0 Ss (listed.setIfInBounds i true) w) (hn : ∀ p ∈ Ss, p.1 ≠ i) : Stg N B w0 Ss listed w := fun p hp hl =>
  h p hp (by rw [getD_set_ne false (Ne.symm (hn p hp))]; exact hl)
/-- Whatever order is picked from here on; the stages hold behind every operation. -/
def AnyS (P : Program) (ops : Array Oper) (Q : Exit → Act → World → Prop) (N : Fr) (B : Nat) (w0 : World) (Ss : List (Nat × HL)) : Nat → Array Bool → Act → World → Prop
  | 0, listed, a, w => Region.ready .any ops listed = [] ∧ Q .normal a w
  | f + 1, listed, a, w => (Region.ready .any ops listed = [] → Q .normal a w) ∧
    ∀ i ∈ Region.ready .any ops listed, wpOp P ops Q i (fun a' w' => Stg N B w0 Ss (listed.setIfInBounds i true) w' ∧ AnyS P ops Q N B w0 Ss f (listed.setIfInBounds i true) a' w') a w
theorem AnyS.any {Q : Exit → Act → World → Prop} : ∀ (f : Nat) (listed : Array Bool) (a : Act) (w : World), AnyS P ops Q N B w0 Ss f listed a w → wpAny P .any ops Q f listed a w
  | 0, _, _, _, h => h
  | f + 1, _, _, _, h => ⟨h.1, fun i hi => wpOp_mono (fun a' w' h' => AnyS.any f _ a' w' h'.2) (h.2 i hi)⟩
/-- A world that may be there while i has not come up. -/
def While (ops : Array Oper) (N : Fr) (B : Nat) (w0 : World) (Ss : List (Nat × HL)) (i : Nat) (w : World) : Prop := ∃ listed, Shut ops listed ∧ listed.getD i true = false ∧ Stg N B w0 Ss listed w
theorem AnyS.first {Q : Exit → Act → World → Prop} {i : Nat} {oi : Oper} {v : Value} (hi : ops[i]? = some oi) (hsel : ∀ (j : Nat) (o : Oper) cs b, ops[j]? = some o → o.op ≠ .select cs b)
    (hQ : ∀ c a w, Q (.panic c) (a.put oi.dst v) w → Q (.panic c) a w) (hn : ∀ p ∈ Ss, p.1 ≠ i) :
    ∀ (f : Nat) (listed : Array Bool) (a : Act) (w : World),
      (∀ j oj, ops[j]? = some oj → j ≠ i → listed.getD j true = false → (∀ e ∈ oj.after, Region.binds .any e = true → e.on ≠ i) → oi.apart ops oj = true) →
      i ∈ Region.ready .any ops listed → Shut ops listed → YieldsIf P ops (While ops N B w0 Ss i) oi v a → Stg N B w0 Ss listed w →
      AnyS P ops Q N B w0 Ss f (listed.setIfInBounds i true) (a.put oi.dst v) w → AnyS P ops Q N B w0 Ss (f + 1) listed a w := by
  intro f
  induction f with
  | zero =>
    intro listed a w _ hr hsh hy hS h
    refine ⟨fun h0 => (by rw [h0] at hr; cases hr), fun j hj => ?_⟩
    by_cases hji : j = i
    · subst hji; exact hy.wpOp hi ⟨listed, hsh, (mem_ready.1 hr).1, hS⟩ ⟨hS.set, h⟩
    · have := ready_mono hj hji
      rw [h.1] at this
      cases this
  | succ f ih =>
    intro listed a w hfree hr hsh hy hS h
    refine ⟨fun h0 => (by rw [h0] at hr; cases hr), fun j hj => ?_⟩
    by_cases hji : j = i
    · subst hji; exact hy.wpOp hi ⟨listed, hsh, (mem_ready.1 hr).1, hS⟩ ⟨hS.set, h⟩
    · obtain ⟨hjun, oj, hoj, hall⟩ := mem_ready.1 hj
      have hiun := (mem_ready.1 hr).1
      have hnot : ∀ e ∈ oj.after, Region.binds .any e = true → e.on ≠ i := fun e he hb heq => by
        have h1 := hall e he hb
        rw [heq, getD_both hiun] at h1
        cases h1
      have h2 := wpOp_putIf hoj (hfree j oj hoj hji hjun hnot) (fun cs b => hsel i oi cs b hi) (fun cs b => hsel j oj cs b hoj) hQ hy (h.2 j (ready_mono hj hji))
      have hfree' : ∀ k ok, ops[k]? = some ok → k ≠ i → (listed.setIfInBounds j true).getD k true = false → (∀ e ∈ ok.after, Region.binds .any e = true → e.on ≠ i) → oi.apart ops ok = true := fun k ok hk hki hun hno => by
        by_cases hjk : j = k
        · subst hjk; exact hfree j ok hk hki hjun hno
        · rw [getD_set_ne true hjk] at hun; exact hfree k ok hk hki hun hno
      refine wpOp_mono (fun a' w' h3 => ?_) h2
      obtain ⟨h4, h5, h6⟩ := h3
      rw [Array.setIfInBounds_comm _ _ (Ne.symm hji)] at h5 h6
      have h7 := Stg.unset h5 hn
      exact ⟨h7, ih (listed.setIfInBounds j true) a' w' hfree' (ready_mono hr (Ne.symm hji)) (hsh.set hj) h4 h7 h6⟩
def AQ (P : Program) (N : Fr) (B : Nat) (w0 : World) (ops : Array Oper) (Q : Exit → Act → World → Prop) (Ss : List (Nat × HL)) (n : Nat) (listed : Array Bool) (al : AL) (H : HL) : Prop :=
  Shut ops listed → ∀ a w, St N B w0 al H a w → Stg N B w0 Ss listed w → AnyS P ops (NoPanic Q) N B w0 Ss n listed a w
/-- The stages that have not come up hold in H. -/
def Holds (listed : Array Bool) (H : HL) : List (Nat × HL) → Prop
  | [] => True
  | p :: r => (listed.getD p.1 false = true ∨ SubH p.2 H) ∧ Holds listed H r
theorem Holds.stg {a : Act} {w : World} (hst : St N B w0 al H a w) : ∀ {Ss : List (Nat × HL)}, Holds listed H Ss → Stg N B w0 Ss listed w
  | [], _ => fun p hp => by cases hp
  | q :: r, h => fun p hp hl => by
    rcases List.mem_cons.1 hp with rfl | hp
    · rcases h.1 with h1 | h1
      · rw [h1] at hl; cases hl
      · exact ⟨hst.below, hst.sat.sub h1, hst.base, hst.kd, hst.marks⟩
    · exact Holds.stg hst h.2 p hp hl
theorem wp_rega {id : Nat} {ops : Array Oper} (Ss : List (Nat × HL)) (hm : P.follows .mixedOrders = true) (hh : Holds (Array.replicate ops.size false) H Ss) (h : AQ P N B w0 ops Q Ss ops.size (Array.replicate ops.size false) al H) :
    WP P N B w0 (.region id ops true) Q al H := by
  intro a w hst
  exact d_any hm (wpAny_q NoPanic.imp _ _ _ _ (AnyS.any _ _ _ _ (h (Shut.start _) a _ hst.drew (Holds.stg hst.drew hh))))
theorem aq_done (hr : Region.ready .any ops listed = []) (h : QP N B w0 Q .normal al H) : AQ P N B w0 ops Q Ss n listed al H :=
  fun _ a w hst _ => by
    cases n with
    | zero => exact ⟨hr, h a w hst⟩
    | succ n => exact ⟨fun _ => h a w hst, by rw [hr]; simp⟩
/-- In every world that may be there while i has not come up, the stage j holds. -/
theorem While.cl {i j : Nat} {Hj : HL} {w : World} (h : While ops N B w0 Ss i w) (hm : (j, Hj) ∈ Ss) (hw : (Region.waitsFor .any ops j i || Nat.ble ops.size j) = true) : Cl N B w0 Hj w := by
  obtain ⟨l, h1, h2, h3⟩ := h
  refine h3 _ hm ?_
  rw [Bool.or_eq_true] at hw
  rcases hw with hw | hw
  · obtain ⟨oj, hj, e, he, hb, hon⟩ := Region.waitsFor_spec hw
    cases hl : l.getD j false with
    | false => rfl
    | true =>
      have := h1.2 j oj hj hl e he hb
      rw [hon, getD_both h2] at this
      cases this
  · have := Nat.le_of_ble_eq_true hw
    have h4 := h1.1
    rw [Array.getD_eq_getD_getElem?, Array.getElem?_eq_none (by omega)]; rfl
section
variable {d : Nat} {op : Op} {ty : TypeId} {pos : String} {after : Array Edge} {v : Value} {Hj : HL}
theorem aq_take (i j : Nat) {guard : Option (Nat × Bool)} (hi : ops[i]? = some { dst := some d, op, type := ty, pos, after, guard }) (hs : Region.noSelect ops = true) (hf : Region.free .any ops listed i = true) (hr : (Region.ready .any ops listed).contains i = true)
    (hm : (j, Hj) ∈ Ss) (hw : (Region.waitsFor .any ops j i || Nat.ble ops.size j) = true) (hn : (Ss.map (·.1)).contains i = false) (hd : Nat.blt d N.n = true)
    (hy : ∀ a, Regs N al a → YieldsIf P ops (Cl N B w0 Hj) { dst := some d, op, type := ty, pos, after, guard } v a) (k : AQ P N B w0 ops Q Ss n (listed.setIfInBounds i true) ((d, v) :: al) H) : AQ P N B w0 ops Q Ss (n + 1) listed al H := by
  intro hsh a w hst hS
  have hir : i ∈ Region.ready .any ops listed := by simpa using hr
  refine AnyS.first hi (Region.noSelect_spec hs) (fun c a w h => h) (fun p hp hpi => ?_) n listed a w (Region.free_spec hi hf) hir hsh ?_ hS (k (hsh.set hir) _ _ (hst.put (by simpa using hd) v) hS.set)
  · have : (Ss.map (·.1)).contains i = true := by simp; exact ⟨p.2, by rw [← hpi]; exact hp⟩
    rw [this] at hn; cases hn
  · rcases hy a hst.regs with ⟨h1, h2⟩ | h1
    · exact .inl ⟨h1, fun w1 hw1 => h2 w1 (hw1.cl hm hw)⟩
    · exact .inr h1
theorem aq_r (i j : Nat) (hi : ops[i]? = some { dst := some d, op, type := ty, pos, after, guard := none }) (hs : Region.noSelect ops = true) (hf : Region.free .any ops listed i = true) (hr : (Region.ready .any ops listed).contains i = true)
    (hm : (j, Hj) ∈ Ss) (hw : (Region.waitsFor .any ops j i || Nat.ble ops.size j) = true) (hn : (Ss.map (·.1)).contains i = false) (hd : Nat.blt d N.n = true)
    (hrun : Runs P N B w0 op ty al Hj v) (k : AQ P N B w0 ops Q Ss n (listed.setIfInBounds i true) ((d, v) :: al) H) : AQ P N B w0 ops Q Ss (n + 1) listed al H :=
  aq_take i j hi hs hf hr hm hw hn hd (fun a ha => .inl ⟨rfl, fun w1 h1 => hrun a w1 (h1.st ha)⟩) k
theorem aq_g (i j : Nat) {g dg : Nat} {want c : Bool} (hi : ops[i]? = some { dst := some d, op, type := ty, pos, after, guard := some (g, want) }) (hs : Region.noSelect ops = true) (hf : Region.free .any ops listed i = true) (hr : (Region.ready .any ops listed).contains i = true)
    (hm : (j, Hj) ∈ Ss) (hw : (Region.waitsFor .any ops j i || Nat.ble ops.size j) = true) (hn : (Ss.map (·.1)).contains i = false) (hg : gd ops.toList g = some dg) (hl : look al dg = some (.bool c)) (hc : c = want) (hd : Nat.blt d N.n = true)
    (hrun : Runs P N B w0 op ty al Hj v) (k : AQ P N B w0 ops Q Ss n (listed.setIfInBounds i true) ((d, v) :: al) H) : AQ P N B w0 ops Q Ss (n + 1) listed al H :=
  aq_take i j hi hs hf hr hm hw hn hd (fun a ha => by
    have hw := wanted_of (o := { dst := some d, op, type := ty, pos, after, guard := some (g, want) }) ha rfl hg hl
    simp only [hc, beq_self_eq_true] at hw
    exact .inl ⟨by simpa using hw, fun w1 h1 => hrun a w1 (h1.st ha)⟩) k
theorem aq_s (i j : Nat) {g dg : Nat} {want c : Bool} (hi : ops[i]? = some { dst := some d, op, type := ty, pos, after, guard := some (g, want) }) (hs : Region.noSelect ops = true) (hf : Region.free .any ops listed i = true) (hr : (Region.ready .any ops listed).contains i = true)
    (hm : (j, Hj) ∈ Ss) (hw : (Region.waitsFor .any ops j i || Nat.ble ops.size j) = true) (hn : (Ss.map (·.1)).contains i = false) (hg : gd ops.toList g = some dg) (hl : look al dg = some (.bool c)) (hc : c = !want) (hd : Nat.blt d N.n = true)
    (k : AQ P N B w0 ops Q Ss n (listed.setIfInBounds i true) ((d, undef) :: al) H) : AQ P N B w0 ops Q Ss (n + 1) listed al H :=
  aq_take i j hi hs hf hr hm hw hn hd (fun a ha => by
    have hw := wanted_of (o := { dst := some d, op, type := ty, pos, after, guard := some (g, want) }) ha rfl hg hl
    rw [hc] at hw
    exact .inr ⟨by cases want <;> simpa using hw, rfl⟩) k
theorem aq_ixr {α : Type} {xs : List α} {a : Option Addr} {m cap : Nat} {t : TypeId} {s ix : Operand} {kd : IntKind} {iv : Int} {E : Enc α} (i j : Nat) (hi : ops[i]? = some { dst := some d, op := .indexAddr t s ix, type := ty, pos, after, guard := none }) (hs : Region.noSelect ops = true) (hf : Region.free .any ops listed i = true) (hr : (Region.ready .any ops listed).contains i = true)
    (hm : (j, Hj) ∈ Ss) (hw : (Region.waitsFor .any ops j i || Nat.ble ops.size j) = true) (hn : (Ss.map (·.1)).contains i = false) (hd : Nat.blt d N.n = true)
    (hl : Rd E B w0 a m cap xs) (h1 : ev al s = some (.slice a m cap)) (h2 : ev al ix = some (.int kd iv)) (hT : Slc P t E.size) (h0 : 0 ≤ iv ∧ iv < m) 
    (k : ∀ x, xs[iv.toNat]? = some x → AQ P N B w0 ops Q Ss n (listed.setIfInBounds i true) ((d, .pointer (a.map (·.add (iv.toNat * E.size)))) :: al) H) : AQ P N B w0 ops Q Ss (n + 1) listed al H := by
  obtain ⟨x, hx⟩ := hl.get (i := iv.toNat) (by omega)
  exact aq_r i j hi hs hf hr hm hw hn hd (r_ix h1 h2 hT (hl.isSome (by omega)) h0) (k x hx)
theorem aq_gixr {α : Type} {xs : List α} {a : Option Addr} {m cap : Nat} {t : TypeId} {s ix : Operand} {kd : IntKind} {iv : Int} {E : Enc α} (i j : Nat) {g dg : Nat} {want c : Bool} (hi : ops[i]? = some { dst := some d, op := .indexAddr t s ix, type := ty, pos, after, guard := some (g, want) }) (hs : Region.noSelect ops = true) (hf : Region.free .any ops listed i = true) (hr : (Region.ready .any ops listed).contains i = true)
    (hm : (j, Hj) ∈ Ss) (hw : (Region.waitsFor .any ops j i || Nat.ble ops.size j) = true) (hn : (Ss.map (·.1)).contains i = false) (hg : gd ops.toList g = some dg) (hlk : look al dg = some (.bool c)) (hc : c = want) (hd : Nat.blt d N.n = true)
    (hl : Rd E B w0 a m cap xs) (h1 : ev al s = some (.slice a m cap)) (h2 : ev al ix = some (.int kd iv)) (hT : Slc P t E.size) (h0 : 0 ≤ iv ∧ iv < m) 
    (k : ∀ x, xs[iv.toNat]? = some x → AQ P N B w0 ops Q Ss n (listed.setIfInBounds i true) ((d, .pointer (a.map (·.add (iv.toNat * E.size)))) :: al) H) : AQ P N B w0 ops Q Ss (n + 1) listed al H := by
  obtain ⟨x, hx⟩ := hl.get (i := iv.toNat) (by omega)
  exact aq_g i j hi hs hf hr hm hw hn hg hlk hc hd (r_ix h1 h2 hT (hl.isSome (by omega)) h0) (k x hx)
theorem aq_ixo {α : Type} {a : Option Addr} {m cap : Nat} {t : TypeId} {s ix : Operand} {kd : IntKind} {iv : Int} {e : TypeId} {id size : Nat} (i j : Nat) (hi : ops[i]? = some { dst := some d, op := .indexAddr t s ix, type := ty, pos, after, guard := none }) (hs : Region.noSelect ops = true) (hf : Region.free .any ops listed i = true) (hr : (Region.ready .any ops listed).contains i = true)
    (hm : (j, Hj) ∈ Ss) (hw : (Region.waitsFor .any ops j i || Nat.ble ops.size j) = true) (hn : (Ss.map (·.1)).contains i = false) (hd : Nat.blt d N.n = true)
    (E : Enc α) (xs : List α) (h1 : ev al s = some (.slice a m cap)) (hH : look Hj id = some (.row a m cap (E.enc xs) e size)) (hz : size = E.size) (h2 : ev al ix = some (.int kd iv)) (hT : Slc P t E.size) (h0 : 0 ≤ iv ∧ iv < m) (hlen : xs.length = m) 
    (k : ∀ x, xs[iv.toNat]? = some x → AQ P N B w0 ops Q Ss n (listed.setIfInBounds i true) ((d, .pointer (a.map (·.add (iv.toNat * E.size)))) :: al) H) : AQ P N B w0 ops Q Ss (n + 1) listed al H := by
  exact aq_r i j hi hs hf hr hm hw hn hd (r_ixo E xs h1 hH hz h2 hT h0) (k (xs[iv.toNat]'(by omega)) (by simp))
theorem aq_gixo {α : Type} {a : Option Addr} {m cap : Nat} {t : TypeId} {s ix : Operand} {kd : IntKind} {iv : Int} {e : TypeId} {id size : Nat} (i j : Nat) {g dg : Nat} {want c : Bool} (hi : ops[i]? = some { dst := some d, op := .indexAddr t s ix, type := ty, pos, after, guard := some (g, want) }) (hs : Region.noSelect ops = true) (hf : Region.free .any ops listed i = true) (hr : (Region.ready .any ops listed).contains i = true)
    (hm : (j, Hj) ∈ Ss) (hw : (Region.waitsFor .any ops j i || Nat.ble ops.size j) = true) (hn : (Ss.map (·.1)).contains i = false) (hg : gd ops.toList g = some dg) (hlk : look al dg = some (.bool c)) (hc : c = want) (hd : Nat.blt d N.n = true)
    (E : Enc α) (xs : List α) (h1 : ev al s = some (.slice a m cap)) (hH : look Hj id = some (.row a m cap (E.enc xs) e size)) (hz : size = E.size) (h2 : ev al ix = some (.int kd iv)) (hT : Slc P t E.size) (h0 : 0 ≤ iv ∧ iv < m) (hlen : xs.length = m) 
    (k : ∀ x, xs[iv.toNat]? = some x → AQ P N B w0 ops Q Ss n (listed.setIfInBounds i true) ((d, .pointer (a.map (·.add (iv.toNat * E.size)))) :: al) H) : AQ P N B w0 ops Q Ss (n + 1) listed al H := by
  exact aq_g i j hi hs hf hr hm hw hn hg hlk hc hd (r_ixo E xs h1 hH hz h2 hT h0) (k (xs[iv.toNat]'(by omega)) (by simp))
theorem aq_u (i j : Nat) {g dg : Nat} {want : Bool} (hi : ops[i]? = some { dst := some d, op, type := ty, pos, after, guard := some (g, want) }) (hs : Region.noSelect ops = true) (hf : Region.free .any ops listed i = true) (hr : (Region.ready .any ops listed).contains i = true)
    (hm : (j, Hj) ∈ Ss) (hw : (Region.waitsFor .any ops j i || Nat.ble ops.size j) = true) (hn : (Ss.map (·.1)).contains i = false) (hg : gd ops.toList g = some dg) (hl : look al dg = some undef) (hd : Nat.blt d N.n = true)
    (k : AQ P N B w0 ops Q Ss n (listed.setIfInBounds i true) ((d, undef) :: al) H) : AQ P N B w0 ops Q Ss (n + 1) listed al H :=
  aq_take i j hi hs hf hr hm hw hn hd (fun a ha => .inr ⟨wanted_undef (o := { dst := some d, op, type := ty, pos, after, guard := some (g, want) }) ha rfl hg hl, rfl⟩) k
end
theorem aq_split {d : Nat} {c : Bool} (hl : look al d = some (.bool c)) (ht : c = true → AQ P N B w0 ops Q Ss n listed al H) (hf : c = false → AQ P N B w0 ops Q Ss n listed al H) : AQ P N B w0 ops Q Ss n listed al H := by
  cases hc : c
  · exact hf hc
  · exact ht hc
/-- One that stands alone, or one of several that may come up: it is carried out, and the stages are shown anew. -/
theorem aq_op {i : Nat} {o : Oper} (ho : ops[i]? = some o) (hsh : Shut ops (listed.setIfInBounds i true))
    (h : ∀ K, (∀ al' H', Holds (listed.setIfInBounds i true) H' Ss → AQ P N B w0 ops Q Ss n (listed.setIfInBounds i true) al' H' → KP N B w0 K al' H') → OL P N B w0 ops.toList [o] (Exit.then K (NoPanic Q)) al H) (a : Act) (w : World) (hst : St N B w0 al H a w) :
    wpOp P ops (NoPanic Q) i (fun a' w' => Stg N B w0 Ss (listed.setIfInBounds i true) w' ∧ AnyS P ops (NoPanic Q) N B w0 Ss n (listed.setIfInBounds i true) a' w') a w := by
  have h1 := h (fun a' w' => Stg N B w0 Ss (listed.setIfInBounds i true) w' ∧ AnyS P ops (NoPanic Q) N B w0 Ss n (listed.setIfInBounds i true) a' w')
    (fun al' H' hh hk a' w' hst' => ⟨Holds.stg hst' hh, hk hsh a' w' hst' (Holds.stg hst' hh)⟩) a w hst
  unfold wpOp
  rw [ho]
  simp only [Array.toArray_toList] at h1
  unfold wpList at h1
  dsimp only at h1 ⊢
  split
  · rename_i hw
    rw [if_pos hw] at h1
    rcases h1 with h1 | ⟨h1, h2⟩
    · refine .inl ?_
      have h2 := Oper.wp_mono (Q := Exit.then _ (NoPanic Q)) (fun a w (h : wpList P ops (Exit.then _ (NoPanic Q)) [] a w) => (h : Exit.then _ (NoPanic Q) .normal a w)) h1
      unfold Oper.wp at h2 ⊢
      generalize (execOp a.eval o).run P w = r at *
      cases r with
      | ok n w' => cases n <;> exact h2
      | halt x w' => cases x <;> exact h2
    · exact .inr ⟨h1, h2⟩
  · rename_i hw
    rw [if_neg hw] at h1
    exact h1
abbrev Next (P : Program) (N : Fr) (B : Nat) (w0 : World) (ops : Array Oper) (Q : Exit → Act → World → Prop) (Ss : List (Nat × HL)) (n : Nat) (listed : Array Bool) (al : AL) (H : HL) (i : Nat) (o : Oper) : Prop :=
  ∀ K, (∀ al' H', Holds (listed.setIfInBounds i true) H' Ss → AQ P N B w0 ops Q Ss n (listed.setIfInBounds i true) al' H' → KP N B w0 K al' H') → OL P N B w0 ops.toList [o] (Exit.then K (NoPanic Q)) al H
theorem aq_one {i : Nat} {o : Oper} (hr : Region.ready .any ops listed = [i]) (ho : ops[i]? = some o) (h : Next P N B w0 ops Q Ss n listed al H i o) : AQ P N B w0 ops Q Ss (n + 1) listed al H := by
  intro hsh a w hst hS
  refine ⟨fun h0 => (by rw [hr] at h0; cases h0), fun j hj => ?_⟩
  have hj' := hj
  rw [hr] at hj'
  have : j = i := by simpa using hj'
  subst this
  exact aq_op ho (hsh.set hj) h a w hst
theorem aq_two {i j : Nat} {o o' : Oper} (hr : Region.ready .any ops listed = [i, j]) (ho : ops[i]? = some o) (ho' : ops[j]? = some o')
    (h : Next P N B w0 ops Q Ss n listed al H i o) (h' : Next P N B w0 ops Q Ss n listed al H j o') : AQ P N B w0 ops Q Ss (n + 1) listed al H := by
  intro hsh a w hst hS
  refine ⟨fun h0 => (by rw [hr] at h0; cases h0), fun k hk => ?_⟩
  have hk' := hk
  rw [hr] at hk'
  rcases (by simpa using hk' : k = i ∨ k = j) with rfl | rfl
  · exact aq_op ho (hsh.set hk) h a w hst
  · exact aq_op ho' (hsh.set hk) h' a w hst
end

/-! #### what a call leaves -/
theorem Ent.ok_mono {B C : Nat} {w : World} {e : Ent} (h : e.ok C w) (hBC : B ≤ C) : e.ok B w := by
  cases e with
  | blk b cl T => exact ⟨Nat.le_trans hBC h.1, h.2⟩
  | row a n cap xs e size => exact ownsRow_mono h hBC
  | mp b es => exact ⟨Nat.le_trans hBC h.1, h.2⟩
  | gone => trivial
/-- New blocks of a call, beside those that were. -/
theorem Sat.more {B : Nat} {w w' : World} {H H' : HL} (hs : Sat B w H) (hB : B ≤ w.heap.size) (hb : ∀ k, k < w.heap.size → w'.heap[k]? = w.heap[k]?) (h' : Sat w.heap.size w' H') : Sat B w' (H' ++ H) := by
  have hl : ∀ i, look (H' ++ H) i = (match look H' i with | some v => some v | none => look H i) := fun i => by rw [look_append]; cases look H' i <;> rfl
  refine ⟨fun i e he => ?_, fun i j e f hij hi hj b hbe hbf => ?_⟩
  · rw [hl] at he
    cases h1 : look H' i with
    | some v => rw [h1] at he; cases he; exact Ent.ok_mono (h'.ok i e h1) hB
    | none => rw [h1] at he; exact Ent.ok_same (hs.ok i e he) fun b hbb => hb b (Ent.own_lt (hs.ok i e he) hbb).2
  · rw [hl] at hi hj
    cases h1 : look H' i with
    | some v =>
      rw [h1] at hi; cases hi
      have b1 := (Ent.own_lt (h'.ok i e h1) hbe).1
      cases h2 : look H' j with
      | some u => rw [h2] at hj; cases hj; exact h'.apart i j e f hij h1 h2 b hbe hbf
      | none => rw [h2] at hj; have := (Ent.own_lt (hs.ok j f hj) hbf).2; omega
    | none =>
      rw [h1] at hi
      have b1 := (Ent.own_lt (hs.ok i e hi) hbe).2
      cases h2 : look H' j with
      | some u => rw [h2] at hj; cases hj; have := (Ent.own_lt (h'.ok j f h2) hbf).1; omega
      | none => rw [h2] at hj; exact hs.apart i j e f hij hi hj b hbe hbf
/-- One entry, two entries, under other numbers. -/
theorem Sat.one {B : Nat} {w : World} {H : HL} (h : Sat B w H) (i k : Nat) {e f : Ent} (hi : look H i = some f) (he : e.le f) : Sat B w [(k, e)] := by
  refine ⟨fun j g hj => ?_, fun j l g g' hjl hj hl => ?_⟩
  · by_cases hk : k = j
    · subst hk; rw [look_cons_eq] at hj; cases hj; exact Ent.le.ok he (h.ok i f hi)
    · rw [look_cons_ne _ _ hk] at hj; simp [look] at hj
  · by_cases hk : k = j
    · subst hk; rw [look_cons_ne _ _ hjl] at hl; simp [look] at hl
    · rw [look_cons_ne _ _ hk] at hj; simp [look] at hj
theorem Sat.two {B : Nat} {w : World} {H : HL} (h : Sat B w H) (i j k l : Nat) {e f e' f' : Ent} (hij : i ≠ j) (hi : look H i = some f) (hj : look H j = some f') (he : e.le f) (he' : e'.le f') : Sat B w [(k, e), (l, e')] :=
  (h.one j l hj he').set2 k (Ent.le.ok he (h.ok i f hi)) (fun _ _ _ _ _ _ => rfl) (fun m g hm hg b hb hgb => by
    by_cases hl : l = m
    · subst hl; rw [look_cons_eq] at hg; cases hg
      exact h.apart i j f f' hij hi hj b (Ent.le.own he hb) (Ent.le.own he' hgb)
    · rw [look_cons_ne _ _ hl] at hg; simp [look] at hg)
theorem Sat.three {B : Nat} {w : World} {H : HL} (h : Sat B w H) (i j m k l p : Nat) {e f e' f' g g' : Ent} (hij : i ≠ j) (him : i ≠ m) (hjm : j ≠ m) (hi : look H i = some f) (hj : look H j = some f') (hm : look H m = some g') (he : e.le f) (he' : e'.le f') (hg : g.le g') : Sat B w [(k, e), (l, e'), (p, g)] :=
  (h.two j m l p hjm hj hm he' hg).set2 k (Ent.le.ok he (h.ok i f hi)) (fun _ _ _ _ _ _ => rfl) (fun q g0 hq hg0 b hb hgb => by
    by_cases hl : l = q
    · subst hl; rw [look_cons_eq] at hg0; cases hg0
      exact h.apart i j f f' hij hi hj b (Ent.le.own he hb) (Ent.le.own he' hgb)
    · rw [look_cons_ne _ _ hl] at hg0
      by_cases hp : p = q
      · subst hp; rw [look_cons_eq] at hg0; cases hg0
        exact h.apart i m f g' him hi hm b (Ent.le.own he hb) (Ent.le.own hg hgb)
      · rw [look_cons_ne _ _ hp] at hg0; simp [look] at hg0)
section
variable {P : Program} {N : Fr} {B : Nat} {w0 : World} {Q : Exit → Act → World → Prop} {al : AL} {H H' : HL} {ops rest : List Oper}
/-- A call that leaves new blocks of its own. -/
theorem After.more {e : Ending} {w w' : World} {v : Value} {d : Nat} (he : e = .returned v) (hw : Below B w0 w) (hs : Sat B w H) (hb : B ≤ w.heap.size) (hbl : Below w.heap.size w w') (h' : Sat w.heap.size w' H')
    (k : OL P N B w0 ops rest Q ((d, v) :: al) (H' ++ H)) : After P N B w0 w ops rest Q al (some d) e w' :=
  ⟨v, _, he, hw.trans (hbl.mono hb), hs.more hb (fun k hk => hbl.block k hk) h', Nat.le_trans hb hbl.size, Kd.of_below hbl, k⟩
/-- A call that works in the caller's blocks: all that is known behind it is H'. -/
theorem After.sat {e : Ending} {w w' : World} {v : Value} {d : Nat} (he : e = .returned v) (hw : Below B w0 w) (hbl : Below B w w') (h' : Sat B w' H') (hB : B ≤ w'.heap.size) (hkd : Kd N.c w w')
    (k : OL P N B w0 ops rest Q ((d, v) :: al) H') : After P N B w0 w ops rest Q al (some d) e w' :=
  ⟨v, _, he, hw.trans hbl, h', hB, hkd, k⟩
end

/-! #### a part of a slice that is only read -/
section
variable {P : Program} {N : Fr} {B : Nat} {w0 : World} {Q : Exit → Act → World → Prop} {al : AL} {H : HL} {ops rest tail : List Oper} {d : Nat} {ty : TypeId} {pos : String} {after : Array Edge} {α : Type} {E : Enc α} {a : Option Addr} {n cap : Nat} {xs : List α}
/-- A bound, or none. -/
def evo (al : AL) : Option Operand → Option (Option Int)
  | none => some none
  | some x => match ev al x with | some (.int .i64 i) => some (some i) | _ => none
theorem evo_eval {a : Act} (h : Regs N al a) {x : Option Operand} {i : Option Int} (hx : evo al x = some i) : x.map a.eval = i.map (Value.int .i64) := by
  cases x with
  | none => simp [evo] at hx; subst hx; rfl
  | some o =>
    unfold evo at hx
    dsimp only at hx
    split at hx
    · rename_i j hj; cases hx; simp [h.eval hj]
    · cases hx
theorem r_sl {s : Operand} {lo hi : Option Operand} {l h : Option Int} {t : TypeId} {size : Nat} (hs : ev al s = some (.slice a n cap)) (hlo : evo al lo = some l) (hhi : evo al hi = some h) (hT : Slc P t size)
    (h0 : 0 ≤ l.getD 0 ∧ l.getD 0 ≤ h.getD n ∧ h.getD n ≤ cap) (hc : n ≤ cap) : Runs P N B w0 (.slice t s lo hi none) ty al H (sliced a (l.getD 0).toNat (h.getD n).toNat cap size) := fun x w hst => by
  obtain ⟨e, hu, hz⟩ := hT
  have hu' : P.underlying t = some (.slice (P.elem t)) := by rw [hu, show P.elem t = e by simp [Program.elem, hu]]
  have hz' : (sizeOf (P.elem t)).run P w = .ok size w := by rw [show P.elem t = e by simp [Program.elem, hu]]; exact run_sizeOf hz w
  have e1 := evo_eval hst.regs hlo
  have e2 := evo_eval hst.regs hhi
  simp only [execOp, hst.regs.eval hs, e1, e2, Option.map_none, Sem.run_bind, run_sliceAt_slice w t _ _ _ _ hu']
  have h1 := run_slice_any w t a n cap hu' (l.map (Value.int .i64)) (h.map (Value.int .i64)) none
  rw [h1]
  have hb : (Instr.sliceBounds true n cap (l.map (Value.int .i64)) (h.map (Value.int .i64)) none).run P w = .ok ((l.getD 0).toNat, (h.getD n).toNat, cap) w := by
    cases l <;> cases h <;> simp [Instr.sliceBounds, run_sliceBound_if] at h0 ⊢ <;> (try simp [h0]) <;> (try omega) <;> (try (rw [if_pos (by omega), if_pos (by omega)]))
  rw [hb]
  simp [hz', Result.andThen]
theorem Rd.part {C : Nat} {w : World} {l h : Nat} (hl : Rd E C w a n cap xs) (h1 : l ≤ h) (h2 : h ≤ n) : ∃ a' c', sliced a l h cap E.size = .slice a' (h - l) c' ∧ Rd E C w a' (h - l) c' ((xs.drop l).take (h - l)) := by
  have hlen := hl.len
  have hroom := hl.room
  refine ⟨_, _, rfl, by simp; omega, by omega, ⟨by omega, by omega⟩, fun i x hx => ?_⟩
  have hi : i < h - l := by
    have := (List.getElem?_eq_some_iff.1 hx).1
    simp at this; omega
  rw [List.getElem?_take, if_pos hi, List.getElem?_drop] at hx
  obtain ⟨b, off, rfl, hb, hc⟩ := hl.cell (l + i) x hx
  rw [if_neg (by omega)]
  refine ⟨b, off + l * E.size, by simp [add_none], hb, fun j u hu => ?_⟩
  have := hc j u hu
  rw [show off + l * E.size + i * E.size + j = off + (l + i) * E.size + j by rw [Nat.add_mul]; omega]
  exact this
theorem ol_slr {s : Operand} {lo hi : Option Operand} {l h : Option Int} {t : TypeId} (hl : Rd E B w0 a n cap xs) (hs : ev al s = some (.slice a n cap)) (hlo : evo al lo = some l) (hhi : evo al hi = some h) (hT : Slc P t E.size)
    (h0 : 0 ≤ l.getD 0 ∧ l.getD 0 ≤ h.getD n ∧ h.getD n ≤ n) (hd : Nat.blt d N.n = true)
    (k : ∀ a' c', Rd E B w0 a' ((h.getD n).toNat - (l.getD 0).toNat) c' ((xs.drop (l.getD 0).toNat).take ((h.getD n).toNat - (l.getD 0).toNat)) → OL P N B w0 ops rest Q ((d, .slice a' ((h.getD n).toNat - (l.getD 0).toNat) c') :: al) H) :
    OL P N B w0 ops ({ dst := some d, op := .slice t s lo hi none, type := ty, pos, after, guard := none } :: rest) Q al H := by
  obtain ⟨a', c', h1, h2⟩ := hl.part (l := (l.getD 0).toNat) (h := (h.getD n).toNat) (by omega) (by omega)
  have hr := r_sl (P := P) (N := N) (B := B) (w0 := w0) (H := H) (ty := ty) (lo := lo) (hi := hi) hs hlo hhi hT ⟨h0.1, h0.2.1, by have := hl.room; omega⟩ hl.room.1
  rw [h1] at hr
  exact ol_r hr hd (k a' c' h2)
theorem ql_slr {Qa : Act → Prop} {s : Operand} {lo hi : Option Operand} {l h : Option Int} {t : TypeId} (hl : Rd E B w0 a n cap xs) (hs : ev al s = some (.slice a n cap)) (hlo : evo al lo = some l) (hhi : evo al hi = some h) (hT : Slc P t E.size)
    (h0 : 0 ≤ l.getD 0 ∧ l.getD 0 ≤ h.getD n ∧ h.getD n ≤ n) (hd : Nat.blt d N.n = true)
    (k : ∀ a' c', Rd E B w0 a' ((h.getD n).toNat - (l.getD 0).toNat) c' ((xs.drop (l.getD 0).toNat).take ((h.getD n).toNat - (l.getD 0).toNat)) → QL P N B w0 ops rest Qa ((d, .slice a' ((h.getD n).toNat - (l.getD 0).toNat) c') :: al) H) :
    QL P N B w0 ops ({ dst := some d, op := .slice t s lo hi none, type := ty, pos, after, guard := none } :: rest) Qa al H := by
  obtain ⟨a', c', h1, h2⟩ := hl.part (l := (l.getD 0).toNat) (h := (h.getD n).toNat) (by omega) (by omega)
  have hr := r_sl (P := P) (N := N) (B := B) (w0 := w0) (H := H) (ty := ty) (lo := lo) (hi := hi) hs hlo hhi hT ⟨h0.1, h0.2.1, by have := hl.room; omega⟩ hl.room.1
  rw [h1] at hr
  exact ql_r hr hd (k a' c' h2)
end

/-! #### make -/
theorem cells_rep (us : List Value) (hs : 0 < us.length) : ∀ l : Nat, (List.range (l * us.length)).map (fun j => us.toArray[j % us.toArray.size]!) = (List.replicate l us).flatten
  | 0 => by simp
  | l + 1 => by
    have ih := cells_rep us hs l
    rw [Nat.succ_mul, List.range_add, List.map_append, ih, List.replicate_succ', List.flatten_append, List.map_map]
    congr 1
    simp only [List.flatten_cons, List.flatten_nil, List.append_nil]
    apply List.ext_getElem
    · simp
    · intro i h1 h2
      simp at h1
      simp [Nat.mul_add_mod_of_lt, Nat.mod_eq_of_lt h1, h1]
theorem ol_make {P : Program} {N : Fr} {B : Nat} {w0 : World} {Q : Exit → Act → World → Prop} {al : AL} {H : HL} {ops rest : List Oper} {d : Nat} {ty : TypeId} {pos : String} {after : Array Edge} {α : Type} (E : Enc α) (x0 : α) (id : Nat)
    {x y : Operand} {k1 k2 : IntKind} {l c : Int} {t e : TypeId} {size bytes : Nat} {us : List Value} (hl : ev al x = some (.int k1 l)) (hc : ev al y = some (.int k2 c)) (hT : RowT P t e size bytes) (hz : ZeroOf P e us) (hE : us = E.cells x0) (hs : size = E.size)
    (hb : 0 ≤ l ∧ l ≤ c ∧ (bytes : Int) * c ≤ 140737488355328 ∧ c ≤ 281474976710656) (hd : Nat.blt d N.n = true)
    (k : ∀ a', OL P N B w0 ops rest Q ((d, .slice a' l.toNat c.toNat) :: al) ((id, .row a' l.toNat c.toNat (E.enc (List.replicate l.toNat x0)) e size) :: H)) :
    OL P N B w0 ops ({ dst := some d, op := .makeSlice t x y, type := ty, pos, after, guard := none } :: rest) Q al H := by
  intro a w hst
  refine wpList_plain rfl fun K hK => ?_
  obtain ⟨hu, i, z, hi, hzz, hsz, hby, hzs, hpos⟩ := hT
  obtain ⟨z', hz', hcells⟩ := hz
  rw [hi] at hz'
  have hzz' : some z = some z' := by rw [← hzz]; exact hz'
  cases hzz'
  subst hE
  subst hs
  have hlen := E.len x0
  have hrun0 := run_make (P := P) w t e i z hu hi hzz k1 k2 l c hb.1 hb.2.1 (by rw [hby]; omega) (by omega)
  have hrun : (execOp a.eval { dst := some d, op := .makeSlice t x y, type := ty, pos, after, guard := none }).run P w = .ok (.value (.slice (some ⟨w.heap.size, 0, none⟩) l.toNat c.toNat)) (w.alloc (.cells (madeCells z.cells (c.toNat * i.size)) e)) := by
    simp only [execOp, hst.regs.eval hl, hst.regs.eval hc, Sem.run_bind, hrun0, Result.andThen_ok, Sem.run_pure]
  unfold Oper.wp
  rw [hrun, Oper.upon_value]
  refine hK _ _ (k _ _ _ (hst.step (hst.regs.put (by simpa using hd) _) (hst.below.alloc hst.base _) ?_ (by have := hst.base; simp; omega) (Kd.alloc w _)))
  refine hst.sat.new id (e := .row (some ⟨w.heap.size, 0, none⟩) l.toNat c.toNat (E.enc (List.replicate l.toNat x0)) e E.size) ?_ (fun k hk => Below.heap_alloc w _ k hk) (fun b hb => by simp [Ent.own] at hb; omega)
  have hmade : ∀ m : Nat, (madeCells z.cells (m * E.size)).toList = E.enc (List.replicate m x0) := by
    intro m
    have := cells_rep (E.cells x0) (by rw [hlen]; exact E.pos) m
    rw [hlen] at this
    unfold madeCells Enc.enc
    rw [hcells]
    simpa [List.flatMap, List.map_replicate] using this
  have hle : l.toNat ≤ c.toNat := by omega
  refine ⟨by rw [E.enc_len]; simp, .inr ⟨w.heap.size, c.toNat, madeCells z.cells (c.toNat * i.size), rfl, hst.base, heap_alloc_new w _, hle, by unfold maxLen; omega, by rw [hsz]; simp [madeCells], ?_⟩⟩
  rw [hsz, hmade]
  have : c.toNat = l.toNat + (c.toNat - l.toNat) := by omega
  rw [this, ← List.replicate_append_replicate, Enc.enc_append, List.take_left' (by rw [E.enc_len]; simp)]
end Go.Proofs.Ytfbmkepogcimlaa.Hx

/-
  Loops over functions: what an iterator promises, and the loop's rule.
-/


namespace Go.Proofs.Ytfbmkepogcimlaa.Hx
open Go Go.RowKit
set_option linter.unusedVariables false
set_option linter.unusedSimpArgs false
set_option linter.unusedSectionVars false

/-- What yield promises an iterator: J between two rounds; Jx when a round has said that no more is wanted. -/
def YieldsOver {α : Type} (P : Program) (l : Nat) (encs : α → List Value) (zs : List α) (J : Nat → World → Prop) (Jx : World → Prop) : Prop :=
  ∀ k x W, zs[k]? = some x → J k W → YieldAt Fence.wide 0 P l (encs x).toArray W fun e W' => (e = .returned (.bool true) ∧ J (k + 1) W') ∨ (e = .returned (.bool false) ∧ Jx W')
/-- An iterator over zs, that reads what Rq says. -/
def Iter {α : Type} (P : Program) (gf : FuncId) (lb : List Value) (encs : α → List Value) (zs : List α) (Rq : World → Prop) : Prop :=
  ∀ (l : Nat) (J : Nat → World → Prop) (Jx : World → Prop) (W : World), (∀ k W, J k W → Rq W) → (∀ k W W', J k W → Below W.heap.size W W' → J k W') → (∀ W W', Jx W → Below W.heap.size W W' → Jx W') →
    YieldsOver P l encs zs J Jx → J 0 W → CallsIn Fence.wide 0 P gf ([Value.func (.yield l) #[] #[]] ++ lb).toArray W fun e W' => (∃ v, e = .returned v) ∧ (J zs.length W' ∨ Jx W')

def alp : List Tmp → List Value → AL → AL
  | p :: ps, v :: vs, al => alp ps vs ((p, v) :: al)
  | _, _, al => al
theorem alp_slot : ∀ (ps : List Tmp) (vs : List Value) (al : AL) (tm : Array Value), (∀ p ∈ ps, p < tm.size) → (∀ n v, look al n = some v → tm[n]? = some v) →
    ∀ n v, look (alp ps vs al) n = some v → ((ps.zip vs).foldl (fun t (p : Tmp × Value) => t.setIfInBounds p.1 p.2) tm)[n]? = some v
  | [], _, al, tm, _, h, n, v, hn => h n v (by simpa [alp] using hn)
  | p :: ps, [], al, tm, _, h, n, v, hn => h n v (by simpa [alp] using hn)
  | p :: ps, u :: vs, al, tm, hp, h, n, v, hn => by
    simp only [List.zip_cons_cons, List.foldl_cons]
    refine alp_slot ps vs ((p, u) :: al) (tm.setIfInBounds p u) (fun q hq => by simp; exact hp q (by simp [hq])) (fun m x hm => ?_) n v hn
    by_cases hk : p = m
    · subst hk
      rw [look_cons_eq] at hm; cases hm
      simp [hp p (by simp)]
    · rw [look_cons_ne _ _ hk] at hm
      rw [Array.getElem?_setIfInBounds_ne hk]
      exact h m x hm
theorem foldl_size : ∀ (l : List (Tmp × Value)) (tm : Array Value), (l.foldl (fun t (p : Tmp × Value) => t.setIfInBounds p.1 p.2) tm).size = tm.size
  | [], tm => rfl
  | p :: l, tm => by simp only [List.foldl_cons]; rw [foldl_size l]; simp

theorem zipfold (pl : List Tmp) (vs : List Value) (tm : Array Value) : (pl.toArray.zip vs.toArray).foldl (fun t (p, v) => t.setIfInBounds p v) tm = (pl.zip vs).foldl (fun t (p : Tmp × Value) => t.setIfInBounds p.1 p.2) tm := by
  rw [List.zip_toArray, List.foldl_toArray]

section
variable {P : Program} {B : Nat} {w0 : World} {Q : Exit → Act → World → Prop} {al : AL} {H : HL}
theorem Sat.putFix {w : World} {l : Nat} {o o' : Obj} (h : Sat B w H) (ho : w.heap[l]? = some o) (hk : Obj.known o = false) : Sat B (w.putObj l o') H :=
  ⟨fun i e he => Ent.ok_same (h.ok i e he) fun b hb => World.putObj_heap_other fun e2 => (by
    have := Ent.own_known (h.ok i e he) hb (e2 ▸ ho)
    rw [hk] at this; simp at this), h.apart⟩
theorem Below.putFix {C : Nat} {w1 w : World} {l : Nat} (o : Obj) (h : Below C w1 w) (hC : C ≤ l) (hs : C ≤ w.heap.size) : Below C w1 (w.putObj l o) := h.grown (grownBy_putObj' w l o) hs (fun k e => by cases e; exact hC)
theorem Kd.putFix {C : Nat → Prop} {w1 w : World} {l : Nat} (o : Obj) (h : Kd C w1 w) (hl : w1.heap.size ≤ l) : Kd C w1 (w.putObj l o) := fun k o' hk hc hm => by
  have : k ≠ l := fun e => by have := (Array.getElem?_eq_some_iff.1 hk).1; omega
  rw [World.putObj_heap_other this]; exact h k o' hk hc hm

theorem wp_rf {α σ τ : Type} {g : Operand} {pl : List Tmp} {assign body : Code} {gf : FuncId} {lb : List Value} {encs : α → List Value} {zs : List α} {Rq : World → Prop} {n : Nat} {C : Nat → Prop} {ds : List Nat}
    (hg : ev al g = some (.func (.func gf) #[] lb.toArray)) (hcb : Callable P gf) (hit : Iter P gf lb encs zs Rq) (hra : Rnd assign = true) (hrb : Rnd body = true) (hpl : pl.all (fun p => Nat.blt p n) = true) (hen : ∀ x, (encs x).length = pl.length)
    (Inv : Nat → σ → Prop) (G : Nat → σ → HL) (G0 : HL) (InvX : τ → Prop) (GX : τ → HL) (s0 : σ) (h0 : Inv 0 s0) (hh : SubH (G 0 s0) H) (hh0 : SubH G0 H)
    (hRq : ∀ k s W, Inv k s → Below B w0 W → Sat B W (G k s ++ G0) → B ≤ W.heap.size → Rq W)
    (hround : ∀ (k : Nat) (x : α) (s : σ) (B0 : Nat) (W : World), zs[k]? = some x → Inv k s → Below B w0 W → B ≤ W.heap.size → (∀ i e b, look H i = some e → e.own = some b → b < B0) → ∀ Ka : Act → World → Prop,
      (∀ al1 H1, (∀ (Wb : World) (R : Exit → Act → World → Prop), Below B w0 Wb → B ≤ Wb.heap.size →
          (∀ s' al2 H2, Inv (k + 1) s' → SubH (G (k + 1) s') H2 → SubH G0 H2 → QP ⟨n, fun j => C j ∧ j < B0, [], false⟩ B Wb R .normal al2 H2) →
          (∀ t al2 H2, InvX t → SubH (GX t) H2 → SubH G0 H2 → QP ⟨n, fun j => C j ∧ j < B0, [], false⟩ B Wb R .ret al2 H2) →
          WP P ⟨n, fun j => C j ∧ j < B0, [], false⟩ B Wb body R al1 H1) → KP ⟨n, fun j => C j ∧ j < B0, [], false⟩ B W Ka al1 H1) →
      WP P ⟨n, fun j => C j ∧ j < B0, [], false⟩ B W assign (Exit.then Ka (fun _ _ _ => False)) (alp pl (encs x) al) (G k s ++ G0))
    (hdone : ∀ s d, Inv zs.length s → QP ⟨n, C, d :: ds, false⟩ B w0 Q .normal al (G zs.length s ++ G0))
    (hstop : ∀ t d, InvX t → QP ⟨n, C, d :: ds, false⟩ B w0 Q .ret al (GX t ++ G0)) : WP P ⟨n, C, ds, false⟩ B w0 (.rangeFunc g pl.toArray assign body) Q al H := by
  intro a w hst
  refine (wpIn_wide (n := 1)).1 (wpIn_rangeFunc ?_)
  intro fn hfn
  obtain ⟨rec, hrec⟩ : ∃ rec : LoopState → Option Code → Loop, rec = fun st pe => { state := st, pending := pe, fn, tmps := a.tmps, params := pl.toArray, assign, body, defers := w.heap.size } := ⟨_, rfl⟩
  obtain ⟨W1, hW1⟩ : ∃ W1, (w.alloc (.deferred (some []))).alloc (.loop (rec .ready none)) = W1 := ⟨_, rfl⟩
  have hsz1 : W1.heap.size = w.heap.size + 2 := by rw [← hW1]; simp
  have hL1 : W1.heap[w.heap.size + 1]? = some (.loop (rec .ready none)) := by
    rw [← hW1]; have := World.alloc_heap_new (w.alloc (.deferred (some []))) (.loop (rec .ready none)); rwa [World.size_alloc] at this
  have hK1 : W1.heap[w.heap.size]? = some (.deferred (some [])) := by
    rw [← hW1]; exact (Below.heap_alloc _ _ _ (by simp)).trans (World.alloc_heap_new w _)
  have hold : ∀ k, k < w.heap.size → W1.heap[k]? = w.heap[k]? := fun k hk => by
    rw [← hW1]; exact (Below.heap_alloc _ _ _ (by simp; omega)).trans (Below.heap_alloc _ _ _ hk)
  have hb1 : Below B w0 W1 := by rw [← hW1]; exact (hst.below.alloc hst.base _).alloc (by have := hst.base; simp; omega) _
  have hB0 : ∀ i e b, look H i = some e → e.own = some b → b < w.heap.size := fun i e b hi hb => (Ent.own_lt (hst.sat.ok i e hi) hb).2
  have hBw := hst.base
  let base : World → Prop := fun W => Below B w0 W ∧ w.heap.size + 2 ≤ W.heap.size ∧ Kd C w W
  let J : Nat → World → Prop := fun k W => (∃ s, Inv k s ∧ base W ∧ Sat B W (G k s ++ G0)) ∧ W.heap[w.heap.size + 1]? = some (.loop (rec .ready none)) ∧ W.heap[w.heap.size]? = some (.deferred (some []))
  let Jx : World → Prop := fun W => (∃ t, InvX t ∧ base W ∧ Sat B W (GX t ++ G0)) ∧ W.heap[w.heap.size + 1]? = some (.loop (rec .done (some .ret))) ∧ W.heap[w.heap.size]? = some (.deferred (some []))
  obtain ⟨fnc, hf1, hf2, hf3⟩ := hcb
  have hcall : ∀ args W, (callFunc gf args).run P W = .ok (.enter gf args) W := fun args W => by
    have hn : ¬ (fnc.name = "runtime.NumGoroutine") := by simpa using hf2
    have hb : ¬ (fnc.body = none) := by intro e; rw [e] at hf3; simp at hf3
    simp [callFunc, program, Sem.run, hf1, hn, hb]
  refine ⟨w.heap.size + 1, [mkMark w.heap.size], W1, { target := .fn (.func gf) lb.toArray, args := #[.func (.yield (w.heap.size + 1)) #[] #[]] }, W1, gf, ([Value.func (.yield (w.heap.size + 1)) #[] #[]] ++ lb).toArray, W1, ?_, ?_, ?_, ?_, fun h => by simp [Fence.wide] at h, ?_⟩
  · rw [← hW1, hrec]; exact run_enterLoop_outer _ _ _ _ _
  · simp only [resolve, hst.regs.eval hg]
    simp [go_sem]
  · intro f' _; trivial
  · simp [invoke, go_sem, hcall]
  have hbase1 : base W1 := ⟨hb1, by omega, fun k o hk _ _ => (hold k (Array.getElem?_eq_some_iff.1 hk).1).trans hk⟩
  refine (hit (w.heap.size + 1) J Jx W1 ?_ ?_ ?_ ?_ ⟨⟨s0, h0, hbase1, (hst.sat.below' hold).sub (subH_app hh hh0)⟩, hL1, hK1⟩).mono ?_
  · rintro k W ⟨⟨s, hi, hb, hs⟩, _, _⟩
    exact hRq k s W hi hb.1 hs (by have := hb.2.1; omega)
  · rintro k W W' ⟨⟨s, hi, hb, hs⟩, hl, hd⟩ hbl
    have h1 : ∀ j, j < W.heap.size → W'.heap[j]? = W.heap[j]? := fun j hj => hbl.block j hj
    have h2 := hb.2.1
    have h3 := hbl.size
    exact ⟨⟨s, hi, ⟨hb.1.trans (hbl.mono (by omega)), by omega, hb.2.2.trans (Kd.of_below hbl)⟩, hs.below' h1⟩, (h1 _ (by omega)).trans hl, (h1 _ (by omega)).trans hd⟩
  · rintro W W' ⟨⟨s, hi, hb, hs⟩, hl, hd⟩ hbl
    have h1 : ∀ j, j < W.heap.size → W'.heap[j]? = W.heap[j]? := fun j hj => hbl.block j hj
    have h2 := hb.2.1
    have h3 := hbl.size
    exact ⟨⟨s, hi, ⟨hb.1.trans (hbl.mono (by omega)), by omega, hb.2.2.trans (Kd.of_below hbl)⟩, hs.below' h1⟩, (h1 _ (by omega)).trans hl, (h1 _ (by omega)).trans hd⟩
  · rintro k x W hx ⟨⟨s, hi, hb, hs⟩, hl, hd⟩
    have hsz := hb.2.1
    have hy := run_yield (P := P) (args := (encs x).toArray) hl (by rw [hrec]; simp [hen x])
    rw [hrec] at hy
    refine ⟨fn, _, assign, body, hy, roundIn_of_wpIn (n := 0) trivial (D.wpIn assign _ _ _ (fun _ _ h => h) hra (hround k x s w.heap.size W hx hi hb.1 (by omega) hB0 _ ?_ _ _ ⟨⟨rfl, ?_, ?_⟩, Below.refl _ _, hs, by omega, fun _ => Kd.refl _ _, MarkOk.nil _ _⟩))⟩
    · intro al1 H1 hbody a1 w1 hst1
      have hs1 := hst1.below.size
      have hl1 : w1.heap[w.heap.size + 1]? = some (.loop (rec .ready none)) := hst1.kd rfl _ _ hl rfl (fun _ => rfl)
      have hd1 : w1.heap[w.heap.size]? = some (.deferred (some [])) := hst1.kd rfl _ _ hd rfl (fun _ => rfl)
      obtain ⟨Wb, hWb⟩ : ∃ Wb, w1.putObj (w.heap.size + 1) (.loop (rec .busy none)) = Wb := ⟨_, rfl⟩
      have hbr : (Instr.beginRound (w.heap.size + 1)).run P w1 = .ok () Wb := by
        have := run_beginRound (P := P) hl1 (by rw [hrec])
        rw [this, ← hWb, hrec]
      have hszb : Wb.heap.size = w1.heap.size := by rw [← hWb]; simp
      have hlb : Wb.heap[w.heap.size + 1]? = some (.loop (rec .busy none)) := by rw [← hWb]; exact World.putObj_heap_same (by omega)
      have hdb : Wb.heap[w.heap.size]? = some (.deferred (some [])) := by rw [← hWb]; exact (World.putObj_heap_other (by omega)).trans hd1
      have hb0b : Below B w0 Wb := by rw [← hWb]; exact Below.putFix _ (hb.1.trans hst1.below) (by omega) (by omega)
      have hkb : Kd C w Wb := by rw [← hWb]; exact Kd.putFix _ (hb.2.2.trans ((hst1.kd rfl).imp fun _ h => h.1)) (by omega)
      -- what a round leaves
      have leave : ∀ (jump : Option Code) (al2 : AL) (H2 : HL) (a2 : Act) (w2 : World), St ⟨n, fun j => C j ∧ j < w.heap.size, [], false⟩ B Wb al2 H2 a2 w2 →
          ∃ w3, (Instr.endRound (w.heap.size + 1) jump).run P w2 = .ok (.bool jump.isNone) w3 ∧ base w3 ∧ Sat B w3 H2 ∧ w3.heap[w.heap.size + 1]? = some (.loop (rec (if jump.isNone then .ready else .done) jump)) ∧ w3.heap[w.heap.size]? = some (.deferred (some [])) := by
        intro jump al2 H2 a2 w2 h2
        have hl2 : w2.heap[w.heap.size + 1]? = some (.loop (rec .busy none)) := h2.kd rfl _ _ hlb rfl (fun _ => rfl)
        have hd2 : w2.heap[w.heap.size]? = some (.deferred (some [])) := h2.kd rfl _ _ hdb rfl (fun _ => rfl)
        have hs2 := h2.below.size
        refine ⟨_, ?_, ⟨Below.putFix (l := w.heap.size + 1) (.loop (rec (if jump.isNone then .ready else .done) jump)) (hb0b.trans h2.below) (by omega) (by omega), by simp; omega, Kd.putFix _ (hkb.trans ((h2.kd rfl).imp fun _ h => h.1)) (by omega)⟩, h2.sat.putFix hl2 rfl, World.putObj_heap_same (by omega), (World.putObj_heap_other (by omega)).trans hd2⟩
        have := run_endRound (P := P) jump hl2
        rw [this, hrec]
      refine ⟨Wb, hbr, D.wpIn body (roundPost P (w.heap.size + 1) _) _ _ (fun _ _ h => h) hrb (hbody Wb _ hb0b (by omega) ?_ ?_ _ _ ⟨hst1.regs, Below.refl _ _, ?_, by omega, fun _ => Kd.refl _ _, MarkOk.nil _ _⟩)⟩
      · intro s' al2 H2 hi2 hg2 hg0 a2 w2 h2
        obtain ⟨w3, q1, q2, q3, q4, q5⟩ := leave none al2 H2 a2 w2 h2
        exact ⟨_, w3, q1, .inl ⟨rfl, ⟨s', hi2, q2, q3.sub (subH_app hg2 hg0)⟩, q4, q5⟩⟩
      · intro t al2 H2 hi2 hg2 hg0 a2 w2 h2
        obtain ⟨w3, q1, q2, q3, q4, q5⟩ := leave (some .ret) al2 H2 a2 w2 h2
        exact ⟨_, w3, q1, .inr ⟨rfl, ⟨t, hi2, q2, q3.sub (subH_app hg2 hg0)⟩, q4, q5⟩⟩
      · rw [← hWb]; exact hst1.sat.putFix hl1 rfl
    · rw [zipfold, foldl_size]; exact hst.regs.size
    · intro m v hm
      rw [zipfold]
      exact alp_slot pl (encs x) al a.tmps (fun p hp => by have := List.all_eq_true.1 hpl p hp; rw [hst.regs.size]; simpa using this) hst.regs.slot m v hm
  · rintro e W2 ⟨⟨v, rfl⟩, hJ⟩
    have hfin : ∀ (st : LoopState) (pe : Option Code) (al' : AL) (H' : HL) , st ≠ .busy → base W2 → Sat B W2 H' → W2.heap[w.heap.size + 1]? = some (.loop (rec st pe)) → W2.heap[w.heap.size]? = some (.deferred (some [])) →
        ∃ w4, (Instr.endLoop (w.heap.size + 1)).run P W2 = .ok pe w4 ∧ St ⟨n, C, w.heap.size :: ds, false⟩ B w0 al H' { a with defers := [mkMark w.heap.size] ++ a.defers } w4 := by
      intro st pe al' H' hne hb hs hl hd
      have hrun := run_endLoop (P := P) hl (by rw [hrec]; exact hne)
      have h2 := hb.2.1
      refine ⟨_, by rw [hrun, hrec], ⟨⟨?_, hst.regs.size, hst.regs.slot⟩, Below.putFix _ hb.1 (by omega) (by omega), hs.putFix hl rfl, by simp; omega, fun hy => Kd.putFix _ ((hst.kd rfl).trans hb.2.2) (by have := hst.below.size; omega), ?_⟩⟩
      · simp [hst.regs.defers]
      · refine ⟨List.nodup_cons.2 ⟨fun hm => ?_, hst.marks.1⟩, fun d hdm => ?_⟩
        · have := (Array.getElem?_eq_some_iff.1 (hst.marks.2 _ hm).2).1; omega
        · rcases List.mem_cons.1 hdm with rfl | hdm
          · exact ⟨hst.below.size, (World.putObj_heap_other (by omega)).trans hd⟩
          · have h3 := hst.marks.2 d hdm
            have h4 := (Array.getElem?_eq_some_iff.1 h3.2).1
            exact ⟨h3.1, (World.putObj_heap_other (by omega)).trans (hb.2.2 d _ h3.2 rfl (fun _ => rfl))⟩
    rcases hJ with ⟨⟨s, hi, hb, hs⟩, hl, hd⟩ | ⟨⟨t, hi, hb, hs⟩, hl, hd⟩
    · obtain ⟨w4, q1, q2⟩ := hfin .ready none al _ (by simp) hb hs hl hd
      exact ⟨none, w4, q1, hdone s w.heap.size hi _ _ q2⟩
    · obtain ⟨w4, q1, q2⟩ := hfin .done (some .ret) al _ (by simp) hb hs hl hd
      exact ⟨some .ret, w4, q1, wpIn_ret (hstop t w.heap.size hi _ _ q2)⟩
end
end Go.Proofs.Ytfbmkepogcimlaa.Hx

/-
  More rules: strings; calls of yield, in an iterator.
-/





namespace Go.Proofs.Ytfbmkepogcimlaa.Hx
open Go Go.RowKit
set_option linter.unusedVariables false
set_option linter.unusedSimpArgs false
set_option linter.unusedSectionVars false
section
variable {P : Program} {N : Fr} {B : Nat} {w0 : World} {Q : Exit → Act → World → Prop} {al : AL} {H : HL} {ty : TypeId}
/-- The byte at a place. -/
def byteAt (s : ByteArray) (k : Nat) : Int := match s[k]? with | some b => b.toNat | none => 0
theorem r_sidx {x i : Operand} {t : TypeId} {kd : IntKind} {s : ByteArray} {iv : Int} (hx : ev al x = some (.string s)) (hi : ev al i = some (.int kd iv)) (hT : Str P t) (h0 : 0 ≤ iv ∧ iv < s.size) :
    Runs P N B w0 (.index t x i) ty al H (.int .u8 (byteAt s iv.toNat)) := fun a w hst => by
  have hlt : iv.toNat < s.size := by omega
  have hs : s[iv.toNat]? = some (s[iv.toNat]'hlt) := getElem?_pos s iv.toNat hlt
  simp only [execOp, hst.regs.eval hx, hst.regs.eval hi, Instr.index, Sem.run_bind, run_underlying hT, Result.andThen_ok, asIntOf, Sem.run_pure, if_pos h0.1, hs, byteAt]
theorem byteAt_bd (s : ByteArray) (k : Nat) : 0 ≤ byteAt s k ∧ byteAt s k ≤ 255 := by
  unfold byteAt
  cases s[k]? with
  | none => simp
  | some b => have := b.toNat_lt; simp; omega
def sLt (a b : ByteArray) : Bool := Op.bytesLess a.toList b.toList
def sEq (a b : ByteArray) : Bool := a.toList == b.toList
section
variable {x y : Operand} {t t' : TypeId} {a b : ByteArray}
theorem r_seql (hx : ev al x = some (.string a)) (hy : ev al y = some (.string b)) : Runs P N B w0 (.binOp .eql t x y t') ty al H (.bool (sEq a b)) := fun s w hst => by
  simp [execOp, hst.regs.eval hx, hst.regs.eval hy, eqGuard_at_string, binOp_string_eql, sEq]
theorem r_sneq (hx : ev al x = some (.string a)) (hy : ev al y = some (.string b)) : Runs P N B w0 (.binOp .neq t x y t') ty al H (.bool (!sEq a b)) := fun s w hst => by
  simp [execOp, hst.regs.eval hx, hst.regs.eval hy, eqGuard_at_string, binOp_string_neq, sEq]
theorem r_slss (hx : ev al x = some (.string a)) (hy : ev al y = some (.string b)) : Runs P N B w0 (.binOp .lss t x y t') ty al H (.bool (sLt a b)) := fun s w hst => by
  simp [execOp, hst.regs.eval hx, hst.regs.eval hy, eqGuard_at_string, binOp_string_lss, sLt]
theorem r_sleq (hx : ev al x = some (.string a)) (hy : ev al y = some (.string b)) : Runs P N B w0 (.binOp .leq t x y t') ty al H (.bool (sLt a b || sEq a b)) := fun s w hst => by
  simp [execOp, hst.regs.eval hx, hst.regs.eval hy, eqGuard_at_string, binOp_string_leq, sLt, sEq]
end

/-! #### yield -/
/-- Operations of an iterator, yield among them. -/
def OLI (P : Program) (N : Fr) (B : Nat) (w0 : World) (ops l : List Oper) (Q : Exit → Act → World → Prop) (al : AL) (H : HL) : Prop := ∀ a w, St N B w0 al H a w → wpListIn Fence.wide 1 P ops.toArray Q l a w
variable {ops rest tail : List Oper} {d : Nat} {op : Op} {pos : String} {after : Array Edge} {v : Value}
theorem oli_nil (h : QP N B w0 Q .normal al H) : OLI P N B w0 ops [] Q al H := fun a w hst => h a w hst
theorem oli_r (hr : Runs P N B w0 op ty al H v) (hd : Nat.blt d N.n = true) (k : OLI P N B w0 ops rest Q ((d, v) :: al) H) :
    OLI P N B w0 ops ({ dst := some d, op, type := ty, pos, after, guard := none } :: rest) Q al H := by
  intro a w hst
  refine wpListIn_plain rfl fun K hK => ⟨fun f _ => trivial, ?_⟩
  have := hr a w hst
  rw [show Fence.wide.round = none from rfl, Oper.semAt_none, show execOp a.eval { dst := some d, op, type := ty, pos, after, guard := none } = execOp a.eval { dst := none, op, type := ty, pos := "", after := #[], guard := none } from rfl, this]
  exact hK _ _ (k _ _ (hst.put (by simpa using hd) v))
theorem wp_regi {id : Nat} {l : List Oper} (hy : N.y = true) (h : OLI P N B w0 l l Q al H) : WP P N B w0 (.region id l.toArray false) Q al H := fun a w hst => .inr ⟨hy, (wpIn_wide (n := 1)).1 (wpIn_region_lit (h a w hst))⟩
theorem oli_ixr {α : Type} {E : Enc α} {a : Option Addr} {n cap : Nat} {xs : List α} {s i : Operand} {t : TypeId} {kd : IntKind} {iv : Int} (hl : Rd E B w0 a n cap xs) (hs : ev al s = some (.slice a n cap)) (hi : ev al i = some (.int kd iv)) (hT : Slc P t E.size) (h0 : 0 ≤ iv ∧ iv < n) (hd : Nat.blt d N.n = true)
    (k : ∀ x, xs[iv.toNat]? = some x → OLI P N B w0 ops rest Q ((d, .pointer (a.map (·.add (iv.toNat * E.size)))) :: al) H) :
    OLI P N B w0 ops ({ dst := some d, op := .indexAddr t s i, type := ty, pos, after, guard := none } :: rest) Q al H := by
  obtain ⟨x, hx⟩ := hl.get (i := iv.toNat) (by omega)
  exact oli_r (r_ix hs hi hT (hl.isSome (by omega)) h0) hd (k x hx)
theorem oli_yield {f : Operand} {args : List Operand} {tys : Array TypeId} {l : Nat} {vs : List Value} (hf : ev al f = some (.func (.yield l) #[] #[])) (ha : evs al args = some vs) (hd : Nat.blt d N.n = true) (hN : N.y = true) (hds : N.ds = [])
    (hc : ∀ w, Below B w0 w → Sat B w H → B ≤ w.heap.size → YieldAt Fence.wide 0 P l vs.toArray w fun e w' => ∃ v, e = .returned v ∧ OLI P N w'.heap.size w' ops rest Q ((d, v) :: al) []) :
    OLI P N B w0 ops ({ dst := some d, op := .call { callee := .value f, args := args.toArray, argTypes := tys }, type := ty, pos, after, guard := none } :: rest) Q al H := by
  intro a w hst
  refine wpListIn_plain rfl fun K hK => ⟨fun f _ => trivial, ?_⟩
  obtain ⟨fn, tmps, assign, body, hy, hR⟩ := hc w hst.below hst.sat hst.base
  have hrun : (execOp a.eval { dst := some d, op := .call { callee := .value f, args := args.toArray, argTypes := tys }, type := ty, pos, after, guard := none }).run P w = .ok (.round l fn tmps assign body) w := by
    have := hst.regs.evals ha
    simp [execOp, resolve, hst.regs.eval hf, Deferred.ofValue, invoke, this, hy]
  rw [show Fence.wide.round = none from rfl, Oper.semAt_none, hrun, Oper.uponIn_round]
  refine ⟨fun h => by simp [Fence.wide] at h, hR.mono ?_⟩
  rintro e w' ⟨v, rfl, h4⟩
  exact hK _ _ (h4 _ _ ⟨hst.regs.put (by simpa using hd) v, Below.refl _ _, Sat.nil _ _, Nat.le_refl _, (fun h => by rw [hN] at h; cases h), by rw [hds]; exact MarkOk.nil _ _⟩)
/-- An iterator's loop: each round from a world of its own on. -/
theorem wp_loopI {n : Nat} {C : Nat → Prop} {c : Code} {J : Nat → World → Prop} (M : Nat → AL) (I : Nat → Prop) (μ : Nat → Nat) (k0 : Nat) (hI : I k0) (hM : Sub (M k0) al) (hJ0 : ∀ w, Below B w0 w → B ≤ w.heap.size → J k0 w)
    (round : ∀ k W, I k → J k W → ∀ K : Act → World → Prop, (∀ k' al' H' B' W', I k' → μ k' < μ k → Sub (M k') al' → (∀ w, Below B' W' w → B' ≤ w.heap.size → J k' w) → KP ⟨n, C, [], true⟩ B' W' K al' H') → WP P ⟨n, C, [], true⟩ W.heap.size W c (Exit.then K Q) (M k) []) :
    WP P ⟨n, C, [], true⟩ B w0 (.loop c) Q al H := by
  intro a w hst
  have key : ∀ m k, I k → μ k < m → ∀ a w, Regs ⟨n, C, [], true⟩ (M k) a → J k w → dloop (D true P c) Q m a w := by
    intro m
    induction m with
    | zero => intro k _ h; omega
    | succ m ih =>
      intro k hI hm a w hr hj
      refine round k w hI hj _ (fun k' al' H' B' W' hI' hμ hs hJ a' w' h' => ih k' hI' (by omega) a' w' (h'.regs.sub hs) (hJ w' h'.below h'.base)) a w ⟨hr, Below.refl _ _, Sat.nil _ _, Nat.le_refl _, (fun h => by cases h), MarkOk.nil _ _⟩
  exact ⟨μ k0 + 1, key _ k0 hI (by omega) a w (hst.regs.sub hM) (hJ0 w hst.below hst.base)⟩
/-- The head of a region of an iterator: operations that only read; the tail in its order. -/
def SLI (P : Program) (N : Fr) (B : Nat) (w0 : World) (ops l tail : List Oper) (Q : Exit → Act → World → Prop) (al : AL) (H : HL) : Prop :=
  ∀ a w, St N B w0 al H a w → wpStill P ops.toArray w (fun a' => wpListIn Fence.wide 1 P ops.toArray Q tail a' w) l a
theorem wpOpIn_of_stOp {ops : Array Oper} {i : Nat} {a : Act} {w : World} {K : Act → Prop} {K' : Act → World → Prop} (h : ∀ a, K a → K' a w) (hh : stOp P ops w i K a) : wpOpIn Fence.wide 1 P ops Q i K' a w := by
  have hp := wpOp_of_stOp (Q' := fun _ _ _ => False) (K' := fun a' w' => w' = w ∧ K a') (fun a h => ⟨rfl, h⟩) hh
  unfold wpOp at hp
  unfold wpOpIn
  split
  · rename_i ho; simp only [ho] at hp; exact h _ hp.2
  · rename_i o ho
    simp only [ho] at hp
    split
    · rename_i hw
      simp only [hw, if_true] at hp
      rcases hp with hp | ⟨_, a1, w1, hp⟩
      · refine ⟨fun f _ => trivial, ?_⟩
        rw [show Fence.wide.round = none from rfl, Oper.semAt_none]
        unfold Oper.wp at hp
        generalize (execOp a.eval o).run P w = r at *
        cases r with
        | ok x w' =>
          cases x with
          | value v => obtain ⟨rfl, hk⟩ := hp; exact h _ hk
          | skip => obtain ⟨rfl, hk⟩ := hp; exact h _ hk
          | defer d => obtain ⟨rfl, hk⟩ := hp; exact h _ hk
          | enter f args =>
            refine ⟨fun h => by simp [Fence.wide] at h, (callsIn_wide.2 hp).mono fun e w'' he => ?_⟩
            cases e with
            | returned v => obtain ⟨rfl, hk⟩ := he; exact h _ hk
            | panicked c => exact he.elim
            | outgrown => obtain ⟨a, w, he⟩ := he; exact he.elim
          | row r args => exact ⟨fun h => by simp [Fence.wide] at h, fun c cs _ => by obtain ⟨v, w', ⟨rfl, hk⟩, s⟩ := hp c cs; exact ⟨v, _, h _ hk, stepsIn_wide.2 s⟩⟩
          | _ => exact (hp : False).elim
        | halt x w' =>
          cases x with
          | panic v => exact (hp : False).elim
          | _ => exact (hp : False).elim
      · exact hp.elim
    · rename_i hw
      simp only [hw] at hp
      exact ⟨fun f _ => trivial, h _ hp.2⟩
theorem wpAnyIn_of_head {ops : Array Oper} {n g : Nat} {w : World} {L : Array Bool → Act → Prop} (hL : ∀ listed a, L listed a → wpAnyIn Fence.wide 1 P .any ops Q g listed a w) :
    ∀ (f : Nat) (listed : Array Bool) (a : Act), wpAnyL P .any ops w n L f listed a → wpAnyIn Fence.wide 1 P .any ops Q (f + g) listed a w
  | 0, listed, a, h => by rw [Nat.zero_add]; exact hL _ _ h
  | f + 1, listed, a, h => by
    rw [show f + 1 + g = (f + g) + 1 by omega]
    exact ⟨fun h0 => absurd h0 h.1, fun i hi => wpOpIn_of_stOp (fun a' h' => wpAnyIn_of_head hL f _ a' h') (h.2 i hi).2⟩
theorem wpAnyIn_of_seq {ops : Array Oper} : ∀ (l : List Oper) (k : Nat) (listed : Array Bool) (a : Act) (w : World), (∀ j, l[j]? = ops[k + j]?) →
    Region.seqB .any ops l.length k listed = true → wpListIn Fence.wide 1 P ops Q l a w → wpAnyIn Fence.wide 1 P .any ops Q l.length listed a w
  | [], _, _, _, _, _, hB, h => ⟨by simpa [Region.seqB] using hB, h⟩
  | o :: l, k, listed, a, w, hl, hB, h => by
    have h0 : ops[k]? = some o := by simpa using (hl 0).symm
    simp only [List.length_cons, Region.seqB, Bool.and_eq_true, decide_eq_true_eq] at hB
    refine ⟨fun h1 => (by rw [hB.1] at h1; cases h1), fun i hi => ?_⟩
    rw [hB.1] at hi
    have hik : i = k := by simpa using hi
    subst hik
    have hw : wpOpIn Fence.wide 1 P ops Q i (wpListIn Fence.wide 1 P ops Q l) a w := by unfold wpOpIn; simp only [h0]; exact h
    exact wpOpIn_mono (fun a' w' h' => wpAnyIn_of_seq l (i + 1) _ a' w' (fun j => by have := hl (j + 1); simpa [Nat.add_assoc, Nat.add_comm 1 j] using this) hB.2 h') hw
theorem wp_regti (n : Nat) {id : Nat} {l : List Oper} (hy : N.y = true) (hm : P.follows .mixedOrders = true) (hB : Region.lexTailB .any l.toArray n = true)
    (h : SLI P N B w0 l (l.take n) (l.drop n) Q al H) : WP P N B w0 (.region id l.toArray true) Q al H := by
  intro a w hst
  refine .inr ⟨hy, (wpIn_wide (n := 1)).1 (wpIn_region_any hm ?_)⟩
  have hw := h a _ hst.drew
  simp only [Region.lexTailB, Bool.and_eq_true, decide_eq_true_eq] at hB
  obtain ⟨⟨⟨⟨h1, h2⟩, h3⟩, h4⟩, h5⟩ := hB
  have e1 : n < l.length := by simpa using h2
  have e2 : (l.take n).length = n := by simp; omega
  have e3 : (l.drop n).length = l.toArray.size - n := by simp
  have hh := wpAnyL_lex (md := .any) (g := l.toArray.size - n) h1 h3 h4 h2 (l.take n) 0 (Array.replicate l.toArray.size false) a (fun j hj => by
      have : j < n := by rw [e2] at hj; exact hj
      simp [this]) (by simpa using e2)
    ⟨by simp, fun j oj _ hl => (by rw [getD_replicate_false] at hl; cases hl), fun t _ ht => getD_in (by simpa using ht) (getD_replicate_false _ _)⟩ (by rw [e2]; exact h5) hw
  have := wpAnyIn_of_head (Q := Q) (g := l.toArray.size - n) (fun listed a' hL => by
    have := wpAnyIn_of_seq (Q := Q) (l.drop n) n listed a' { w with drawn := w.drawn + 1 } (fun j => by simp [List.getElem?_drop]) (by rw [e3]; exact hL.1) hL.2
    rwa [e3] at this) _ _ _ hh
  rw [e2, show n + (l.toArray.size - n) = l.toArray.size by omega] at this
  exact this
theorem sli_nil (h : OLI P N B w0 ops tail Q al H) : SLI P N B w0 ops [] tail Q al H := fun a w hst => wpStill_nil (h a w hst)
theorem sli_r (hr : Runs P N B w0 op ty al H v) (hd : Nat.blt d N.n = true) (k : SLI P N B w0 ops rest tail Q ((d, v) :: al) H) :
    SLI P N B w0 ops ({ dst := some d, op, type := ty, pos, after, guard := none } :: rest) tail Q al H := by
  intro a w hst
  refine wpStill_step fun K hK => ?_
  rw [if_pos (by rfl)]
  unfold Oper.still
  rw [show execOp a.eval { dst := some d, op, type := ty, pos, after, guard := none } = execOp a.eval { dst := none, op, type := ty, pos := "", after := #[], guard := none } from rfl, hr a w hst]
  exact ⟨rfl, hK _ (k _ _ (hst.put (by simpa using hd) v))⟩
theorem sli_ixr {α : Type} {E : Enc α} {a : Option Addr} {n cap : Nat} {xs : List α} {s i : Operand} {t : TypeId} {kd : IntKind} {iv : Int} (hl : Rd E B w0 a n cap xs) (hs : ev al s = some (.slice a n cap)) (hi : ev al i = some (.int kd iv)) (hT : Slc P t E.size) (h0 : 0 ≤ iv ∧ iv < n) (hd : Nat.blt d N.n = true)
    (k : ∀ x, xs[iv.toNat]? = some x → SLI P N B w0 ops rest tail Q ((d, .pointer (a.map (·.add (iv.toNat * E.size)))) :: al) H) :
    SLI P N B w0 ops ({ dst := some d, op := .indexAddr t s i, type := ty, pos, after, guard := none } :: rest) tail Q al H := by
  obtain ⟨x, hx⟩ := hl.get (i := iv.toNat) (by omega)
  exact sli_r (r_ix hs hi hT (hl.isSome (by omega)) h0) hd (k x hx)
/-- The end of an iterator. -/
def EndsI (P : Program) (N : Fr) (R : World → Prop) (Q : Exit → Act → World → Prop) : Prop :=
  ∀ B w0 e al H, (e = .ret ∨ e = .normal) → (∀ w, Below B w0 w → Sat B w H → B ≤ w.heap.size → R w) → QP N B w0 Q e al H
theorem EndsI.fall {R : World → Prop} {Q0 : Exit → Act → World → Prop} (h : EndsI P N R Q0) (hQ : ∀ a w, Q0 .normal a w → Q .normal a w) (hR : ∀ w, Below B w0 w → Sat B w H → B ≤ w.heap.size → R w) : QP N B w0 Q .normal al H := QP.of (h _ _ _ _ _ (.inr rfl) hR) hQ
theorem EndsI.ret {R : World → Prop} {Q0 : Exit → Act → World → Prop} (h : EndsI P N R Q0) (hQ : ∀ a w, Q0 .ret a w → Q .ret a w) (hR : ∀ w, Below B w0 w → Sat B w H → B ≤ w.heap.size → R w) : WP P N B w0 .ret Q al H := wp_ret' (QP.of (h _ _ _ _ _ (.inl rfl) hR) hQ)
theorem enterI {n : Nat} {f : FuncId} {fn : Func} {c : Code} {args : List Value} {w : World} {R : World → Prop} (hf : P.funcs[f]? = some fn) (hb : fn.body = some c) (hn : fn.ntmps = n) (hres : fn.results = #[]) (hl : Nat.ble args.length n = true)
    (h : ∀ Q, EndsI P ⟨n, fun _ => True, [], true⟩ R Q → WP P ⟨n, fun _ => True, [], true⟩ w.heap.size w c Q (pairs 0 args) []) : CallsIn Fence.wide 0 P f args.toArray w fun e w' => (∃ v, e = .returned v) ∧ R w' := by
  refine callsIn_of_wp hf hb trivial (wpIn_wide.2 (D.wp _ _ _ _ _ (h (bodyPost P fn fun e w' => (∃ v, e = .returned v) ∧ R w') ?_ _ _ ⟨⟨rfl, ?_, fun n v hv => ?_⟩, Below.refl _ _, Sat.nil _ _, Nat.le_refl _, (fun h => by cases h), MarkOk.nil _ _⟩))) rfl
  · intro B w0 e al H he hR a w' hst
    have hres' : (results fn a.tmps).run P w' = .ok (.tuple #[]) w' := by simp [results, hres]
    have hd : a.defers = [] := hst.regs.defers
    rcases he with rfl | rfl <;> exact ⟨hd, _, hres', ⟨_, rfl⟩, hR w' hst.below hst.sat hst.base⟩
  · have : args.length ≤ n := by simpa using hl
    simp [hn]; omega
  · have := look_pairs hv
    simp only [Nat.sub_zero] at this
    have h2 := (List.getElem?_eq_some_iff.1 this.2).1
    rw [Array.getElem?_append_left (by simpa using h2)]
    simpa using this.2
end
end Go.Proofs.Ytfbmkepogcimlaa.Hx

/-
  Activities as plain data, and what makes one right. No program stands here.
-/


namespace Go.Proofs.Ytfbmkepogcimlaa
open Hx
set_option linter.unusedVariables false
structure SmpR where
  at_ : Int
  x : Int
  y : Int
  z : Int
  pulse : Int
  power : Int
  steps : Int
structure LapR where
  from_ : Int
  to : Int
  name : ByteArray
/-- What is wrong with the first element with which something is wrong; f sees the element ahead, too. -/
def chkE {α : Type} (f : Option α → α → Int) : Option α → List α → Int
  | _, [] => 0
  | p, x :: r => if f p x ≠ 0 then f p x else chkE f (some x) r
section
variable {α : Type} {f : Option α → α → Int} {xs : List α} {k : Nat} {x : α} {p : Option α} {R c : Int}
theorem chkE_cons (p : Option α) (x : α) (r : List α) : chkE f p (x :: r) = if f p x ≠ 0 then f p x else chkE f (some x) r := rfl
theorem chkE_bad (hP : R = chkE f (ahead xs k) (xs.drop k)) (hx : xs[k]? = some x) (h : f (ahead xs k) x = c) (hc : c ≠ 0) : R = c := by
  rw [hP, drop_cons_get hx, chkE_cons, h, if_pos hc]
theorem chkE_next (hP : R = chkE f (ahead xs k) (xs.drop k)) (hx : xs[k]? = some x) (h : f (ahead xs k) x = 0) : R = chkE f (ahead xs (k + 1)) (xs.drop (k + 1)) := by
  rw [hP, drop_cons_get hx, chkE_cons, h, if_neg (by simp), ahead_succ hx]
theorem chkE_end (hP : R = chkE f (ahead xs k) (xs.drop k)) (hk : xs.length ≤ k) : R = 0 := by rw [hP, List.drop_eq_nil_of_le hk]; rfl
theorem chkE_all : ∀ (k : Nat) (xs : List α) (p : Option α), chkE f p xs = 0 → ∀ x, xs[k]? = some x → f (if k = 0 then p else xs[k - 1]?) x = 0
  | _, [], _, _, x, hx => by simp at hx
  | 0, y :: r, p, h, x, hx => by
    simp at hx; subst hx
    rw [chkE_cons] at h
    by_cases h1 : f p y ≠ 0
    · rw [if_pos h1] at h; exact absurd h h1
    · simpa using h1
  | k + 1, y :: r, p, h, x, hx => by
    rw [chkE_cons] at h
    by_cases h1 : f p y ≠ 0
    · rw [if_pos h1] at h; exact absurd h h1
    · rw [if_neg h1] at h
      have := chkE_all k r (some y) h x (by simpa using hx)
      cases k with
      | zero => simpa using this
      | succ k => simpa using this
theorem chkE_ok (h : chkE f none xs = 0) (hx : xs[k]? = some x) : f (ahead xs k) x = 0 := chkE_all k xs none h x hx
end
theorem chkE_start {α : Type} (f : Option α → α → Int) (xs : List α) : chkE f none xs = chkE f (ahead xs 0) (xs.drop 0) := rfl
theorem ahead_none {α : Type} {xs : List α} {k : Nat} (h : (k : Int) = 0) : ahead xs k = none := by
  have : k = 0 := by omega
  subst this; rfl
def nameC (c : Int) : Bool := (decide (97 ≤ c) && decide (c ≤ 122)) || (decide (65 ≤ c) && decide (c ≤ 90)) || (decide (48 ≤ c) && decide (c ≤ 57)) || decide (c = 45) || decide (c = 95) || decide (c = 46)
theorem nameC_iff {c : Int} : nameC c = true ↔ ((97 ≤ c ∧ c ≤ 122) ∨ (65 ≤ c ∧ c ≤ 90) ∨ (48 ≤ c ∧ c ≤ 57) ∨ c = 45 ∨ c = 95 ∨ c = 46) := by
  unfold nameC
  simp only [Bool.or_eq_true, Bool.and_eq_true, decide_eq_true_eq]
  constructor <;> intro h <;> omega
theorem nameC_not {c : Int} : nameC c = false ↔ ¬((97 ≤ c ∧ c ≤ 122) ∨ (65 ≤ c ∧ c ≤ 90) ∨ (48 ≤ c ∧ c ≤ 57) ∨ c = 45 ∨ c = 95 ∨ c = 46) := by rw [← nameC_iff]; simp
theorem nn_f {c : Int} (h : (97 ≤ c ∧ c ≤ 122) ∨ (65 ≤ c ∧ c ≤ 90) ∨ (48 ≤ c ∧ c ≤ 57) ∨ c = 45 ∨ c = 95 ∨ c = 46) : false = !nameC c := by rw [nameC_iff.2 h]; rfl
theorem nn_d {c : Int} (h : ¬(97 ≤ c ∧ c ≤ 122) ∧ ¬(65 ≤ c ∧ c ≤ 90) ∧ ¬(48 ≤ c ∧ c ≤ 57) ∧ c ≠ 45 ∧ c ≠ 95) : decide (c ≠ 46) = !nameC c := by
  by_cases h1 : c = 46
  · rw [nameC_iff.2 (by omega), decide_eq_false (by omega)]; rfl
  · rw [nameC_not.2 (by omega), decide_eq_true h1]; rfl
theorem nn_e {c : Int} (h : ¬(97 ≤ c ∧ c ≤ 122) ∧ ¬(65 ≤ c ∧ c ≤ 90) ∧ ¬(48 ≤ c ∧ c ≤ 57) ∧ c ≠ 45 ∧ c ≠ 95) : (!decide (c = 46)) = !nameC c := by
  by_cases h1 : c = 46
  · rw [nameC_iff.2 (by omega), decide_eq_true h1]
  · rw [nameC_not.2 (by omega), decide_eq_false h1]
theorem up_to {P : Nat → Prop} {k : Nat} (hP : ∀ i, i < k → P i) (h : P k) : ∀ i, i < k + 1 → P i := fun i hi => by
  by_cases h1 : i < k
  · exact hP i h1
  · rw [show i = k by omega]; exact h
def bytesAll (p : Int → Bool) (s : ByteArray) : Bool := (List.range s.size).all fun i => p (byteAt s i)
theorem bytesAll_iff {p : Int → Bool} {s : ByteArray} : bytesAll p s = true ↔ ∀ i, i < s.size → p (byteAt s i) = true := by simp [bytesAll]
theorem bytesAll_not {p : Int → Bool} {s : ByteArray} {k : Nat} (hk : k < s.size) (h : p (byteAt s k) = false) : bytesAll p s = false := by
  cases hb : bytesAll p s with
  | false => rfl
  | true => rw [bytesAll_iff.1 hb k hk] at h; cases h
def nameB (s : ByteArray) : Bool := bytesAll nameC s && (decide (1 ≤ s.size) && decide (s.size ≤ 60))
def titleB (s : ByteArray) : Bool := bytesAll (fun c => inB c 32 126) s && decide (s.size ≤ 60)
def sLe (a b : ByteArray) : Bool := sLt a b || sEq a b
def smpIn (x : SmpR) : Bool := inB x.x (-100000000) 100000000 && inB x.y (-100000000) 100000000 && inB x.z (-100000) 100000 && (inB x.pulse (-1) 300 && inB x.power (-1) 3000 && inB x.steps (-1) 300)
def ordS : Option SmpR → SmpR → Bool
  | none, x => decide (x.at_ ≠ 0)
  | some y, x => decide (x.at_ ≤ y.at_)
def fS (st : Int) (p : Option SmpR) (x : SmpR) : Int := if ordS p x = true then 10 else if 1000000 < x.at_ ∨ 86399999999 < st + x.at_ ∨ smpIn x = false then 9 else 0
def ordL : Option LapR → LapR → Bool
  | none, _ => false
  | some y, x => decide (x.from_ < y.to)
def fL (sp : Int) (p : Option LapR) (x : LapR) : Int := if x.from_ < 0 ∨ x.to ≤ x.from_ ∨ sp < x.to then 9 else if ordL p x = true then 10 else if titleB x.name = false then 8 else 0
def ordT : Option ByteArray → ByteArray → Bool
  | none, _ => false
  | some y, x => sLe x y
def fT (p : Option ByteArray) (x : ByteArray) : Int := if nameB x = false then 8 else if ordT p x = true then 10 else 0
def spanL (ss : List SmpR) : Int := match ss[ss.length - 1]? with | some x => x.at_ | none => 0
theorem spanL_get {ss : List SmpR} {k : Nat} {x : SmpR} (h : ss[k]? = some x) (hk : k + 1 = ss.length) : spanL ss = x.at_ := by
  unfold spanL; rw [show ss.length - 1 = k by omega, h]
theorem spanL_nil {ss : List SmpR} (h : ss.length = 0) : spanL ss = 0 := by
  have := List.eq_nil_of_length_eq_zero h
  subst this; rfl
/-- An activity's data. -/
structure ActD where
  name : ByteArray
  sport : Int
  start : Int
  ss : List SmpR
  ls : List LapR
  ts : List ByteArray
def chkA (a : ActD) : Int :=
  if nameB a.name = false then 8 else if inB a.sport 1 5 = false then 7 else if inB a.start 0 86399999999 = false then 9
  else if 20000 < a.ss.length ∨ 200 < a.ls.length ∨ 20 < a.ts.length then 3
  else if chkE (fS a.start) none a.ss ≠ 0 then chkE (fS a.start) none a.ss
  else if chkE (fL (spanL a.ss)) none a.ls ≠ 0 then chkE (fL (spanL a.ss)) none a.ls else chkE fT none a.ts
section
variable {a : ActD}
theorem chkA_8 (h : nameB a.name = false) : chkA a = 8 := if_pos h
theorem chkA_7 (h : nameB a.name = true) (h2 : inB a.sport 1 5 = false) : chkA a = 7 := by unfold chkA; rw [if_neg (by rw [h]; simp), if_pos h2]
theorem chkA_9 (h : nameB a.name = true) (h2 : inB a.sport 1 5 = true) (h3 : inB a.start 0 86399999999 = false) : chkA a = 9 := by unfold chkA; rw [if_neg (by rw [h]; simp), if_neg (by rw [h2]; simp), if_pos h3]
theorem chkA_3 (h : nameB a.name = true) (h2 : inB a.sport 1 5 = true) (h3 : inB a.start 0 86399999999 = true) (h4 : 20000 < a.ss.length ∨ 200 < a.ls.length ∨ 20 < a.ts.length) : chkA a = 3 := by
  unfold chkA; rw [if_neg (by rw [h]; simp), if_neg (by rw [h2]; simp), if_neg (by rw [h3]; simp), if_pos h4]
/-- The numbers of an activity are right. -/
def headA (a : ActD) : Prop := nameB a.name = true ∧ inB a.sport 1 5 = true ∧ inB a.start 0 86399999999 = true ∧ a.ss.length ≤ 20000 ∧ a.ls.length ≤ 200 ∧ a.ts.length ≤ 20
theorem chkA_head (h : headA a) : chkA a = if chkE (fS a.start) none a.ss ≠ 0 then chkE (fS a.start) none a.ss
  else if chkE (fL (spanL a.ss)) none a.ls ≠ 0 then chkE (fL (spanL a.ss)) none a.ls else chkE fT none a.ts := by
  obtain ⟨h1, h2, h3, h4, h5, h6⟩ := h
  unfold chkA; rw [if_neg (by rw [h1]; simp), if_neg (by rw [h2]; simp), if_neg (by rw [h3]; simp), if_neg (by omega)]
theorem chkA_s (h : headA a) (h2 : chkE (fS a.start) none a.ss ≠ 0) : chkA a = chkE (fS a.start) none a.ss := by rw [chkA_head h, if_pos h2]
theorem chkA_l (h : headA a) (h2 : chkE (fS a.start) none a.ss = 0) (h3 : chkE (fL (spanL a.ss)) none a.ls ≠ 0) : chkA a = chkE (fL (spanL a.ss)) none a.ls := by rw [chkA_head h, if_neg (by omega), if_pos h3]
theorem chkA_t (h : headA a) (h2 : chkE (fS a.start) none a.ss = 0) (h3 : chkE (fL (spanL a.ss)) none a.ls = 0) : chkA a = chkE fT none a.ts := by rw [chkA_head h, if_neg (by omega), if_neg (by omega)]
end
/-- The samples of a right activity. -/
structure SmpOk (st : Int) (ss : List SmpR) : Prop where
  len : ss.length ≤ 20000
  first : ∀ x, ss[0]? = some x → x.at_ = 0
  rise : ∀ i x y, ss[i]? = some x → ss[i + 1]? = some y → x.at_ < y.at_
  bd : ∀ x ∈ ss, 0 ≤ x.at_ ∧ x.at_ ≤ 1000000 ∧ st + x.at_ ≤ 86399999999 ∧ (-100000000 ≤ x.x ∧ x.x ≤ 100000000) ∧ (-100000000 ≤ x.y ∧ x.y ≤ 100000000) ∧ (-100000 ≤ x.z ∧ x.z ≤ 100000) ∧ (-1 ≤ x.pulse ∧ x.pulse ≤ 300) ∧ (-1 ≤ x.power ∧ x.power ≤ 3000) ∧ (-1 ≤ x.steps ∧ x.steps ≤ 300)
theorem fS_zero {st : Int} {p : Option SmpR} {x : SmpR} (h : fS st p x = 0) : ordS p x = false ∧ x.at_ ≤ 1000000 ∧ st + x.at_ ≤ 86399999999 ∧ smpIn x = true := by
  unfold fS at h
  by_cases h1 : ordS p x = true
  · rw [if_pos h1] at h; omega
  · rw [if_neg h1] at h
    by_cases h2 : 1000000 < x.at_ ∨ 86399999999 < st + x.at_ ∨ smpIn x = false
    · rw [if_pos h2] at h; omega
    · refine ⟨by simpa using h1, by omega, by omega, ?_⟩
      cases h3 : smpIn x with
      | true => rfl
      | false => exact absurd (.inr (.inr h3)) h2
theorem smpIn_ok {x : SmpR} (h : smpIn x = true) : (-100000000 ≤ x.x ∧ x.x ≤ 100000000) ∧ (-100000000 ≤ x.y ∧ x.y ≤ 100000000) ∧ (-100000 ≤ x.z ∧ x.z ≤ 100000) ∧ (-1 ≤ x.pulse ∧ x.pulse ≤ 300) ∧ (-1 ≤ x.power ∧ x.power ≤ 3000) ∧ (-1 ≤ x.steps ∧ x.steps ≤ 300) := by
  unfold smpIn at h
  simp only [Bool.and_eq_true] at h
  exact ⟨inB_iff.1 h.1.1.1, inB_iff.1 h.1.1.2, inB_iff.1 h.1.2, inB_iff.1 h.2.1.1, inB_iff.1 h.2.1.2, inB_iff.1 h.2.2⟩
theorem chkE_pos {st : Int} {ss : List SmpR} (h : chkE (fS st) none ss = 0) : ∀ (k : Nat) (x : SmpR), ss[k]? = some x → 0 ≤ x.at_
  | 0, x, hx => by
    have := (fS_zero (chkE_ok h hx)).1
    simp only [ahead_zero, ordS, decide_eq_false_iff_not] at this
    omega
  | k + 1, x, hx => by
    have hlt : k < ss.length := by have := (List.getElem?_eq_some_iff.1 hx).1; omega
    have hy : ss[k]? = some (ss[k]'hlt) := List.getElem?_eq_getElem hlt
    have h1 := chkE_pos h k _ hy
    have h2 := (fS_zero (chkE_ok h hx)).1
    rw [ahead_succ hy] at h2
    simp only [ordS, decide_eq_false_iff_not] at h2
    omega
theorem smpOk {st : Int} {ss : List SmpR} (hl : ss.length ≤ 20000) (h : chkE (fS st) none ss = 0) : SmpOk st ss := by
  refine ⟨hl, fun x hx => ?_, fun i x y hx hy => ?_, fun x hx => ?_⟩
  · have := (fS_zero (chkE_ok h hx)).1
    simp only [ahead_zero, ordS, decide_eq_false_iff_not] at this
    omega
  · have := (fS_zero (chkE_ok h hy)).1
    rw [ahead_succ hx] at this
    simp only [ordS, decide_eq_false_iff_not] at this
    omega
  · obtain ⟨k, hk⟩ := List.getElem?_of_mem hx
    have h1 := fS_zero (chkE_ok h hk)
    exact ⟨chkE_pos h k x hk, h1.2.1, h1.2.2.1, smpIn_ok h1.2.2.2⟩
/-- What is known of a right activity. -/
structure GoodA (a : ActD) : Prop where
  head : headA a
  s : chkE (fS a.start) none a.ss = 0
  l : chkE (fL (spanL a.ss)) none a.ls = 0
  t : chkE fT none a.ts = 0
theorem goodA {a : ActD} (h : chkA a = 0) : GoodA a := by
  have hh : headA a := by
    unfold chkA at h
    by_cases h1 : nameB a.name = false
    · rw [if_pos h1] at h; omega
    · rw [if_neg h1] at h
      by_cases h2 : inB a.sport 1 5 = false
      · rw [if_pos h2] at h; omega
      · rw [if_neg h2] at h
        by_cases h3 : inB a.start 0 86399999999 = false
        · rw [if_pos h3] at h; omega
        · rw [if_neg h3] at h
          by_cases h4 : 20000 < a.ss.length ∨ 200 < a.ls.length ∨ 20 < a.ts.length
          · rw [if_pos h4] at h; omega
          · exact ⟨by simpa using h1, by simpa using h2, by simpa using h3, by omega, by omega, by omega⟩
  rw [chkA_head hh] at h
  by_cases h1 : chkE (fS a.start) none a.ss ≠ 0
  · rw [if_pos h1] at h; exact absurd h h1
  · rw [if_neg h1] at h
    by_cases h2 : chkE (fL (spanL a.ss)) none a.ls ≠ 0
    · rw [if_pos h2] at h; exact absurd h h2
    · rw [if_neg h2] at h
      exact ⟨hh, by omega, by omega, h⟩
theorem GoodA.chk {a : ActD} (h : GoodA a) : chkA a = 0 := by rw [chkA_t h.head h.s h.l, h.t]
theorem GoodA.smp {a : ActD} (h : GoodA a) : SmpOk a.start a.ss := smpOk h.head.2.2.2.1 h.s
end Go.Proofs.Ytfbmkepogcimlaa

/-
  How activities lie in memory.
-/


namespace Go.Proofs.Ytfbmkepogcimlaa
open Go Go.RowKit Hx
set_option linter.unusedVariables false
def encSmp : Enc SmpR := { size := 7, cells := fun x => [.int .i64 x.at_, .int .i64 x.x, .int .i64 x.y, .int .i64 x.z, .int .i64 x.pulse, .int .i64 x.power, .int .i64 x.steps], val := fun x => .agg #[.int .i64 x.at_, .int .i64 x.x, .int .i64 x.y, .int .i64 x.z, .int .i64 x.pulse, .int .i64 x.power, .int .i64 x.steps], len := fun _ => rfl, ones := fun _ u h => (by simp at h; rcases h with h | h | h | h | h | h | h <;> subst h <;> rfl), pos := by decide, vc := fun _ => rfl }
def mk_encSample (a b c d e f g : Int) : SmpR := ⟨a, b, c, d, e, f, g⟩
theorem ty70 : Ty Try.prog 70 encSmp := .inr ⟨ag70, fun _ => rfl⟩
def encLap : Enc LapR := { size := 3, cells := fun x => [.int .i64 x.from_, .int .i64 x.to, .string x.name], val := fun x => .agg #[.int .i64 x.from_, .int .i64 x.to, .string x.name], len := fun _ => rfl, ones := fun _ u h => (by simp at h; rcases h with h | h | h <;> subst h <;> rfl), pos := by decide, vc := fun _ => rfl }
def mk_encLap (a b : Int) (c : ByteArray) : LapR := ⟨a, b, c⟩
theorem ty110 : Ty Try.prog 110 encLap := .inr ⟨ag110, fun _ => rfl⟩
def encStr : Enc ByteArray := { size := 1, cells := fun x => [.string x], val := fun x => .string x, len := fun _ => rfl, ones := fun _ u h => by simp at h; subst h; rfl, pos := by decide, vc := fun _ => rfl }
theorem ty9 : Ty Try.prog 9 encStr := .inl ⟨sc9, fun _ => rfl⟩
/-- An activity's value, and the lists that its slices read as. -/
structure ActV where
  name : ByteArray
  sport : Int
  start : Int
  sa : Option Addr
  sn : Nat
  sc : Nat
  la : Option Addr
  ln : Nat
  lc : Nat
  ta : Option Addr
  tn : Nat
  tc : Nat
  ss : List SmpR
  ls : List LapR
  ts : List ByteArray
def ActV.d (v : ActV) : ActD := ⟨v.name, v.sport, v.start, v.ss, v.ls, v.ts⟩
def maxS : Nat := 9223372036854775807
structure ActV.Ok (C : Nat) (w : World) (v : ActV) : Prop where
  s : Rd encSmp C w v.sa v.sn v.sc v.ss
  l : Rd encLap C w v.la v.ln v.lc v.ls
  t : Rd encStr C w v.ta v.tn v.tc v.ts
  nm : v.name.size ≤ 9223372036854775807
  lm : ∀ x ∈ v.ls, x.name.size ≤ 9223372036854775807
  tm : ∀ x ∈ v.ts, x.size ≤ 9223372036854775807
  lo : ∀ x ∈ v.ss, -9223372036854775808 ≤ x.at_ ∧ x.at_ ≤ 9223372036854775807
theorem ActV.Ok.at {B : Nat} {w0 w : World} {v : ActV} (h : v.Ok B w0) (hb : Below B w0 w) (hB : B ≤ w.heap.size) : v.Ok w.heap.size w := ⟨h.s.at hb hB, h.l.at hb hB, h.t.at hb hB, h.nm, h.lm, h.tm, h.lo⟩
theorem ActV.Ok.below {B : Nat} {w0 w : World} {v : ActV} (h : v.Ok B w0) (hb : Below B w0 w) : v.Ok B w := ⟨h.s.below hb, h.l.below hb, h.t.below hb, h.nm, h.lm, h.tm, h.lo⟩
end Go.Proofs.Ytfbmkepogcimlaa

/-
  Activities among the arguments, opened.
-/


namespace Go.Proofs.Ytfbmkepogcimlaa
open Go Hx Go.ChangeShapes Go.WideShapes Go.ChangeAt Go.RowKit
set_option linter.unusedVariables false
set_option maxRecDepth 8000
section
variable {H : Type} {enc : TypeId × Value → H} {W : World} {base : Nat} {sp : Nat → Bool} {held : Bool}
theorem cells_encSmp : ∀ n cs (x : DataW H × List MemPlace), DataW.trod enc Try.prog W base sp held n 70 cs = some x → ∃ y, cs = encSmp.cells y ∧ (-9223372036854775808 ≤ y.at_ ∧ y.at_ ≤ 9223372036854775807) := by
  intro n cs x h
  obtain ⟨hl, hv⟩ := leaves (ts := [3, 3, 3, 3, 3, 3, 3]) 4 (by kernel_rfl) h
  match cs, hl with
  | [v0, v1, v2, v3, v4, v5, v6], _ =>
    obtain ⟨a0, rfl, w0⟩ := (hv 0 3 v0 rfl rfl).int (k := .i64) Try.underlying3
    obtain ⟨a1, rfl, w1⟩ := (hv 1 3 v1 rfl rfl).int (k := .i64) Try.underlying3
    obtain ⟨a2, rfl, w2⟩ := (hv 2 3 v2 rfl rfl).int (k := .i64) Try.underlying3
    obtain ⟨a3, rfl, w3⟩ := (hv 3 3 v3 rfl rfl).int (k := .i64) Try.underlying3
    obtain ⟨a4, rfl, w4⟩ := (hv 4 3 v4 rfl rfl).int (k := .i64) Try.underlying3
    obtain ⟨a5, rfl, w5⟩ := (hv 5 3 v5 rfl rfl).int (k := .i64) Try.underlying3
    obtain ⟨a6, rfl, w6⟩ := (hv 6 3 v6 rfl rfl).int (k := .i64) Try.underlying3
    exact ⟨⟨a0, a1, a2, a3, a4, a5, a6⟩, rfl, wf_i64 w0⟩
theorem cells_encLap : ∀ n cs (x : DataW H × List MemPlace), DataW.trod enc Try.prog W base sp held n 110 cs = some x → ∃ y, cs = encLap.cells y ∧ y.name.size ≤ 9223372036854775807 := by
  intro n cs x h
  obtain ⟨hl, hv⟩ := leaves (ts := [3, 3, 9]) 4 (by kernel_rfl) h
  match cs, hl with
  | [v0, v1, v2], _ =>
    obtain ⟨a0, rfl, w0⟩ := (hv 0 3 v0 rfl rfl).int (k := .i64) Try.underlying3
    obtain ⟨a1, rfl, w1⟩ := (hv 1 3 v1 rfl rfl).int (k := .i64) Try.underlying3
    obtain ⟨a2, rfl, w2⟩ := (hv 2 9 v2 rfl rfl).string Try.underlying9
    exact ⟨⟨a0, a1, a2⟩, rfl, by unfold maxLen at w2; show a2.size ≤ _; omega⟩
theorem cells_encStr : ∀ n cs (x : DataW H × List MemPlace), DataW.trod enc Try.prog W base sp held n 9 cs = some x → ∃ y, cs = encStr.cells y ∧ y.size ≤ 9223372036854775807 := by
  intro n cs x h
  obtain ⟨hl, hv⟩ := leaves (ts := [9]) 4 (by kernel_rfl) h
  match cs, hl with
  | [v2], _ =>
    obtain ⟨a2, rfl, w2⟩ := (hv 0 9 v2 rfl rfl).string Try.underlying9
    exact ⟨a2, rfl, by unfold maxLen at w2; omega⟩
theorem open_act {n : Nat} {cs : List Value} {x : DataW H × List MemPlace} (h : DataW.trod enc Try.prog W base sp held n 57 cs = some x) :
    ∃ A : ActV, cs = [.string A.name, .int .i64 A.sport, .int .i64 A.start, .slice A.sa A.sn A.sc, .slice A.la A.ln A.lc, .slice A.ta A.tn A.tc] ∧ A.Ok W.heap.size W ∧ (-9223372036854775808 ≤ A.sport ∧ A.sport ≤ 9223372036854775807) ∧ (-9223372036854775808 ≤ A.start ∧ A.start ≤ 9223372036854775807) := by
  obtain ⟨hl, hv⟩ := leaves (ts := [9, 3, 3, 53, 54, 55]) 5 (by kernel_rfl) h
  match cs, hl with
  | [v0, v1, v2, v3, v4, v5], _ =>
    obtain ⟨a0, rfl, w0⟩ := (hv 0 9 v0 rfl rfl).string Try.underlying9
    obtain ⟨a1, rfl, w1⟩ := (hv 1 3 v1 rfl rfl).int (k := .i64) Try.underlying3
    obtain ⟨a2, rfl, w2⟩ := (hv 2 3 v2 rfl rfl).int (k := .i64) Try.underlying3
    obtain ⟨n3, d3, p3, h3, _⟩ := hv 3 53 v3 rfl rfl
    obtain ⟨n4, d4, p4, h4, _⟩ := hv 4 54 v4 rfl rfl
    obtain ⟨n5, d5, p5, h5, _⟩ := hv 5 55 v5 rfl rfl
    obtain ⟨sa, sn, sc, ss, e3, r3, q3⟩ := open_rowsP encSmp _ Try.underlying53 (by kernel_rfl) cells_encSmp h3
    obtain ⟨la, ln, lc, ls, e4, r4, q4⟩ := open_rowsP encLap _ Try.underlying54 (by kernel_rfl) cells_encLap h4
    obtain ⟨ta, tn, tc, ts, e5, r5, q5⟩ := open_rowsP encStr _ Try.underlying55 (by kernel_rfl) cells_encStr h5
    cases e3; cases e4; cases e5
    exact ⟨⟨a0, a1, a2, sa, sn, sc, la, ln, lc, ta, tn, tc, ss, ls, ts⟩, rfl, ⟨r3, r4, r5, by unfold maxLen at w0; show a0.size ≤ _; omega, q4, q5, q3⟩, wf_i64 w1, wf_i64 w2⟩
/-- The size condition of the statement, for an activity's samples. -/
theorem act_size {n : Nat} {cs : List Value} {x : DataW H × List MemPlace} {A : ActV} (h : DataW.trod enc Try.prog W base sp held n 57 cs = some x)
    (hcs : cs = [.string A.name, .int .i64 A.sport, .int .i64 A.start, .slice A.sa A.sn A.sc, .slice A.la A.ln A.lc, .slice A.ta A.tn A.tc]) (hw : ∀ m ∈ x.1.weights Try.prog 57, m ≤ reachBytes) : A.sn ≤ 2513169434916 := by
  subst hcs
  obtain ⟨xs, n', _, rfl, hlen, hxl, hf⟩ := DataW.trod_struct Try.underlying57 h
  have h3 := hf 3 _ rfl
  match xs, hxl with
  | [x0, x1, x2, x3, x4, x5], _ =>
    have h4 : DataW.trod enc Try.prog W base sp held n' 53 [.slice A.sa A.sn A.sc] = some x3 := h3
    rcases Go.Deep.open_slice Try.underlying53 h4 with ⟨hcs, _⟩ | ⟨a, len, cap, m, k, D, Pl, hcs, _, hl, hm, hmm, hx, _⟩
    · simp at hcs; omega
    · have hb : Try.prog.bytesOf 70 = 56 := by kernel_rfl
      obtain ⟨E, S, hE, hEl⟩ : ∃ E S, x3.1 = DataW.slice E S ∧ E.length = len := ⟨_, _, by rw [hx], by simp⟩
      have h5 : (E.length + S.length) * Try.prog.bytesOf 70 ≤ reachBytes := hw _ (by
        show _ ∈ (DataW.agg [x0.1, x1.1, x2.1, x3.1, x4.1, x5.1]).weights Try.prog 57
        simp only [DataW.weights, Try.underlying57]
        refine DataW.weights_mem_each (j := 3) (t := 53) (d := x3.1) rfl rfl _ ?_
        rw [hE]
        simp only [DataW.weights, Try.underlying53]
        exact List.mem_cons_self ..)
      rw [hb] at h5
      simp at hcs
      unfold reachBytes at h5
      omega
end
end Go.Proofs.Ytfbmkepogcimlaa

/-
  Whole roots; lengths and ways of steps. No program stands here.
-/

namespace Go.Proofs.Ytfbmkepogcimlaa
set_option linter.unusedVariables false
def IsRoot (n r : Int) : Prop := 0 ≤ r ∧ r * r ≤ n ∧ n < (r + 1) * (r + 1)
theorem sq_lt {a b : Int} (h0 : 0 ≤ a) (h : a < b) : a * a < b * b := by
  have h1 := mul_bd (a := a) (b := a) (A := a) (B := a) h0 (by omega) h0 (by omega)
  have h2 : (a + 1) * (a + 1) ≤ b * b := (mul_bd (a := a + 1) (b := a + 1) (A := b) (B := b) (by omega) (by omega) (by omega) (by omega)).2
  have h3 : (a + 1) * (a + 1) = a * a + a + a + 1 := by rw [Int.add_mul, Int.mul_add]; omega
  omega
theorem sq_le {a b : Int} (h0 : 0 ≤ a) (h : a ≤ b) : a * a ≤ b * b := (mul_bd h0 h h0 h).2
theorem IsRoot.unique {n r q : Int} (h : IsRoot n r) (h' : IsRoot n q) : r = q := by
  have key : ∀ a b : Int, IsRoot n a → IsRoot n b → ¬a < b := by
    intro a b ha hb hlt
    have := sq_le (a := a + 1) (b := b) (by have := ha.1; omega) (by omega)
    have h1 := ha.2.2
    have h2 := hb.2.1
    omega
  have a := key r q h h'
  have b := key q r h' h
  omega
open Classical in
noncomputable def rootI (n : Int) : Int := if h : ∃ r, IsRoot n r then Classical.choose h else 0
theorem rootI_eq {n r : Int} (h : IsRoot n r) : rootI n = r := by
  have h1 : ∃ r, IsRoot n r := ⟨r, h⟩
  unfold rootI
  rw [dif_pos h1]
  exact (Classical.choose_spec h1).unique h
theorem root_ex : ∀ n : Nat, ∃ r : Nat, IsRoot n r
  | 0 => ⟨0, by unfold IsRoot; omega⟩
  | n + 1 => by
    obtain ⟨r, h1, h2, h3⟩ := root_ex n
    by_cases h : ((n + 1 : Nat) : Int) < ((r : Int) + 1) * ((r : Int) + 1)
    · exact ⟨r, h1, by omega, h⟩
    · refine ⟨r + 1, by omega, by push_cast; omega, ?_⟩
      have := sq_lt (a := (r : Int) + 1) (b := (r : Int) + 1 + 1) (by omega) (by omega)
      push_cast
      omega
theorem rootI_is {n : Int} (h : 0 ≤ n) : IsRoot n (rootI n) := by
  obtain ⟨m, rfl⟩ := Int.eq_ofNat_of_zero_le h
  obtain ⟨r, hr⟩ := root_ex m
  rw [rootI_eq hr]; exact hr
theorem rootI_le {n m : Int} (h : 0 ≤ n) (hm : 0 ≤ m) (hn : n ≤ m * m) : 0 ≤ rootI n ∧ rootI n ≤ m := by
  have h1 := rootI_is h
  refine ⟨h1.1, ?_⟩
  apply Decidable.byContradiction
  intro hlt
  have := sq_le (a := m + 1) (b := rootI n) (by omega) (by omega)
  have h2 := sq_lt hm (show m < m + 1 by omega)
  have h3 := h1.2.1
  omega
/-- A power of two, at most the 32nd. -/
def PW (p : Int) : Prop := ∃ j : Nat, j ≤ 32 ∧ p = 2 ^ j
theorem PW.top : PW 4294967296 := ⟨32, by omega, by decide⟩
theorem PW.half {p : Int} (h : PW p) (h2 : 0 < p / 2) : ∃ q, PW q ∧ p = 2 * q ∧ 1 ≤ q := by
  obtain ⟨j, hj, rfl⟩ := h
  cases j with
  | zero => simp at h2
  | succ j => exact ⟨2 ^ j, ⟨j, by omega, rfl⟩, by rw [Int.pow_succ]; omega, Int.pow_pos (by omega)⟩
theorem PW.one {p : Int} (h : PW p) (h2 : ¬0 < p / 2) : p = 1 := by
  obtain ⟨j, hj, rfl⟩ := h
  cases j with
  | zero => rfl
  | succ j =>
    have : (0 : Int) < 2 ^ j := Int.pow_pos (by omega)
    rw [Int.pow_succ] at h2; omega
theorem PW.pos {p : Int} (h : PW p) : 1 ≤ p := by
  obtain ⟨j, hj, rfl⟩ := h
  have : (0 : Int) < 2 ^ j := Int.pow_pos (by omega)
  omega
/-- t is no more than n divided by t just if its square is no more than n. -/
theorem le_div_sq {n t : Int} (ht : 0 < t) : t ≤ n / t ↔ t * t ≤ n := Int.le_ediv_iff_mul_le ht
/-! #### ways -/
def sqD (p q : SmpR) : Int := (q.x - p.x) * (q.x - p.x) + (q.y - p.y) * (q.y - p.y)
def PlaceOk (p : SmpR) : Prop := (-100000000 ≤ p.x ∧ p.x ≤ 100000000) ∧ (-100000000 ≤ p.y ∧ p.y ≤ 100000000)
theorem sq_bd {a M : Int} (h : -M ≤ a ∧ a ≤ M) : 0 ≤ a * a ∧ a * a ≤ M * M := by
  by_cases h0 : 0 ≤ a
  · exact mul_bd h0 h.2 h0 h.2
  · have := mul_bd (a := -a) (b := -a) (A := M) (B := M) (by omega) (by omega) (by omega) (by omega)
    rwa [Int.neg_mul_neg] at this
theorem sqD_bd {p q : SmpR} (hp : PlaceOk p) (hq : PlaceOk q) : 0 ≤ sqD p q ∧ sqD p q ≤ 80000000000000000 := by
  have h1 := sq_bd (a := q.x - p.x) (M := 200000000) (by have := hp.1; have := hq.1; omega)
  have h2 := sq_bd (a := q.y - p.y) (M := 200000000) (by have := hp.2; have := hq.2; omega)
  unfold sqD; omega
noncomputable def lenD (p q : SmpR) : Int := rootI (sqD p q)
theorem lenD_bd {p q : SmpR} (hp : PlaceOk p) (hq : PlaceOk q) : 0 ≤ lenD p q ∧ lenD p q ≤ 300000000 := by
  have h := sqD_bd hp hq
  exact rootI_le h.1 (by omega) (by omega)
theorem sqD_comm (p q : SmpR) : sqD p q = sqD q p := by
  unfold sqD
  rw [show q.x - p.x = -(p.x - q.x) by omega, show q.y - p.y = -(p.y - q.y) by omega, Int.neg_mul_neg, Int.neg_mul_neg]
theorem SmpOk.place {st : Int} {ss : List SmpR} (h : SmpOk st ss) {x : SmpR} (hx : x ∈ ss) : PlaceOk x := ⟨(h.bd x hx).2.2.2.1, (h.bd x hx).2.2.2.2.1⟩
end Go.Proofs.Ytfbmkepogcimlaa

/-
  How far was gone up to each sample. No program stands here.
-/

namespace Go.Proofs.Ytfbmkepogcimlaa
set_option linter.unusedVariables false
def stepsL (ss : List SmpR) : List (SmpR × SmpR) := ss.zip ss.tail
theorem stepsL_len (ss : List SmpR) : (stepsL ss).length = ss.length - 1 := by unfold stepsL; rw [List.length_zip, List.length_tail]; omega
theorem stepsL_get {ss : List SmpR} {k : Nat} {x y : SmpR} (hx : ss[k]? = some x) (hy : ss[k + 1]? = some y) : (stepsL ss)[k]? = some (x, y) := by
  unfold stepsL
  rw [List.getElem?_zip_eq_some]
  exact ⟨hx, by rw [List.getElem?_tail]; exact hy⟩
theorem stepsL_inv {ss : List SmpR} {k : Nat} {p : SmpR × SmpR} (h : (stepsL ss)[k]? = some p) : ss[k]? = some p.1 ∧ ss[k + 1]? = some p.2 := by
  unfold stepsL at h
  rw [show p = (p.1, p.2) from rfl, List.getElem?_zip_eq_some, List.getElem?_tail] at h
  exact h
noncomputable def wayN (ss : List SmpR) (k : Nat) : Int := sI (fun p => lenD p.1 p.2) ((stepsL ss).take k)
theorem wayN_zero (ss : List SmpR) : wayN ss 0 = 0 := by simp [wayN, sI]
theorem wayN_succ {ss : List SmpR} {k : Nat} {p : SmpR × SmpR} (h : (stepsL ss)[k]? = some p) : wayN ss (k + 1) = wayN ss k + lenD p.1 p.2 := sI_take _ h
theorem wayN_bd {st : Int} {ss : List SmpR} (h : SmpOk st ss) (k : Nat) : 0 ≤ wayN ss k ∧ wayN ss k ≤ 300000000 * k := by
  have h1 := sI_bd (fun p : SmpR × SmpR => lenD p.1 p.2) 300000000 (by omega) ((stepsL ss).take k) (fun p hp => by
    obtain ⟨i, hi⟩ := List.getElem?_of_mem (List.mem_of_mem_take hp)
    have h2 := stepsL_inv hi
    exact lenD_bd (h.place (List.mem_of_getElem? h2.1)) (h.place (List.mem_of_getElem? h2.2)))
  unfold wayN
  have h3 : ((stepsL ss).take k).length ≤ k := by rw [List.length_take]; omega
  omega
noncomputable def runW (ss : List SmpR) (k : Nat) : List Int := (List.range k).map (wayN ss)
theorem runW_succ (ss : List SmpR) (k : Nat) : runW ss (k + 1) = runW ss k ++ [wayN ss k] := by unfold runW; rw [List.range_succ, List.map_append]; rfl
theorem runW_len (ss : List SmpR) (k : Nat) : (runW ss k).length = k := by simp [runW]
theorem runW_get {ss : List SmpR} {k i : Nat} {x : Int} (h : (runW ss k)[i]? = some x) : x = wayN ss i := by
  unfold runW at h
  obtain ⟨hi, rfl⟩ := List.getElem?_eq_some_iff.1 h
  simp
theorem runW_at {ss : List SmpR} {k i : Nat} (h : i < k) : (runW ss k)[i]? = some (wayN ss i) := by unfold runW; simp [h]
noncomputable def wayL (ss : List SmpR) : List Int := runW ss ss.length
theorem wayL_len (ss : List SmpR) : (wayL ss).length = ss.length := runW_len _ _
theorem wayN_mono {st : Int} {ss : List SmpR} (h : SmpOk st ss) {i j : Nat} (hij : i ≤ j) : wayN ss i ≤ wayN ss j := by
  induction j with
  | zero => have : i = 0 := by omega
            subst this; exact Int.le_refl _
  | succ j ih =>
    by_cases h1 : i = j + 1
    · subst h1; exact Int.le_refl _
    · have h2 := ih (by omega)
      cases h3 : (stepsL ss)[j]? with
      | none =>
        have h4 := List.getElem?_eq_none_iff.1 h3
        have : wayN ss (j + 1) = wayN ss j := by unfold wayN; rw [List.take_of_length_le (by omega), List.take_of_length_le (by omega)]
        omega
      | some p =>
        have h4 := stepsL_inv h3
        have h5 := lenD_bd (h.place (List.mem_of_getElem? h4.1)) (h.place (List.mem_of_getElem? h4.2))
        rw [wayN_succ h3]; omega
/-- Ways: how far, and an error. -/
noncomputable def waysR (a : ActD) : List Int × Int := if chkA a ≠ 0 then ([], chkA a) else (wayL a.ss, 0)
theorem waysR_e {a : ActD} (h : chkA a ≠ 0) : waysR a = ([], chkA a) := if_pos h
theorem waysR_0 {a : ActD} (h : ¬chkA a ≠ 0) : waysR a = (wayL a.ss, 0) := if_neg h
end Go.Proofs.Ytfbmkepogcimlaa

/-
  Quotients that are rounded up, and splits: plain part.
-/

namespace Go.Proofs.Ytfbmkepogcimlaa
open Go Go.RowKit Hx
set_option linter.unusedVariables false
set_option linter.unusedSimpArgs false
/-- A quotient, rounded up. -/
def upD (x d : Int) : Int := (x + d - 1) / d
theorem upD_eq {x d : Int} (hd : 1 ≤ d) : x / d + (if 0 < x % d then 1 else 0) = upD x d := by
  unfold upD
  have h1 := Int.emod_nonneg x (show d ≠ 0 by omega)
  have h2 := Int.emod_lt_of_pos x (show 0 < d by omega)
  have h3 := Int.mul_ediv_add_emod x d
  split
  · have e : x + d - 1 = (x % d - 1) + d * (x / d + 1) := by rw [Int.mul_add]; omega
    have e0 : (x % d - 1) / d = 0 := Int.ediv_eq_zero_of_lt (by omega) (by omega)
    rw [e, Int.add_mul_ediv_left _ _ (show d ≠ 0 by omega), e0]; omega
  · have e : x + d - 1 = (d - 1) + d * (x / d) := by omega
    have e0 : (d - 1) / d = 0 := Int.ediv_eq_zero_of_lt (by omega) (by omega)
    rw [e, Int.add_mul_ediv_left _ _ (show d ≠ 0 by omega), e0]; omega
theorem upD_mono {x y d : Int} (hd : 1 ≤ d) (h : x ≤ y) : upD x d ≤ upD y d := Int.ediv_le_ediv (by omega) (by omega)
theorem upD_bd {x d n : Int} (h0 : 0 ≤ x) (hd : 1 ≤ d) (h : x ≤ n * d) : 0 ≤ upD x d ∧ upD x d ≤ n := by
  unfold upD
  refine ⟨Int.ediv_nonneg (by omega) (by omega), ?_⟩
  have : (x + d - 1) / d < n + 1 := Int.ediv_lt_of_lt_mul (by omega) (by rw [Int.add_mul]; omega)
  omega
structure SplitR where
  way : Int
  at_ : Int
section
variable (ss : List SmpR) (way : Int)
noncomputable def spN (k : Nat) : Nat := (wayN ss k / way).toNat
noncomputable def splJ (k j : Nat) : SplitR := match ss[k]?, ss[k + 1]? with
  | some p, some q => ⟨((j : Int) + 1) * way, 1000 * p.at_ + upD ((((j : Int) + 1) * way - wayN ss k) * (1000 * (q.at_ - p.at_))) (wayN ss (k + 1) - wayN ss k)⟩
  | _, _ => ⟨0, 0⟩
noncomputable def splK : Nat → List SplitR
  | 0 => []
  | k + 1 => splK k ++ (List.range' (spN ss way k) (spN ss way (k + 1) - spN ss way k)).map (splJ ss way k)
noncomputable def midK (k m : Nat) : List SplitR := splK ss way k ++ (List.range' (spN ss way k) m).map (splJ ss way k)
variable {ss way}
theorem midK_zero (k : Nat) : midK ss way k 0 = splK ss way k := by simp [midK]
theorem midK_succ (k m : Nat) : midK ss way k (m + 1) = midK ss way k m ++ [splJ ss way k (spN ss way k + m)] := by
  unfold midK
  rw [List.range'_concat, List.map_append, List.append_assoc, Nat.one_mul]; rfl
theorem midK_done (k : Nat) : midK ss way k (spN ss way (k + 1) - spN ss way k) = splK ss way (k + 1) := rfl
theorem splJ_eq {k : Nat} {p q : SmpR} (hp : ss[k]? = some p) (hq : ss[k + 1]? = some q) (j : Nat) :
    splJ ss way k j = ⟨((j : Int) + 1) * way, 1000 * p.at_ + upD ((((j : Int) + 1) * way - wayN ss k) * (1000 * (q.at_ - p.at_))) (wayN ss (k + 1) - wayN ss k)⟩ := by unfold splJ; rw [hp, hq]
theorem atI_le {st : Int} {k : Nat} {p q : SmpR} (hok : SmpOk st ss) (hp : ss[k]? = some p) (hq : ss[k + 1]? = some q) : 0 ≤ p.at_ ∧ p.at_ < q.at_ ∧ q.at_ ≤ 1000000 :=
  ⟨(hok.bd p (List.mem_of_getElem? hp)).1, hok.rise k p q hp hq, (hok.bd q (List.mem_of_getElem? hq)).2.1⟩
variable {st : Int} (hok : SmpOk st ss) (hw : 1 ≤ way)
include hok hw
theorem spN_eq (k : Nat) : ((spN ss way k : Nat) : Int) = wayN ss k / way := by
  have h1 := wayN_bd hok k
  have h2 : 0 ≤ wayN ss k / way := Int.ediv_nonneg h1.1 (by omega)
  unfold spN
  omega
theorem spN_mono {i j : Nat} (h : i ≤ j) : spN ss way i ≤ spN ss way j := by
  have h1 := wayN_mono hok h
  have h2 : wayN ss i / way ≤ wayN ss j / way := Int.ediv_le_ediv (by omega) h1
  have h3 := spN_eq hok hw i
  have h4 := spN_eq hok hw j
  omega
theorem splK_len : ∀ k, (splK ss way k).length = spN ss way k
  | 0 => by
    have h3 := spN_eq hok hw 0
    rw [wayN_zero] at h3
    simp at h3
    rw [show (splK ss way 0) = [] from rfl]
    simp
    omega
  | k + 1 => by
    rw [splK, List.length_append, List.length_map, List.length_range', splK_len k]
    have := spN_mono hok hw (show k ≤ k + 1 by omega)
    omega
theorem midK_len (k m : Nat) : (midK ss way k m).length = spN ss way k + m := by
  unfold midK
  rw [List.length_append, List.length_map, List.length_range', splK_len hok hw k]
/-- A split lies in the step: as both programs ask. -/
theorem spN_cond (k j : Nat) : ((j : Int) + 1) * way ≤ wayN ss k ↔ j < spN ss way k := by
  have h3 := spN_eq hok hw k
  rw [← Int.le_ediv_iff_mul_le (by omega), ← h3]
  omega
theorem spN_above {k j : Nat} (h : spN ss way k ≤ j) : wayN ss k < ((j : Int) + 1) * way := by
  have h1 := spN_cond hok hw k j
  have h2 : ¬ ((j : Int) + 1) * way ≤ wayN ss k := fun h3 => by have := h1.1 h3; omega
  omega
theorem split_bd {k j : Nat} {p q : SmpR} (hp : ss[k]? = some p) (hq : ss[k + 1]? = some q) (h1 : spN ss way k ≤ j) (h2 : j < spN ss way (k + 1)) :
    1 ≤ ((j : Int) + 1) * way - wayN ss k ∧ ((j : Int) + 1) * way - wayN ss k ≤ wayN ss (k + 1) - wayN ss k ∧ wayN ss (k + 1) - wayN ss k ≤ 300000000 ∧
    0 ≤ (((j : Int) + 1) * way - wayN ss k) * (1000 * (q.at_ - p.at_)) ∧ 0 ≤ upD ((((j : Int) + 1) * way - wayN ss k) * (1000 * (q.at_ - p.at_))) (wayN ss (k + 1) - wayN ss k) ∧
    upD ((((j : Int) + 1) * way - wayN ss k) * (1000 * (q.at_ - p.at_))) (wayN ss (k + 1) - wayN ss k) ≤ 1000 * (q.at_ - p.at_) := by
  have a1 := spN_above hok hw h1
  have a2 := (spN_cond hok hw (k + 1) j).2 h2
  have a3 := wayN_succ (stepsL_get hp hq)
  have a4 := lenD_bd (hok.place (List.mem_of_getElem? hp)) (hok.place (List.mem_of_getElem? hq))
  have a5 := atI_le hok hp hq
  have a6 : 0 ≤ (((j : Int) + 1) * way - wayN ss k) * (1000 * (q.at_ - p.at_)) := Int.mul_nonneg (by omega) (by omega)
  have a7 : (((j : Int) + 1) * way - wayN ss k) * (1000 * (q.at_ - p.at_)) ≤ (wayN ss (k + 1) - wayN ss k) * (1000 * (q.at_ - p.at_)) := Int.mul_le_mul_of_nonneg_right (by omega) (by omega)
  have a8 := upD_bd a6 (show 1 ≤ wayN ss (k + 1) - wayN ss k by omega) (n := 1000 * (q.at_ - p.at_)) (by rw [Int.mul_comm (1000 * _)]; exact a7)
  refine ⟨by omega, by omega, ?_, a6, a8.1, a8.2⟩
  rw [a3]
  have : lenD (p, q).1 (p, q).2 = lenD p q := rfl
  omega
end
def SpOk (way : Int) (l : List SplitR) (T : Int) : Prop := ∀ (i : Nat) (x : SplitR), l[i]? = some x → x.way = ((i : Int) + 1) * way ∧ 0 ≤ x.at_ ∧ x.at_ ≤ T ∧ ∀ y, 1 ≤ i → l[i - 1]? = some y → y.at_ ≤ x.at_
theorem spOk_nil (way T : Int) : SpOk way [] T := fun i x h => by simp at h
theorem SpOk.le {way T T' : Int} {l : List SplitR} (h : SpOk way l T) (hT : T ≤ T') : SpOk way l T' := fun i x hx => by
  obtain ⟨h1, h2, h3, h4⟩ := h i x hx
  exact ⟨h1, h2, Int.le_trans h3 hT, h4⟩
theorem SpOk.snoc {way T : Int} {l : List SplitR} {x : SplitR} (h : SpOk way l T) (h1 : x.way = ((l.length : Int) + 1) * way) (h2 : T ≤ x.at_) (h0 : 0 ≤ x.at_) : SpOk way (l ++ [x]) x.at_ := by
  intro i y hy
  have hi := (List.getElem?_eq_some_iff.1 hy).1
  rw [List.length_append, List.length_singleton] at hi
  by_cases hl : i < l.length
  · rw [List.getElem?_append_left hl] at hy
    obtain ⟨b1, b2, b3, b4⟩ := h i y hy
    exact ⟨b1, b2, by omega, fun z hz hzz => b4 z hz (by rw [List.getElem?_append_left (by omega)] at hzz; exact hzz)⟩
  · have he : i = l.length := by omega
    subst he
    rw [List.getElem?_concat_length] at hy
    cases hy
    refine ⟨h1, h0, Int.le_refl _, fun z hz hzz => ?_⟩
    rw [List.getElem?_append_left (by omega)] at hzz
    have := (h _ z hzz).2.2.1
    omega
theorem midK_ok {ss : List SmpR} {way st : Int} (hok : SmpOk st ss) (hw : 1 ≤ way) {k : Nat} {p q : SmpR} (hp : ss[k]? = some p) (hq : ss[k + 1]? = some q) (h : SpOk way (splK ss way k) (1000 * p.at_)) :
    ∀ m, spN ss way k + m ≤ spN ss way (k + 1) → ∃ T, SpOk way (midK ss way k m) T ∧ T ≤ 1000 * q.at_ ∧ (m = 0 → T = 1000 * p.at_) ∧ (∀ m', m = m' + 1 → T = (splJ ss way k (spN ss way k + m')).at_)
  | 0, _ => by
    have := atI_le hok hp hq
    exact ⟨1000 * p.at_, by rw [midK_zero]; exact h, by omega, fun _ => rfl, fun m' h => by omega⟩
  | m + 1, hm => by
    obtain ⟨T, t1, t2, t3, t4⟩ := midK_ok hok hw hp hq h m (by omega)
    have b := split_bd hok hw hp hq (j := spN ss way k + m) (by omega) (by omega)
    have a5 := atI_le hok hp hq
    have e := splJ_eq (way := way) hp hq (spN ss way k + m)
    have hT : T ≤ (splJ ss way k (spN ss way k + m)).at_ := by
      cases m with
      | zero => rw [t3 rfl, e]; dsimp only; omega
      | succ m' =>
        rw [t4 m' rfl, e, splJ_eq hp hq]
        dsimp only
        have b0 := split_bd hok hw hp hq (j := spN ss way k + m') (by omega) (by omega)
        have : upD (((((spN ss way k + m' : Nat) : Int) + 1) * way - wayN ss k) * (1000 * (q.at_ - p.at_))) (wayN ss (k + 1) - wayN ss k) ≤ upD (((((spN ss way k + (m' + 1) : Nat) : Int) + 1) * way - wayN ss k) * (1000 * (q.at_ - p.at_))) (wayN ss (k + 1) - wayN ss k) := by
          refine upD_mono (by omega) (Int.mul_le_mul_of_nonneg_right ?_ (by omega))
          have : (((spN ss way k + m' : Nat) : Int) + 1) * way ≤ (((spN ss way k + (m' + 1) : Nat) : Int) + 1) * way := Int.mul_le_mul_of_nonneg_right (by omega) (by omega)
          omega
        omega
    refine ⟨(splJ ss way k (spN ss way k + m)).at_, ?_, ?_, fun h => by omega, fun m' hm' => by rw [show m' = m by omega]⟩
    · rw [midK_succ]
      refine t1.snoc ?_ hT ?_
      · rw [e, midK_len hok hw]
      · rw [e]; dsimp only; omega
    · rw [e]; dsimp only; omega
theorem splK_ok {ss : List SmpR} {way st : Int} (hok : SmpOk st ss) (hw : 1 ≤ way) : ∀ (k : Nat) (p : SmpR), ss[k]? = some p → SpOk way (splK ss way k) (1000 * p.at_)
  | 0, p, hp => spOk_nil _ _
  | k + 1, q, hq => by
    have hlt := (List.getElem?_eq_some_iff.1 hq).1
    have hp : ss[k]? = some (ss[k]'(by omega)) := List.getElem?_eq_getElem _
    obtain ⟨T, t1, t2, _⟩ := midK_ok hok hw hp hq (splK_ok hok hw k _ hp) (spN ss way (k + 1) - spN ss way k) (by have := spN_mono hok hw (show k ≤ k + 1 by omega); omega)
    rw [midK_done] at t1
    exact t1.le t2
noncomputable def splitsR (a : ActD) (way : Int) : List SplitR × Int :=
  if chkA a ≠ 0 then ([], chkA a) else if ¬(1 ≤ way ∧ way ≤ 1000000000) then ([], 9) else if 10000 < wayN a.ss (a.ss.length - 1) / way then ([], 3) else (splK a.ss way (a.ss.length - 1), 0)
theorem splitsR_e {a : ActD} {f : Int} (h : chkA a ≠ 0) : splitsR a f = ([], chkA a) := if_pos h
theorem splitsR_9 {a : ActD} {f : Int} (h : chkA a = 0) (h1 : ¬(1 ≤ f ∧ f ≤ 1000000000)) : splitsR a f = ([], 9) := by unfold splitsR; rw [if_neg (by simp [h]), if_pos h1]
theorem splitsR_3 {a : ActD} {f : Int} (h : chkA a = 0) (h1 : 1 ≤ f ∧ f ≤ 1000000000) (h2 : 10000 < wayN a.ss (a.ss.length - 1) / f) : splitsR a f = ([], 3) := by unfold splitsR; rw [if_neg (by simp [h]), if_neg (fun h3 => h3 h1), if_pos h2]
theorem splitsR_0 {a : ActD} {f : Int} (h : chkA a = 0) (h1 : 1 ≤ f ∧ f ≤ 1000000000) (h2 : ¬10000 < wayN a.ss (a.ss.length - 1) / f) : splitsR a f = (splK a.ss f (a.ss.length - 1), 0) := by
  unfold splitsR; rw [if_neg (by simp [h]), if_neg (fun h3 => h3 h1), if_neg h2]
end Go.Proofs.Ytfbmkepogcimlaa

/-
  Quotients that are rounded to the nearest. No program stands here.
-/

namespace Go.Proofs.Ytfbmkepogcimlaa
set_option linter.unusedVariables false
/-- A quotient of numbers that are not below 0, with its rest, rounded to the nearest; a half goes up just if m is false. -/
def nearP (x d : Int) (m : Bool) : Int := x / d + (if 0 < x % d ∧ (d - x % d < x % d ∨ d - x % d = x % d ∧ m = false) then 1 else 0)
def nearV (a num den : Int) : Int := if a < 0 then -nearP (-a * num) den true else nearP (a * num) den false
theorem nearP_bd {x d n : Int} {m : Bool} (h0 : 0 ≤ x) (hd : 1 ≤ d) (h : x ≤ n * d) : 0 ≤ nearP x d m ∧ nearP x d m ≤ n := by
  have h1 := upD_bd h0 hd h
  have h2 := upD_eq (x := x) hd
  have h3 : 0 ≤ x / d := Int.ediv_nonneg h0 (by omega)
  unfold nearP
  split <;> split at h2 <;> omega
theorem nearV_bd {a num den : Int} (hn : 0 ≤ num) (hd : 1 ≤ den) (h : num ≤ den) : (0 ≤ a → 0 ≤ nearV a num den ∧ nearV a num den ≤ a) ∧ (a ≤ 0 → a ≤ nearV a num den ∧ nearV a num den ≤ 0) := by
  have key : ∀ (b : Int) (m : Bool), 0 ≤ b → 0 ≤ nearP (b * num) den m ∧ nearP (b * num) den m ≤ b := fun b m hb => nearP_bd (Int.mul_nonneg hb hn) hd (Int.mul_le_mul_of_nonneg_left h hb)
  unfold nearV
  refine ⟨fun h0 => ?_, fun h0 => ?_⟩
  · rw [if_neg (by omega)]; exact key a false h0
  · by_cases h1 : a < 0
    · rw [if_pos h1]
      have := key (-a) true (by omega)
      omega
    · rw [if_neg h1]
      have := key a false (by omega)
      omega
end Go.Proofs.Ytfbmkepogcimlaa

/-
  Activities with other samples. No program stands here.
-/

namespace Go.Proofs.Ytfbmkepogcimlaa
set_option linter.unusedVariables false
def SmpR.back (by_ : Int) (x : SmpR) : SmpR := ⟨x.at_ - by_, x.x, x.y, x.z, x.pulse, x.power, x.steps⟩
def backS (by_ : Int) (l : List SmpR) : List SmpR := l.map (SmpR.back by_)
theorem backS_succ {by_ : Int} {l : List SmpR} {k : Nat} {x : SmpR} (h : l[k]? = some x) : backS by_ (l.take (k + 1)) = backS by_ (l.take k) ++ [x.back by_] := by
  unfold backS; rw [take_succ_get h, List.map_append]; rfl
def lapAt (by_ span n : Int) : Int := min (max (n - by_) 0) span
def LapR.back (by_ span : Int) (x : LapR) : LapR := ⟨lapAt by_ span x.from_, lapAt by_ span x.to, x.name⟩
def backL (by_ span : Int) (l : List LapR) : List LapR := (l.map (LapR.back by_ span)).filter fun x => decide (x.from_ < x.to)
theorem backL_yes {by_ span : Int} {l : List LapR} {k : Nat} {x : LapR} (h : l[k]? = some x) (hx : lapAt by_ span x.from_ < lapAt by_ span x.to) : backL by_ span (l.take (k + 1)) = backL by_ span (l.take k) ++ [x.back by_ span] := by
  unfold backL; rw [take_succ_get h, List.map_append, List.filter_append]
  congr 1
  simp [LapR.back, hx]
theorem backL_no {by_ span : Int} {l : List LapR} {k : Nat} {x : LapR} (h : l[k]? = some x) (hx : ¬lapAt by_ span x.from_ < lapAt by_ span x.to) : backL by_ span (l.take (k + 1)) = backL by_ span (l.take k) := by
  unfold backL; rw [take_succ_get h, List.map_append, List.filter_append]
  simp [LapR.back, hx]
theorem backL_len (by_ span : Int) (l : List LapR) : (backL by_ span l).length ≤ l.length := by
  unfold backL
  have := List.length_filter_le (fun x : LapR => decide (x.from_ < x.to)) (l.map (LapR.back by_ span))
  rw [List.length_map] at this
  exact this
def partD (a : ActD) (l : List SmpR) (by_ : Int) : ActD := ⟨a.name, a.sport, a.start + by_, backS by_ l, backL by_ (spanL (backS by_ l)) a.ls, a.ts⟩
def noA : ActD := ⟨ByteArray.empty, 0, 0, [], [], []⟩
/-- The part, if it is right. -/
def partR (a : ActD) (l : List SmpR) (by_ : Int) : ActD × Int := if chkA (partD a l by_) ≠ 0 then (noA, chkA (partD a l by_)) else (partD a l by_, 0)
theorem lap_bd {a : ActD} (h : GoodA a) : ∀ x ∈ a.ls, 0 ≤ x.from_ ∧ x.from_ < x.to ∧ x.to ≤ spanL a.ss := by
  intro x hx
  obtain ⟨i, hi⟩ := List.getElem?_of_mem hx
  have h1 := chkE_ok h.l hi
  unfold fL at h1
  by_cases h2 : x.from_ < 0 ∨ x.to ≤ x.from_ ∨ spanL a.ss < x.to
  · rw [if_pos h2] at h1; omega
  · omega
theorem partR_e {a : ActD} {l : List SmpR} {b : Int} (h : chkA (partD a l b) ≠ 0) : partR a l b = (noA, chkA (partD a l b)) := if_pos h
theorem partR_0 {a : ActD} {l : List SmpR} {b : Int} (h : ¬chkA (partD a l b) ≠ 0) : partR a l b = (partD a l b, 0) := if_neg h
end Go.Proofs.Ytfbmkepogcimlaa

/-
  Where somebody was at a second; samples each so many seconds; what lies between two seconds. No program stands here.
-/


namespace Go.Proofs.Ytfbmkepogcimlaa
set_option linter.unusedVariables false
def btw (p q n d : Int) : Int := p + nearV (q - p) n d
def amidV (p q : SmpR) (t : Int) : SmpR := ⟨t, btw p.x q.x (t - p.at_) (q.at_ - p.at_), btw p.y q.y (t - p.at_) (q.at_ - p.at_), btw p.z q.z (t - p.at_) (q.at_ - p.at_), p.pulse, p.power, p.steps⟩
theorem btw_bd {p q n d L : Int} (hn : 0 ≤ n) (hd : 1 ≤ d) (h : n ≤ d) (hp : -L ≤ p ∧ p ≤ L) (hq : -L ≤ q ∧ q ≤ L) : -L ≤ btw p q n d ∧ btw p q n d ≤ L := by
  have h1 := nearV_bd (a := q - p) hn hd h
  unfold btw
  by_cases h2 : 0 ≤ q - p
  · have := h1.1 h2; omega
  · have := h1.2 (by omega); omega
/-- The sample of a second. -/
def whereL (t : Int) : Option SmpR → List SmpR → SmpR
  | p, [] => ⟨0, 0, 0, 0, 0, 0, 0⟩
  | p, b :: r => if t = b.at_ then b else if b.at_ < t then whereL t (some b) r else match p with | none => b | some a => amidV a b t
def whereV (ss : List SmpR) (t : Int) : SmpR := whereL t none ss
theorem whereL_cons (t : Int) (p : Option SmpR) (b : SmpR) (r : List SmpR) : whereL t p (b :: r) = if t = b.at_ then b else if b.at_ < t then whereL t (some b) r else match p with | none => b | some a => amidV a b t := by cases p <;> rfl
theorem where_next {t : Int} {xs : List SmpR} {k : Nat} {b R : SmpR} (hP : R = whereL t (ahead xs k) (xs.drop k)) (hb : xs[k]? = some b) (h : b.at_ < t) : R = whereL t (ahead xs (k + 1)) (xs.drop (k + 1)) := by
  rw [hP, drop_cons_get hb, whereL_cons, if_neg (by omega), if_pos h, ahead_succ hb]
theorem where_skip {t : Int} {xs : List SmpR} : ∀ (k : Nat), k ≤ xs.length → (∀ j b, j < k → xs[j]? = some b → b.at_ < t) → whereV xs t = whereL t (ahead xs k) (xs.drop k)
  | 0, _, _ => rfl
  | k + 1, hk, h => by
    have hb : xs[k]? = some (xs[k]'(by omega)) := List.getElem?_eq_getElem _
    exact where_next (where_skip k (by omega) (fun j b hj => h j b (by omega))) hb (h k _ (by omega) hb)
theorem where_hit {t : Int} {xs : List SmpR} {k : Nat} {b R : SmpR} (hP : R = whereL t (ahead xs k) (xs.drop k)) (hb : xs[k]? = some b) (h : t = b.at_) : R = b := by
  rw [hP, drop_cons_get hb, whereL_cons, if_pos h]
theorem where_seg {t : Int} {xs : List SmpR} {k : Nat} {a b R : SmpR} (hP : R = whereL t (ahead xs k) (xs.drop k)) (hk : 0 < k) (ha : xs[k - 1]? = some a) (hb : xs[k]? = some b) (h : t < b.at_) : R = amidV a b t := by
  rw [hP, drop_cons_get hb, whereL_cons, if_neg (by omega), if_neg (by omega), ahead_pos hk ha]
section
variable {st : Int} {ss : List SmpR} (hok : SmpOk st ss)
include hok
theorem at_up {i : Nat} {p : SmpR} (hp : ss[i]? = some p) : ∀ (d : Nat) (q : SmpR), ss[i + d]? = some q → p.at_ ≤ q.at_ ∧ (0 < d → p.at_ < q.at_)
  | 0, q, hq => by rw [Nat.add_zero, hp] at hq; cases hq; omega
  | d + 1, q, hq => by
    have hlt := (List.getElem?_eq_some_iff.1 hq).1
    have h1 : ss[i + d]? = some (ss[i + d]'(by omega)) := List.getElem?_eq_getElem _
    have h2 := (at_up hp d _ h1).1
    have h3 := hok.rise (i + d) _ q h1 hq
    omega
/-- From a place at which the second is not past. -/
theorem where_place {t : Int} {k : Nat} (hk : k ≤ ss.length) (h : k = 0 ∨ ∃ a, ss[k - 1]? = some a ∧ a.at_ < t) : whereV ss t = whereL t (ahead ss k) (ss.drop k) := by
  refine where_skip k hk fun j b hj hb => ?_
  rcases h with h | ⟨a, ha, hat⟩
  · omega
  · have := (at_up hok hb (k - 1 - j) a (by rw [show j + (k - 1 - j) = k - 1 by omega]; exact ha)).1
    omega
/-- The sample of a second that is there is a right one, but for its order. -/
theorem whereV_bd {t : Int} (h0 : 0 ≤ t) (h1 : t ≤ spanL ss) (hn : 0 < ss.length) : (whereV ss t).at_ = t ∧ (-100000000 ≤ (whereV ss t).x ∧ (whereV ss t).x ≤ 100000000) ∧ (-100000000 ≤ (whereV ss t).y ∧ (whereV ss t).y ≤ 100000000) ∧ (-100000 ≤ (whereV ss t).z ∧ (whereV ss t).z ≤ 100000) := by
  have key : ∀ (m k : Nat), k + m = ss.length → (k = 0 ∨ ∃ a, ss[k - 1]? = some a ∧ a.at_ < t) → ∃ k b, ss[k]? = some b ∧ t ≤ b.at_ ∧ (k = 0 ∨ ∃ a, ss[k - 1]? = some a ∧ a.at_ < t) := by
    intro m
    induction m with
    | zero =>
      intro k hk h
      rcases h with h | ⟨a, ha, hat⟩
      · omega
      · have := spanL_get ha (by have := (List.getElem?_eq_some_iff.1 ha).1; omega)
        omega
    | succ m ih =>
      intro k hk h
      have hb : ss[k]? = some (ss[k]'(by omega)) := List.getElem?_eq_getElem _
      by_cases h2 : t ≤ (ss[k]'(by omega)).at_
      · exact ⟨k, _, hb, h2, h⟩
      · exact ih (k + 1) (by omega) (.inr ⟨_, by rw [Nat.add_sub_cancel]; exact hb, by omega⟩)
  obtain ⟨k, b, hb, htb, hk⟩ := key ss.length 0 (by omega) (.inl rfl)
  have hP := where_place hok (k := k) (by have := (List.getElem?_eq_some_iff.1 hb).1; omega) hk
  have hbb := hok.bd b (List.mem_of_getElem? hb)
  by_cases h2 : t = b.at_
  · rw [where_hit hP hb h2]
    exact ⟨h2.symm, hbb.2.2.2.1, hbb.2.2.2.2.1, hbb.2.2.2.2.2.1⟩
  · rcases hk with hk | ⟨a, ha, hat⟩
    · subst hk
      have := hok.first b hb
      omega
    · by_cases hk0 : k = 0
      · subst hk0
        have := hok.first b hb
        omega
      · rw [where_seg hP (by omega) ha hb (by omega)]
        have hab := hok.bd a (List.mem_of_getElem? ha)
        have hn1 : 0 ≤ t - a.at_ := by omega
        have hd1 : 1 ≤ b.at_ - a.at_ := by omega
        have hnd : t - a.at_ ≤ b.at_ - a.at_ := by omega
        exact ⟨rfl, btw_bd hn1 hd1 hnd hab.2.2.2.1 hbb.2.2.2.1, btw_bd hn1 hd1 hnd hab.2.2.2.2.1 hbb.2.2.2.2.1, btw_bd hn1 hd1 hnd hab.2.2.2.2.2.1 hbb.2.2.2.2.2.1⟩
end
def zeroS : SmpR := ⟨0, 0, 0, 0, 0, 0, 0⟩
def atR (a : ActD) (t : Int) : SmpR × Int := if chkA a ≠ 0 then (zeroS, chkA a) else if a.ss.length = 0 then (zeroS, 13) else if ¬(0 ≤ t ∧ t ≤ spanL a.ss) then (zeroS, 9) else (whereV a.ss t, 0)
theorem atR_e {a : ActD} {t : Int} (h : chkA a ≠ 0) : atR a t = (zeroS, chkA a) := if_pos h
theorem atR_13 {a : ActD} {t : Int} (h : chkA a = 0) (h1 : a.ss.length = 0) : atR a t = (zeroS, 13) := by unfold atR; rw [if_neg (by simp [h]), if_pos h1]
theorem atR_9 {a : ActD} {t : Int} (h : chkA a = 0) (h1 : a.ss.length ≠ 0) (h2 : ¬(0 ≤ t ∧ t ≤ spanL a.ss)) : atR a t = (zeroS, 9) := by unfold atR; rw [if_neg (by simp [h]), if_neg h1, if_pos h2]
theorem atR_0 {a : ActD} {t : Int} (h : chkA a = 0) (h1 : a.ss.length ≠ 0) (h2 : 0 ≤ t ∧ t ≤ spanL a.ss) : atR a t = (whereV a.ss t, 0) := by unfold atR; rw [if_neg (by simp [h]), if_neg h1, if_neg (fun h3 => h3 h2)]
/-- The first k samples of those each so many seconds. -/
def reL (ss : List SmpR) (step : Int) (k : Nat) : List SmpR := (List.range k).map fun (i : Nat) => whereV ss ((i : Int) * step)
theorem reL_succ (ss : List SmpR) (step : Int) (k : Nat) : reL ss step (k + 1) = reL ss step k ++ [whereV ss ((k : Int) * step)] := by unfold reL; rw [List.range_succ, List.map_append]; rfl
theorem reL_len (ss : List SmpR) (step : Int) (k : Nat) : (reL ss step k).length = k := by simp [reL]
/-- How many lie ahead of the end. -/
def reN (ss : List SmpR) (step : Int) : Nat := ((spanL ss + step - 1) / step).toNat
theorem reN_iff {ss : List SmpR} {step : Int} (hs : 1 ≤ step) (h0 : 0 ≤ spanL ss) (k : Nat) : (k : Int) * step < spanL ss ↔ k < reN ss step := by
  unfold reN
  have h1 : 0 ≤ (spanL ss + step - 1) / step := Int.ediv_nonneg (by omega) (by omega)
  have h2 : ((k : Int) + 1 ≤ (spanL ss + step - 1) / step) ↔ ((k : Int) + 1) * step ≤ spanL ss + step - 1 := Int.le_ediv_iff_mul_le (by omega)
  rw [Int.add_mul, Int.one_mul] at h2
  omega
def resD (a : ActD) (step : Int) : ActD := if a.ss.length = 0 then a else ⟨a.name, a.sport, a.start, reL a.ss step (reN a.ss step) ++ [whereV a.ss (spanL a.ss)], a.ls, a.ts⟩
def resR (a : ActD) (step : Int) : ActD × Int :=
  if chkA a ≠ 0 then (noA, chkA a) else if ¬(1 ≤ step ∧ step ≤ 1000000) then (noA, 9) else if 0 < a.ss.length ∧ 20000 < (spanL a.ss + step - 1) / step + 1 then (noA, 3) else (resD a step, 0)
theorem resR_e {a : ActD} {t : Int} (h : chkA a ≠ 0) : resR a t = (noA, chkA a) := if_pos h
theorem resR_9 {a : ActD} {t : Int} (h : chkA a = 0) (h1 : ¬(1 ≤ t ∧ t ≤ 1000000)) : resR a t = (noA, 9) := by unfold resR; rw [if_neg (by simp [h]), if_pos h1]
theorem resR_3 {a : ActD} {t : Int} (h : chkA a = 0) (h1 : 1 ≤ t ∧ t ≤ 1000000) (h2 : 0 < a.ss.length ∧ 20000 < (spanL a.ss + t - 1) / t + 1) : resR a t = (noA, 3) := by unfold resR; rw [if_neg (by simp [h]), if_neg (fun h3 => h3 h1), if_pos h2]
theorem resR_0 {a : ActD} {t : Int} (h : chkA a = 0) (h1 : 1 ≤ t ∧ t ≤ 1000000) (h2 : ¬(0 < a.ss.length ∧ 20000 < (spanL a.ss + t - 1) / t + 1)) : resR a t = (resD a t, 0) := by unfold resR; rw [if_neg (by simp [h]), if_neg (fun h3 => h3 h1), if_neg h2]
/-- The samples between two seconds. -/
def innL (f t : Int) (l : List SmpR) : List SmpR := l.filter fun x => decide (f < x.at_) && decide (x.at_ < t)
theorem innL_yes {f t : Int} {l : List SmpR} {k : Nat} {x : SmpR} (h : l[k]? = some x) (hx : f < x.at_ ∧ x.at_ < t) : innL f t (l.take (k + 1)) = innL f t (l.take k) ++ [x] := by
  unfold innL; rw [take_succ_get h, List.filter_append]; simp [hx.1, hx.2]
theorem innL_no {f t : Int} {l : List SmpR} {k : Nat} {x : SmpR} (h : l[k]? = some x) (hx : ¬(f < x.at_ ∧ x.at_ < t)) : innL f t (l.take (k + 1)) = innL f t (l.take k) := by
  unfold innL; rw [take_succ_get h, List.filter_append]
  have : (decide (f < x.at_) && decide (x.at_ < t)) = false := by
    rw [← Bool.not_eq_true, Bool.and_eq_true, decide_eq_true_eq, decide_eq_true_eq]; exact hx
  simp [this]
theorem innL_len (f t : Int) (l : List SmpR) : (innL f t l).length ≤ l.length := List.length_filter_le _ _
def cutL (ss : List SmpR) (f t : Int) : List SmpR := (whereV ss f :: innL f t ss) ++ [whereV ss t]
def cutR (a : ActD) (f t : Int) : ActD × Int :=
  if chkA a ≠ 0 then (noA, chkA a) else if a.ss.length = 0 then (noA, 13) else if f < 0 ∨ t ≤ f ∨ spanL a.ss < t then (noA, 9) else partR a (cutL a.ss f t) f
theorem cutR_e {a : ActD} {f t : Int} (h : chkA a ≠ 0) : cutR a f t = (noA, chkA a) := if_pos h
theorem cutR_13 {a : ActD} {f t : Int} (h : chkA a = 0) (h1 : a.ss.length = 0) : cutR a f t = (noA, 13) := by unfold cutR; rw [if_neg (by simp [h]), if_pos h1]
theorem cutR_9 {a : ActD} {f t : Int} (h : chkA a = 0) (h1 : a.ss.length ≠ 0) (h2 : f < 0 ∨ t ≤ f ∨ spanL a.ss < t) : cutR a f t = (noA, 9) := by unfold cutR; rw [if_neg (by simp [h]), if_neg h1, if_pos h2]
theorem cutR_0 {a : ActD} {f t : Int} (h : chkA a = 0) (h1 : a.ss.length ≠ 0) (h2 : ¬(f < 0 ∨ t ≤ f ∨ spanL a.ss < t)) : cutR a f t = partR a (cutL a.ss f t) f := by unfold cutR; rw [if_neg (by simp [h]), if_neg h1, if_neg h2]
end Go.Proofs.Ytfbmkepogcimlaa

/-
  Lists in order, each element once: plain part.
-/

namespace Go.Proofs.Ytfbmkepogcimlaa
set_option linter.unusedVariables false
set_option linter.unusedSimpArgs false
theorem strict_unique {α : Type} {lt : α → α → Prop} (asym : ∀ a b, lt a b → ¬lt b a) : ∀ {xs ys : List α}, xs.Pairwise lt → ys.Pairwise lt → (∀ x, x ∈ xs ↔ x ∈ ys) → xs = ys
  | [], [], _, _, _ => rfl
  | [], y :: ys, _, _, h => by have := (h y).2 (by simp); simp at this
  | x :: xs, [], _, _, h => by have := (h x).1 (by simp); simp at this
  | x :: xs, y :: ys, hx, hy, h => by
    rw [List.pairwise_cons] at hx hy
    have irr : ∀ a, ¬lt a a := fun a ha => asym a a ha ha
    have hxy : x = y := by
      apply Classical.byContradiction
      intro hne
      have h1 : x ∈ ys := by
        rcases List.mem_cons.1 ((h x).1 (by simp)) with h2 | h2
        · exact absurd h2 hne
        · exact h2
      have h2 : y ∈ xs := by
        rcases List.mem_cons.1 ((h y).2 (by simp)) with h2 | h2
        · exact absurd h2.symm hne
        · exact h2
      exact asym _ _ (hx.1 y h2) (hy.1 x h1)
    subst hxy
    refine congrArg (x :: ·) (strict_unique asym hx.2 hy.2 fun a => ⟨fun ha => ?_, fun ha => ?_⟩)
    · rcases List.mem_cons.1 ((h a).1 (List.mem_cons_of_mem _ ha)) with h3 | h3
      · subst h3; exact absurd (hx.1 _ ha) (irr _)
      · exact h3
    · rcases List.mem_cons.1 ((h a).2 (List.mem_cons_of_mem _ ha)) with h3 | h3
      · subst h3; exact absurd (hy.1 _ ha) (irr _)
      · exact h3
section
variable {α : Type} [Inhabited α] [DecidableEq α]
omit [DecidableEq α] in
theorem toArray_get {zs : List α} {j : Nat} (h : j < zs.length) : zs.toArray[j]! = zs[j] := by simp [h]
theorem mem_compact {zs : List α} {x : α} : x ∈ Go.Lib.compact zs ↔ x ∈ zs := by
  unfold Go.Lib.compact Go.Lib.compactUpTo
  rw [List.mem_map]
  constructor
  · rintro ⟨j, hj, rfl⟩
    rw [List.mem_filter, List.mem_range] at hj
    rw [toArray_get hj.1]
    exact List.getElem_mem _
  · intro hx
    obtain ⟨j, hj, rfl⟩ := List.getElem_of_mem hx
    have key : ∀ j (hj : j < zs.length), ∃ i, i ∈ (List.range zs.length).filter (Go.Lib.keeps zs.toArray) ∧ zs.toArray[i]! = zs[j] := by
      intro j
      induction j with
      | zero => exact fun hj => ⟨0, List.mem_filter.2 ⟨List.mem_range.2 hj, by simp [Go.Lib.keeps]⟩, toArray_get hj⟩
      | succ j ih =>
        intro hj
        by_cases h : zs.toArray[j + 1]! = zs.toArray[j]!
        · obtain ⟨i, hi, he⟩ := ih (by omega)
          refine ⟨i, hi, ?_⟩
          rw [he, ← toArray_get hj, h, toArray_get (by omega)]
        · exact ⟨j + 1, List.mem_filter.2 ⟨List.mem_range.2 hj, by simp only [Go.Lib.keeps, Nat.add_sub_cancel]; exact decide_eq_true (.inr h)⟩, toArray_get hj⟩
    exact key j hj
theorem compact_strict {le : α → α → Prop} (refl : ∀ a, le a a) (anti : ∀ a b, le a b → le b a → a = b) {zs : List α} (h : zs.Pairwise le) : (Go.Lib.compact zs).Pairwise fun a b => le a b ∧ a ≠ b := by
  have hle : ∀ i j, (hij : i ≤ j) → (hj : j < zs.length) → le (zs[i]'(Nat.lt_of_le_of_lt hij hj)) zs[j] := fun i j hij hj => by
    by_cases h1 : i = j
    · subst h1; exact refl _
    · exact (List.pairwise_iff_getElem.1 h) i j (by omega) hj (by omega)
  unfold Go.Lib.compact Go.Lib.compactUpTo
  rw [List.pairwise_map]
  refine List.Pairwise.imp_of_mem ?_ ((List.pairwise_lt_range (n := zs.length)).filter _)
  intro i j hi hj hij
  rw [List.mem_filter, List.mem_range] at hi hj
  rw [toArray_get hi.1, toArray_get hj.1]
  refine ⟨hle i j (by omega) hj.1, fun he => ?_⟩
  have hk := hj.2
  simp only [Go.Lib.keeps, decide_eq_true_eq] at hk
  rcases hk with h0 | hk
  · omega
  · rw [toArray_get hj.1, toArray_get (show j - 1 < zs.length by omega)] at hk
    refine hk (anti _ _ ?_ (hle (j - 1) j (by omega) hj.1))
    rw [← he]
    exact hle i (j - 1) (by omega) (by omega)
end
theorem compact_len {α : Type} [Inhabited α] [DecidableEq α] (zs : List α) : (Go.Lib.compact zs).length ≤ zs.length := by
  unfold Go.Lib.compact Go.Lib.compactUpTo
  rw [List.length_map]
  exact Nat.le_trans (List.length_filter_le _ _) (by simp)
/-- Numbers in order, each once. -/
def ordI (xs : List Int) : List Int := Go.Lib.compact (xs.mergeSort fun x y => decide (x ≤ y))
theorem sortI_pair (xs : List Int) : (xs.mergeSort fun x y => decide (x ≤ y)).Pairwise (· ≤ ·) := by
  have h := List.pairwise_mergeSort (le := fun x y : Int => decide (x ≤ y)) (fun a b c h1 h2 => by simp at *; omega) (fun a b => by simp; omega) xs
  exact h.imp fun h => by simpa using h
theorem ordI_pair (xs : List Int) : (ordI xs).Pairwise (· < ·) :=
  (compact_strict (le := (· ≤ ·)) (fun a => Int.le_refl a) (fun a b h1 h2 => Int.le_antisymm h1 h2) (sortI_pair xs)).imp fun {a b} h => by have h1 := h.1; have h2 := h.2; omega
theorem mem_ordI {xs : List Int} {x : Int} : x ∈ ordI xs ↔ x ∈ xs := by rw [ordI, mem_compact, List.mem_mergeSort]
theorem ordI_of {xs ys : List Int} (h : ys.Pairwise (· < ·)) (hm : ∀ x, x ∈ ys ↔ x ∈ xs) : ordI xs = ys :=
  strict_unique (lt := (· < ·)) (fun a b h1 h2 => by omega) (ordI_pair xs) h fun x => by rw [mem_ordI, hm]
end Go.Proofs.Ytfbmkepogcimlaa

/-
  Join: plain part.
-/



namespace Go.Proofs.Ytfbmkepogcimlaa
open Go Hx
set_option linter.unusedVariables false
set_option linter.unusedSimpArgs false
/-! #### names in order -/
def bytesB (b : ByteArray) : List UInt8 := b.data.toList
def ofB (l : List UInt8) : ByteArray := ⟨l.toArray⟩
theorem ofB_bytesB (b : ByteArray) : ofB (bytesB b) = b := by simp [ofB, bytesB]
theorem bytesB_ofB (l : List UInt8) : bytesB (ofB l) = l := by simp [ofB, bytesB]
theorem bytesB_inj {x y : ByteArray} (h : bytesB x = bytesB y) : x = y := by rw [← ofB_bytesB x, h, ofB_bytesB]
theorem less_eq : ∀ (x y : List UInt8), Op.bytesLess x y = decide (x < y)
  | [], [] => by simp [Op.bytesLess]
  | _ :: _, [] => by simp [Op.bytesLess]
  | [], _ :: _ => by simp [Op.bytesLess]
  | a :: x, b :: y => by
    rw [Op.bytesLess, less_eq x y]
    simp only [List.cons_lt_cons_iff]
    by_cases h1 : a < b <;> by_cases h2 : a = b <;> by_cases h3 : x < y <;> simp [h1, h2, h3]
theorem sLt_iff {x y : ByteArray} : sLt x y = true ↔ bytesB x < bytesB y := by
  unfold sLt; rw [less_eq, ByteArray.toList_eq, ByteArray.toList_eq, decide_eq_true_iff]; rfl
theorem sEq_iff {x y : ByteArray} : sEq x y = true ↔ x = y := by
  unfold sEq
  rw [ByteArray.toList_eq, ByteArray.toList_eq, beq_iff_eq]
  exact ⟨fun h => bytesB_inj h, fun h => by rw [h]⟩
def ltB (x y : ByteArray) : Prop := bytesB x < bytesB y
theorem ltB_asym (x y : ByteArray) (h : ltB x y) : ¬ltB y x := fun h2 => List.lt_irrefl _ (List.lt_trans h h2)
theorem ltB_trans {x y z : ByteArray} (h : ltB x y) (h2 : ltB y z) : ltB x z := List.lt_trans h h2
theorem ltB_tri (x y : ByteArray) (h : ¬ltB x y) (h2 : x ≠ y) : ltB y x := by
  apply Classical.byContradiction
  intro h3
  exact h2 (bytesB_inj (List.le_antisymm (List.not_lt.1 h3) (List.not_lt.1 h)))
/-- The names of a right activity. -/
theorem tags_up {a : ActD} (hg : GoodA a) : a.ts.Pairwise ltB := by
  have step : ∀ (k : Nat) (x y : ByteArray), a.ts[k]? = some x → a.ts[k + 1]? = some y → ltB x y := fun k x y hx hy => by
    have h := chkE_ok hg.t hy
    rw [ahead_succ hx] at h
    unfold fT at h
    by_cases h1 : nameB y = false
    · rw [if_pos h1] at h; omega
    · rw [if_neg h1] at h
      by_cases h2 : ordT (some x) y = true
      · rw [if_pos h2] at h; omega
      · have h3 : sLe y x ≠ true := h2
        unfold sLe at h3
        rw [Ne, Bool.or_eq_true, not_or] at h3
        exact ltB_tri y x (fun h4 => h3.1 (sLt_iff.2 h4)) (fun h4 => h3.2 (sEq_iff.2 h4))
  have far : ∀ (d k : Nat) (x y : ByteArray), a.ts[k]? = some x → a.ts[k + d + 1]? = some y → ltB x y := by
    intro d
    induction d with
    | zero => exact step
    | succ d ih =>
      intro k x y hx hy
      have hlt := (List.getElem?_eq_some_iff.1 hy).1
      have hz := List.getElem?_eq_getElem (l := a.ts) (i := k + d + 1) (by omega)
      exact ltB_trans (ih k x _ hx hz) (step _ _ _ hz hy)
  rw [List.pairwise_iff_getElem]
  intro i j hi hj hij
  exact far (j - i - 1) i _ _ (List.getElem?_eq_getElem hi) (by rw [show i + (j - i - 1) + 1 = j by omega]; exact List.getElem?_eq_getElem hj)
/-- The names of both, as the reference does it. -/
def tagR : List ByteArray → List ByteArray → List ByteArray
  | [], b => b
  | x :: a, [] => x :: a
  | x :: a, y :: b => if sLt x y = true then x :: tagR a (y :: b) else if sEq x y = true then y :: tagR a b else y :: tagR (x :: a) b
termination_by a b => a.length + b.length
theorem tagR_nil (b : List ByteArray) : tagR [] b = b := by rw [tagR]
theorem tagR_nilr : ∀ a : List ByteArray, tagR a [] = a
  | [] => by rw [tagR]
  | x :: a => by rw [tagR]
theorem tagR_a {x y : ByteArray} {a b : List ByteArray} (h : sLt x y = true) : tagR (x :: a) (y :: b) = x :: tagR a (y :: b) := by rw [tagR, if_pos h]
theorem tagR_e {x y : ByteArray} {a b : List ByteArray} (h : ¬sLt x y = true) (h2 : sEq x y = true) : tagR (x :: a) (y :: b) = y :: tagR a b := by rw [tagR, if_neg h, if_pos h2]
theorem tagR_b {x y : ByteArray} {a b : List ByteArray} (h : ¬sLt x y = true) (h2 : ¬sEq x y = true) : tagR (x :: a) (y :: b) = y :: tagR (x :: a) b := by rw [tagR, if_neg h, if_neg h2]
theorem mem_tagR : ∀ (a b : List ByteArray) (s : ByteArray), s ∈ tagR a b ↔ s ∈ a ∨ s ∈ b
  | [], b, s => by rw [tagR_nil]; simp
  | x :: a, [], s => by rw [tagR_nilr]; simp
  | x :: a, y :: b, s => by
    by_cases h1 : sLt x y = true
    · rw [tagR_a h1, List.mem_cons, mem_tagR a (y :: b) s, List.mem_cons (a := s) (b := x), or_assoc]
    · by_cases h2 : sEq x y = true
      · have he := sEq_iff.1 h2
        subst he
        rw [tagR_e h1 h2, List.mem_cons, mem_tagR a b s, List.mem_cons, List.mem_cons]
        constructor
        · rintro (h | h | h)
          · exact .inl (.inl h)
          · exact .inl (.inr h)
          · exact .inr (.inr h)
        · rintro ((h | h) | (h | h))
          · exact .inl h
          · exact .inr (.inl h)
          · exact .inl h
          · exact .inr (.inr h)
      · rw [tagR_b h1 h2, List.mem_cons, mem_tagR (x :: a) b s, List.mem_cons (a := s) (b := y)]
        constructor
        · rintro (h | h | h)
          · exact .inr (.inl h)
          · exact .inl h
          · exact .inr (.inr h)
        · rintro (h | h | h)
          · exact .inr (.inl h)
          · exact .inl h
          · exact .inr (.inr h)
termination_by a b => a.length + b.length
theorem tagR_up : ∀ (a b : List ByteArray), a.Pairwise ltB → b.Pairwise ltB → (tagR a b).Pairwise ltB
  | [], b, _, hb => by rw [tagR_nil]; exact hb
  | x :: a, [], ha, _ => by rw [tagR_nilr]; exact ha
  | x :: a, y :: b, ha, hb => by
    have ha' := List.pairwise_cons.1 ha
    have hb' := List.pairwise_cons.1 hb
    by_cases h1 : sLt x y = true
    · have h0 : ltB x y := sLt_iff.1 h1
      rw [tagR_a h1, List.pairwise_cons]
      refine ⟨fun s hs => ?_, tagR_up a (y :: b) ha'.2 hb⟩
      rcases (mem_tagR _ _ _).1 hs with h | h
      · exact ha'.1 s h
      · rcases List.mem_cons.1 h with h | h
        · subst h; exact h0
        · exact ltB_trans h0 (hb'.1 s h)
    · by_cases h2 : sEq x y = true
      · have he := sEq_iff.1 h2
        subst he
        rw [tagR_e h1 h2, List.pairwise_cons]
        refine ⟨fun s hs => ?_, tagR_up a b ha'.2 hb'.2⟩
        rcases (mem_tagR _ _ _).1 hs with h | h
        · exact ha'.1 s h
        · exact hb'.1 s h
      · have h0 : ltB y x := ltB_tri x y (fun h => h1 (sLt_iff.2 h)) (fun h => h2 (sEq_iff.2 h))
        rw [tagR_b h1 h2, List.pairwise_cons]
        refine ⟨fun s hs => ?_, tagR_up (x :: a) b ha hb'.2⟩
        rcases (mem_tagR _ _ _).1 hs with h | h
        · rcases List.mem_cons.1 h with h | h
          · subst h; exact h0
          · exact ltB_trans h0 (ha'.1 s h)
        · exact hb'.1 s h
termination_by a b => a.length + b.length
theorem tagR_len : ∀ (a b : List ByteArray), (tagR a b).length ≤ a.length + b.length
  | [], b => by rw [tagR_nil]; simp
  | x :: a, [] => by rw [tagR_nilr]; simp
  | x :: a, y :: b => by
    by_cases h1 : sLt x y = true
    · rw [tagR_a h1]; have := tagR_len a (y :: b); simp only [List.length_cons] at *; omega
    · by_cases h2 : sEq x y = true
      · rw [tagR_e h1 h2]; have := tagR_len a b; simp only [List.length_cons] at *; omega
      · rw [tagR_b h1 h2]; have := tagR_len (x :: a) b; simp only [List.length_cons] at *; omega
termination_by a b => a.length + b.length
/-- .. and as the program does it. -/
def ordBA (xs : List ByteArray) : List ByteArray := (Go.Lib.compact ((xs.map bytesB).mergeSort fun x y => decide (x ≤ y))).map ofB
theorem sortB_pair (xs : List (List UInt8)) : (xs.mergeSort fun x y => decide (x ≤ y)).Pairwise (· ≤ ·) := by
  have h := List.pairwise_mergeSort (le := fun x y : List UInt8 => decide (x ≤ y)) (fun a b c h1 h2 => decide_eq_true (List.le_trans (of_decide_eq_true h1) (of_decide_eq_true h2))) (fun a b => by
    rcases List.le_total a b with h | h
    · simp [h]
    · simp [h]) xs
  exact h.imp fun h => of_decide_eq_true h
theorem ordBA_up (xs : List ByteArray) : (ordBA xs).Pairwise ltB := by
  unfold ordBA
  rw [List.pairwise_map]
  refine (compact_strict (le := (· ≤ ·)) (fun a => List.le_refl a) (fun a b h1 h2 => List.le_antisymm h1 h2) (sortB_pair (xs.map bytesB))).imp fun {a b} h => ?_
  show bytesB (ofB a) < bytesB (ofB b)
  rw [bytesB_ofB, bytesB_ofB]
  apply Decidable.byContradiction
  intro h3
  exact h.2 (List.le_antisymm h.1 (List.not_lt.1 h3))
theorem mem_ordBA {xs : List ByteArray} {x : ByteArray} : x ∈ ordBA xs ↔ x ∈ xs := by
  unfold ordBA
  rw [List.mem_map]
  constructor
  · rintro ⟨l, hl, rfl⟩
    rw [mem_compact, List.mem_mergeSort, List.mem_map] at hl
    obtain ⟨y, hy, rfl⟩ := hl
    rw [ofB_bytesB]; exact hy
  · intro h
    exact ⟨bytesB x, by rw [mem_compact, List.mem_mergeSort]; exact List.mem_map_of_mem h, ofB_bytesB x⟩
theorem ordBA_eq {a b : List ByteArray} (ha : a.Pairwise ltB) (hb : b.Pairwise ltB) : ordBA (a ++ b) = tagR a b :=
  strict_unique (lt := ltB) ltB_asym (ordBA_up _) (tagR_up a b ha hb) fun s => by rw [mem_ordBA, mem_tagR, List.mem_append]
/-! #### samples and laps -/
def SmpR.fwd (by_ : Int) (x : SmpR) : SmpR := ⟨x.at_ + by_, x.x, x.y, x.z, x.pulse, x.power, x.steps⟩
def LapR.fwd (by_ : Int) (x : LapR) : LapR := ⟨x.from_ + by_, x.to + by_, x.name⟩
def joinK (az bs : List SmpR) (by_ : Int) : Nat → List SmpR
  | 0 => az
  | k + 1 => match bs[k]? with
    | some s => if 0 < k ∨ az.length = 0 ∨ spanL az < s.at_ + by_ then joinK az bs by_ k ++ [s.fwd by_] else joinK az bs by_ k
    | none => joinK az bs by_ k
theorem joinK_yes {az bs : List SmpR} {by_ : Int} {k : Nat} {s : SmpR} (h : bs[k]? = some s) (hc : 0 < k ∨ az.length = 0 ∨ spanL az < s.at_ + by_) : joinK az bs by_ (k + 1) = joinK az bs by_ k ++ [s.fwd by_] := by rw [joinK, h]; exact if_pos hc
theorem joinK_no {az bs : List SmpR} {by_ : Int} {k : Nat} {s : SmpR} (h : bs[k]? = some s) (hc : ¬(0 < k ∨ az.length = 0 ∨ spanL az < s.at_ + by_)) : joinK az bs by_ (k + 1) = joinK az bs by_ k := by rw [joinK, h]; exact if_neg hc
theorem joinK_len (az bs : List SmpR) (by_ : Int) : ∀ k, (joinK az bs by_ k).length ≤ az.length + k
  | 0 => Nat.le_refl _
  | k + 1 => by
    have ih := joinK_len az bs by_ k
    cases h : bs[k]? with
    | none => rw [joinK, h]; show (joinK az bs by_ k).length ≤ _; omega
    | some s =>
      by_cases hc : 0 < k ∨ az.length = 0 ∨ spanL az < s.at_ + by_
      · rw [joinK_yes h hc, List.length_append]; simp only [List.length_cons, List.length_nil]; omega
      · rw [joinK_no h hc]; omega
theorem last_snoc {α : Type} (l : List α) (x : α) : (l ++ [x])[(l ++ [x]).length - 1]? = some x := by simp
/-- The last one so far, behind the first round. -/
theorem join_last {st st' by_ : Int} {az bs : List SmpR} (ha : SmpOk st az) (hb : SmpOk st' bs) (hby : spanL az ≤ by_) : ∀ k, 0 < k → k ≤ bs.length → ∃ x y, (joinK az bs by_ k)[(joinK az bs by_ k).length - 1]? = some x ∧ bs[k - 1]? = some y ∧ x.at_ = y.at_ + by_
  | 0, h, _ => by omega
  | k + 1, _, hk => by
    have hy := List.getElem?_eq_getElem (l := bs) (i := k) (by omega)
    by_cases hc : 0 < k ∨ az.length = 0 ∨ spanL az < bs[k].at_ + by_
    · rw [joinK_yes hy hc]
      exact ⟨_, _, last_snoc _ _, hy, rfl⟩
    · rw [joinK_no hy hc]
      have hk0 : k = 0 := by omega
      subst hk0
      have hz := hb.first _ hy
      have hx := List.getElem?_eq_getElem (l := az) (i := az.length - 1) (by omega)
      have hs := spanL_get hx (by omega)
      refine ⟨_, _, hx, hy, ?_⟩
      rw [← hs]; omega
/-- The program asks another question, with the same answer. -/
theorem join_cond {st st' by_ : Int} {az bs : List SmpR} (ha : SmpOk st az) (hb : SmpOk st' bs) (hby : spanL az ≤ by_) {k : Nat} {s : SmpR} (hs : bs[k]? = some s) :
    ((joinK az bs by_ k).length = 0 ∨ ∀ x, (joinK az bs by_ k)[(joinK az bs by_ k).length - 1]? = some x → x.at_ ≠ s.at_ + by_) ↔ (0 < k ∨ az.length = 0 ∨ spanL az < s.at_ + by_) := by
  have hlt := (List.getElem?_eq_some_iff.1 hs).1
  by_cases h0 : k = 0
  · subst h0
    have hz := hb.first _ hs
    show (az.length = 0 ∨ ∀ x, az[az.length - 1]? = some x → x.at_ ≠ s.at_ + by_) ↔ _
    constructor
    · rintro (h | h)
      · exact .inr (.inl h)
      · by_cases hl : az.length = 0
        · exact .inr (.inl hl)
        · have hx := List.getElem?_eq_getElem (l := az) (i := az.length - 1) (by omega)
          have h1 := h _ hx
          have h2 := spanL_get hx (by omega)
          exact .inr (.inr (by omega))
    · rintro (h | h | h)
      · omega
      · exact .inl h
      · refine .inr fun x hx => ?_
        have hl := (List.getElem?_eq_some_iff.1 hx).1
        have h2 := spanL_get hx (by omega)
        omega
  · refine ⟨fun _ => .inl (by omega), fun _ => .inr fun x hx => ?_⟩
    obtain ⟨x', y, h1, h2, h3⟩ := join_last ha hb hby k (by omega) (by omega)
    rw [hx] at h1; cases h1
    have := hb.rise (k - 1) y s h2 (by rw [show k - 1 + 1 = k by omega]; exact hs)
    omega
def fwdL (by_ : Int) (l : List LapR) : List LapR := l.map (LapR.fwd by_)
theorem fwdL_succ {by_ : Int} {l : List LapR} {k : Nat} {x : LapR} (h : l[k]? = some x) : fwdL by_ (l.take (k + 1)) = fwdL by_ (l.take k) ++ [x.fwd by_] := by
  unfold fwdL; rw [take_succ_get h, List.map_append]; rfl
def joinD (a b : ActD) : ActD := ⟨a.name, a.sport, a.start, joinK a.ss b.ss (b.start - a.start) b.ss.length, a.ls ++ fwdL (b.start - a.start) b.ls, tagR a.ts b.ts⟩
/-- What Join returns. -/
def joinR (a b : ActD) : ActD × Int :=
  if chkA a ≠ 0 then (noA, chkA a) else if chkA b ≠ 0 then (noA, chkA b)
  else if a.sport ≠ b.sport then (noA, 7) else if b.start - a.start < spanL a.ss then (noA, 11)
  else if 20000 < (joinD a b).ss.length ∨ 200 < (joinD a b).ls.length ∨ 20 < (joinD a b).ts.length then (noA, 3)
  else if chkA (joinD a b) ≠ 0 then (noA, chkA (joinD a b)) else (joinD a b, 0)
section
variable {a b : ActD}
theorem joinR_a (h : chkA a ≠ 0) : joinR a b = (noA, chkA a) := if_pos h
theorem joinR_b (h : ¬chkA a ≠ 0) (h2 : chkA b ≠ 0) : joinR a b = (noA, chkA b) := by rw [joinR, if_neg h, if_pos h2]
theorem joinR_7 (h : ¬chkA a ≠ 0) (h2 : ¬chkA b ≠ 0) (h3 : a.sport ≠ b.sport) : joinR a b = (noA, 7) := by rw [joinR, if_neg h, if_neg h2, if_pos h3]
theorem joinR_11 (h : ¬chkA a ≠ 0) (h2 : ¬chkA b ≠ 0) (h3 : ¬a.sport ≠ b.sport) (h4 : b.start - a.start < spanL a.ss) : joinR a b = (noA, 11) := by rw [joinR, if_neg h, if_neg h2, if_neg h3, if_pos h4]
theorem joinR_d (h : ¬chkA a ≠ 0) (h2 : ¬chkA b ≠ 0) (h3 : ¬a.sport ≠ b.sport) (h4 : ¬b.start - a.start < spanL a.ss) : joinR a b = if 20000 < (joinD a b).ss.length ∨ 200 < (joinD a b).ls.length ∨ 20 < (joinD a b).ts.length then (noA, 3) else if chkA (joinD a b) ≠ 0 then (noA, chkA (joinD a b)) else (joinD a b, 0) := by rw [joinR, if_neg h, if_neg h2, if_neg h3, if_neg h4]
end
end Go.Proofs.Ytfbmkepogcimlaa

/-
  An activity cut at a sample: plain part: samples, laps, names.
-/


namespace Go.Proofs.Ytfbmkepogcimlaa
open Go Hx
set_option linter.unusedVariables false
set_option linter.unusedSimpArgs false
theorem smp_chkT {st : Int} {ss : List SmpR} (h : SmpOk st ss) : chkE (fS st) none ss = 0 := by
  have key : ∀ k, k ≤ ss.length → chkE (fS st) none ss = chkE (fS st) (ahead ss k) (ss.drop k) := by
    intro k
    induction k with
    | zero => intro _; exact chkE_start _ _
    | succ k ih =>
      intro hk
      have hx : ss[k]? = some (ss[k]'(by omega)) := List.getElem?_eq_getElem _
      refine chkE_next (ih (by omega)) hx ?_
      have hb := h.bd _ (List.mem_of_getElem? hx)
      have ho : ordS (ahead ss k) (ss[k]'(by omega)) = false := by
        cases k with
        | zero => rw [ahead_zero]; exact decide_eq_false (by have := h.first _ hx; omega)
        | succ m =>
          have hy : ss[m]? = some (ss[m]'(by omega)) := List.getElem?_eq_getElem _
          rw [ahead_succ hy]
          exact decide_eq_false (by have := h.rise m _ _ hy hx; omega)
      have hi : smpIn (ss[k]'(by omega)) = true := by
        unfold smpIn
        simp only [Bool.and_eq_true]
        exact ⟨⟨⟨inB_iff.2 hb.2.2.2.1, inB_iff.2 hb.2.2.2.2.1⟩, inB_iff.2 hb.2.2.2.2.2.1⟩, ⟨inB_iff.2 hb.2.2.2.2.2.2.1, inB_iff.2 hb.2.2.2.2.2.2.2.1⟩, inB_iff.2 hb.2.2.2.2.2.2.2.2⟩
      unfold fS
      rw [if_neg (by rw [ho]; simp), if_neg]
      rintro (h | h | h)
      · omega
      · omega
      · rw [hi] at h; cases h
  exact chkE_end (key ss.length (Nat.le_refl _)) (Nat.le_refl _)
theorem riseT {st : Int} {ss : List SmpR} (h : SmpOk st ss) : ∀ (d i : Nat) (x y : SmpR), ss[i]? = some x → ss[i + d + 1]? = some y → x.at_ < y.at_
  | 0, i, x, y, hx, hy => h.rise i x y hx hy
  | d + 1, i, x, y, hx, hy => by
    have hlt : i + d + 1 < ss.length := by have := (List.getElem?_eq_some_iff.1 hy).1; omega
    have hz := List.getElem?_eq_getElem hlt
    have h1 := riseT h d i x _ hx hz
    have h2 := h.rise _ _ _ hz (by rw [show i + d + 1 + 1 = i + (d + 1) + 1 by omega]; exact hy)
    omega
theorem upT {st : Int} {ss : List SmpR} (h : SmpOk st ss) {i j : Nat} {x y : SmpR} (hij : i < j) (hx : ss[i]? = some x) (hy : ss[j]? = some y) : x.at_ < y.at_ :=
  riseT h (j - i - 1) i x y hx (by rw [show i + (j - i - 1) + 1 = j by omega]; exact hy)
def pcS (ss : List SmpR) (i m : Nat) : List SmpR := (ss.drop i).take m
theorem pcS_get {ss : List SmpR} {i m k : Nat} {x : SmpR} (h : (pcS ss i m)[k]? = some x) : ss[i + k]? = some x ∧ k < m := by
  unfold pcS at h
  rw [List.getElem?_take] at h
  split at h
  · rw [List.getElem?_drop] at h; exact ⟨h, by assumption⟩
  · cases h
theorem pcS_at {ss : List SmpR} {i m k : Nat} (h : k < m) : (pcS ss i m)[k]? = ss[i + k]? := by
  unfold pcS; rw [List.getElem?_take, if_pos h, List.getElem?_drop]
theorem pcS_len {ss : List SmpR} {i m : Nat} (h : i + m ≤ ss.length) : (pcS ss i m).length = m := by
  unfold pcS; rw [List.length_take, List.length_drop]; omega
theorem where_atT {st : Int} {ss : List SmpR} (h : SmpOk st ss) {i : Nat} {x : SmpR} (hx : ss[i]? = some x) : whereV ss x.at_ = x := by
  have hl := (List.getElem?_eq_some_iff.1 hx).1
  rw [where_skip i (by omega) (fun j b hj hb => upT h hj hb hx), drop_cons_get hx, whereL_cons, if_pos rfl]
theorem cut_pc {st : Int} {ss : List SmpR} (h : SmpOk st ss) {i j : Nat} {x y : SmpR} (hij : i < j) (hx : ss[i]? = some x) (hy : ss[j]? = some y) : cutL ss x.at_ y.at_ = pcS ss i (j - i + 1) := by
  have hjl := (List.getElem?_eq_some_iff.1 hy).1
  have hin : innL x.at_ y.at_ ss = pcS ss (i + 1) (j - i - 1) := by
    have e1 : ss = ss.take (i + 1) ++ (pcS ss (i + 1) (j - i - 1) ++ ss.drop j) := by
      unfold pcS
      have e2 : ss.drop j = (ss.drop (i + 1)).drop (j - i - 1) := by rw [List.drop_drop]; congr 1; omega
      rw [e2, List.take_append_drop, List.take_append_drop]
    have f1 : (ss.take (i + 1)).filter (fun z => decide (x.at_ < z.at_) && decide (z.at_ < y.at_)) = [] := by
      rw [List.filter_eq_nil_iff]
      intro z hz
      obtain ⟨k, hk⟩ := List.mem_iff_getElem?.1 hz
      have hkl := (List.getElem?_eq_some_iff.1 hk).1
      rw [List.length_take] at hkl
      rw [List.getElem?_take, if_pos (by omega)] at hk
      have : z.at_ ≤ x.at_ := by
        by_cases e : k = i
        · subst e; rw [hx] at hk; cases hk; exact Int.le_refl _
        · have := upT h (show k < i by omega) hk hx; omega
      simp; omega
    have f2 : (pcS ss (i + 1) (j - i - 1)).filter (fun z => decide (x.at_ < z.at_) && decide (z.at_ < y.at_)) = pcS ss (i + 1) (j - i - 1) := by
      rw [List.filter_eq_self]
      intro z hz
      obtain ⟨k, hk⟩ := List.mem_iff_getElem?.1 hz
      have h1 := pcS_get hk
      have h2 := upT h (show i < i + 1 + k by omega) hx h1.1
      have h3 := upT h (show i + 1 + k < j by omega) h1.1 hy
      simp; omega
    have f3 : (ss.drop j).filter (fun z => decide (x.at_ < z.at_) && decide (z.at_ < y.at_)) = [] := by
      rw [List.filter_eq_nil_iff]
      intro z hz
      obtain ⟨k, hk⟩ := List.mem_iff_getElem?.1 hz
      rw [List.getElem?_drop] at hk
      have : y.at_ ≤ z.at_ := by
        by_cases e : k = 0
        · subst e; rw [Nat.add_zero, hy] at hk; cases hk; exact Int.le_refl _
        · have := upT h (show j < j + k by omega) hy hk; omega
      simp; omega
    have e3 := congrArg (List.filter (fun z => decide (x.at_ < z.at_) && decide (z.at_ < y.at_))) e1
    rw [List.filter_append, List.filter_append, f1, f2, f3, List.nil_append, List.append_nil] at e3
    exact e3
  unfold cutL
  rw [where_atT h hx, where_atT h hy, hin]
  unfold pcS
  rw [drop_cons_get hx, List.take_succ_cons, List.cons_append]
  congr 1
  have e4 : (ss.drop (i + 1))[j - i - 1]? = some y := by rw [List.getElem?_drop, show i + 1 + (j - i - 1) = j by omega]; exact hy
  have e5 := take_succ_get e4
  rw [show j - i - 1 + 1 = j - i by omega] at e5
  exact e5.symm
theorem backS_get {b : Int} {l : List SmpR} {k : Nat} {x : SmpR} (h : (backS b l)[k]? = some x) : ∃ y, l[k]? = some y ∧ x = y.back b := by
  unfold backS at h
  rw [List.getElem?_map] at h
  cases hy : l[k]? with
  | none => rw [hy] at h; cases h
  | some y => rw [hy] at h; exact ⟨y, rfl, (Option.some.inj h).symm⟩
theorem pc_ok {st : Int} {ss : List SmpR} (h : SmpOk st ss) {i m : Nat} {x : SmpR} (hx : ss[i]? = some x) (hm : i + m ≤ ss.length) : SmpOk (st + x.at_) (backS x.at_ (pcS ss i m)) := by
  have hl : (backS x.at_ (pcS ss i m)).length = m := by unfold backS; rw [List.length_map, pcS_len hm]
  have hlen := h.len
  refine ⟨by omega, fun z hz => ?_, fun k z u hz hu => ?_, fun z hz => ?_⟩
  · obtain ⟨y, hy, rfl⟩ := backS_get hz
    have h1 := pcS_get hy
    rw [Nat.add_zero, hx] at h1
    cases h1.1
    show x.at_ - x.at_ = 0
    omega
  · obtain ⟨y, hy, rfl⟩ := backS_get hz
    obtain ⟨v, hv, rfl⟩ := backS_get hu
    have := upT h (show i + k < i + (k + 1) by omega) (pcS_get hy).1 (pcS_get hv).1
    show y.at_ - x.at_ < v.at_ - x.at_
    omega
  · obtain ⟨k, hk⟩ := List.mem_iff_getElem?.1 hz
    obtain ⟨y, hy, rfl⟩ := backS_get hk
    have h1 := (pcS_get hy).1
    have hb := h.bd y (List.mem_of_getElem? h1)
    have hbx := h.bd x (List.mem_of_getElem? hx)
    have hge : x.at_ ≤ y.at_ := by
      by_cases e : k = 0
      · subst e; rw [Nat.add_zero, hx] at h1; cases h1; exact Int.le_refl _
      · have := upT h (show i < i + k by omega) hx h1; omega
    refine ⟨?_, ?_, ?_, hb.2.2.2⟩
    · show 0 ≤ y.at_ - x.at_; omega
    · show y.at_ - x.at_ ≤ 1000000; omega
    · show st + x.at_ + (y.at_ - x.at_) ≤ 86399999999; omega
theorem pc_span {ss : List SmpR} {i m : Nat} {x y : SmpR} (hm : i + m + 1 ≤ ss.length) (hy : ss[i + m]? = some y) : spanL (backS x.at_ (pcS ss i (m + 1))) = y.at_ - x.at_ := by
  have hl : (backS x.at_ (pcS ss i (m + 1))).length = m + 1 := by unfold backS; rw [List.length_map, pcS_len (by omega)]
  have : (backS x.at_ (pcS ss i (m + 1)))[m]? = some (y.back x.at_) := by
    unfold backS
    rw [List.getElem?_map, pcS_at (by omega), hy]; rfl
  rw [spanL_get this (by omega)]; rfl
/-! #### laps -/
structure LapP (sp : Int) (x : LapR) : Prop where
  lo : 0 ≤ x.from_
  lt : x.from_ < x.to
  hi : x.to ≤ sp
  nm : ¬titleB x.name = false
theorem fL_iff {sp : Int} {p : Option LapR} {x : LapR} : fL sp p x = 0 ↔ LapP sp x ∧ ¬ordL p x = true := by
  unfold fL
  constructor
  · intro h
    by_cases h1 : x.from_ < 0 ∨ x.to ≤ x.from_ ∨ sp < x.to
    · rw [if_pos h1] at h; omega
    · rw [if_neg h1] at h
      by_cases h2 : ordL p x = true
      · rw [if_pos h2] at h; omega
      · rw [if_neg h2] at h
        by_cases h3 : titleB x.name = false
        · rw [if_pos h3] at h; omega
        · exact ⟨⟨by omega, by omega, by omega, h3⟩, h2⟩
  · rintro ⟨⟨h1, h2, h3, h4⟩, h5⟩
    rw [if_neg (by omega), if_neg h5, if_neg h4]
theorem laps_of {sp : Int} : ∀ {ls : List LapR} {p : Option LapR}, chkE (fL sp) p ls = 0 → (∀ x ∈ ls, LapP sp x) ∧ ls.Pairwise (fun x y => x.to ≤ y.from_) ∧ ∀ y, p = some y → ∀ x ∈ ls, y.to ≤ x.from_
  | [], p, _ => ⟨fun x h => (by cases h), List.Pairwise.nil, fun y _ x h => (by cases h)⟩
  | z :: r, p, h => by
    rw [chkE_cons] at h
    by_cases h0 : fL sp p z ≠ 0
    · rw [if_pos h0] at h; exact absurd h h0
    · rw [if_neg h0] at h
      obtain ⟨i1, i2, i3⟩ := laps_of h
      have h1 := fL_iff.1 (Decidable.not_not.1 h0)
      refine ⟨fun x hx => ?_, List.pairwise_cons.2 ⟨fun x hx => i3 z rfl x hx, i2⟩, fun y hy x hx => ?_⟩
      · rcases List.mem_cons.1 hx with rfl | hx
        · exact h1.1
        · exact i1 x hx
      · subst hy
        have h2 : y.to ≤ z.from_ := by
          have h5 := h1.2
          unfold ordL at h5
          simp at h5
          exact h5
        rcases List.mem_cons.1 hx with rfl | hx
        · exact h2
        · have := i3 z rfl x hx; have := h1.1.lt; omega
theorem laps_to {sp : Int} : ∀ {ls : List LapR} {p : Option LapR}, (∀ x ∈ ls, LapP sp x) → ls.Pairwise (fun x y => x.to ≤ y.from_) → (∀ y, p = some y → ∀ x ∈ ls, y.to ≤ x.from_) → chkE (fL sp) p ls = 0
  | [], p, _, _, _ => rfl
  | z :: r, p, h1, h2, h3 => by
    have hp := List.pairwise_cons.1 h2
    have hz : fL sp p z = 0 := fL_iff.2 ⟨h1 z (List.mem_cons_self ..), by
      cases p with
      | none => simp [ordL]
      | some y =>
        have := h3 y rfl z (List.mem_cons_self ..)
        simp [ordL]; omega⟩
    rw [chkE_cons, if_neg (by rw [hz]; simp)]
    exact laps_to (fun x hx => h1 x (List.mem_cons_of_mem _ hx)) hp.2 (fun y hy x hx => by cases hy; exact hp.1 x hx)
theorem lapAt_mono {b sp m n : Int} (h : m ≤ n) : lapAt b sp m ≤ lapAt b sp n := by unfold lapAt; omega
theorem backL_ok {sp b sp' : Int} {ls : List LapR} (h0 : 0 ≤ sp') (h1 : ∀ x ∈ ls, LapP sp x) (h2 : ls.Pairwise (fun x y => x.to ≤ y.from_)) : (∀ x ∈ backL b sp' ls, LapP sp' x) ∧ (backL b sp' ls).Pairwise (fun x y => x.to ≤ y.from_) := by
  constructor
  · intro x hx
    unfold backL at hx
    obtain ⟨hm, hf⟩ := List.mem_filter.1 hx
    obtain ⟨y, hy, rfl⟩ := List.mem_map.1 hm
    have hlt := of_decide_eq_true hf
    have := h1 y hy
    refine ⟨?_, hlt, ?_, this.nm⟩
    · show 0 ≤ lapAt b sp' y.from_; unfold lapAt; omega
    · show lapAt b sp' y.to ≤ sp'; unfold lapAt; omega
  · unfold backL
    refine List.Pairwise.filter _ ?_
    rw [List.pairwise_map]
    exact h2.imp fun {x y} h => lapAt_mono h
theorem backL_count {t sp sp1 sp2 : Int} (e1 : sp1 = t) (e2 : sp2 = sp - t) : ∀ {ls : List LapR}, (∀ x ∈ ls, LapP sp x) → ls.Pairwise (fun x y => x.to ≤ y.from_) → (backL 0 sp1 ls).length + (backL t sp2 ls).length ≤ ls.length + 1
  | [], _, _ => Nat.zero_le _
  | z :: r, h1, h2 => by
    have hp := List.pairwise_cons.1 h2
    have hz := h1 z (List.mem_cons_self ..)
    have ih := backL_count e1 e2 (ls := r) (fun x hx => h1 x (List.mem_cons_of_mem _ hx)) hp.2
    have c1 : ∀ b s, (backL b s (z :: r)).length = (backL b s r).length + if lapAt b s z.from_ < lapAt b s z.to then 1 else 0 := fun b s => by
      unfold backL
      rw [List.map_cons, List.filter_cons]
      by_cases hc : lapAt b s z.from_ < lapAt b s z.to
      · rw [if_pos (by exact decide_eq_true hc), if_pos hc]; rfl
      · rw [if_neg (by intro hd; exact hc (of_decide_eq_true hd)), if_neg hc]; rfl
    rw [c1, c1, List.length_cons]
    by_cases ht : z.to ≤ t
    · have n2 : ¬lapAt t sp2 z.from_ < lapAt t sp2 z.to := by have := hz.lt; unfold lapAt; omega
      rw [if_neg n2]
      split <;> omega
    · have e0 : backL 0 sp1 r = [] := by
        unfold backL
        rw [List.filter_eq_nil_iff]
        intro x hx
        obtain ⟨y, hy, rfl⟩ := List.mem_map.1 hx
        have h3 := hp.1 y hy
        have h4 := (h1 y (List.mem_cons_of_mem _ hy)).lt
        have n3 : ¬lapAt 0 sp1 y.from_ < lapAt 0 sp1 y.to := by unfold lapAt; omega
        intro hd
        exact n3 (of_decide_eq_true hd)
      have hle := backL_len t sp2 r
      rw [e0, List.length_nil]
      split <;> split <;> omega
/-! #### names -/
theorem tagR_self : ∀ l : List ByteArray, tagR l l = l
  | [] => tagR_nil []
  | x :: l => by
    have h1 : ¬sLt x x = true := fun h => List.lt_irrefl _ (sLt_iff.1 h)
    rw [tagR_e h1 (sEq_iff.2 rfl), tagR_self l]
/-! #### both parts -/
structure CutW (a : ActD) (n : Nat) (p : SmpR) : Prop where
  good : GoodA a
  p : a.ss[n]? = some p
  lo : 1 ≤ n
  hi : n + 1 < a.ss.length
  laps : a.ls.length < 200
def xD (a : ActD) (n : Nat) : ActD := partD a (pcS a.ss 0 (n + 1)) 0
def yD (a : ActD) (n : Nat) (t : Int) : ActD := partD a (pcS a.ss n (a.ss.length - n)) t
section
variable {a : ActD} {n : Nat} {p : SmpR}
theorem CutW.first (h : CutW a n p) : ∃ f, a.ss[0]? = some f ∧ f.at_ = 0 := by
  have hl := h.hi
  have hx := List.getElem?_eq_getElem (l := a.ss) (i := 0) (by omega)
  exact ⟨_, hx, h.good.smp.first _ hx⟩
theorem CutW.last (h : CutW a n p) : ∃ l, a.ss[a.ss.length - 1]? = some l ∧ l.at_ = spanL a.ss := by
  have hl := h.hi
  have hx := List.getElem?_eq_getElem (l := a.ss) (i := a.ss.length - 1) (by omega)
  exact ⟨_, hx, (spanL_get hx (by omega)).symm⟩
theorem CutW.t (h : CutW a n p) : 0 < p.at_ ∧ p.at_ < spanL a.ss := by
  obtain ⟨f, hf, hf0⟩ := h.first
  obtain ⟨l, hl, hl0⟩ := h.last
  have h1 := upT h.good.smp (show 0 < n by have := h.lo; omega) hf h.p
  have h2 := upT h.good.smp (show n < a.ss.length - 1 by have := h.hi; omega) h.p hl
  omega
theorem part_good {l : List SmpR} {b : Int} (hg : GoodA a) (hs : SmpOk (a.start + b) (backS b l)) (h0 : 0 ≤ spanL (backS b l)) (hb : 0 ≤ a.start + b ∧ a.start + b ≤ 86399999999) : GoodA (partD a l b) := by
  have hL := laps_of hg.l
  have hB := backL_ok (b := b) h0 hL.1 hL.2.1
  refine ⟨⟨hg.head.1, hg.head.2.1, inB_iff.2 hb, hs.len, ?_, hg.head.2.2.2.2.2⟩, smp_chkT hs, laps_to hB.1 hB.2 (fun y h => by cases h), hg.t⟩
  have h1 := backL_len b (spanL (backS b l)) a.ls
  have h2 := hg.head.2.2.2.2.1
  show (backL b (spanL (backS b l)) a.ls).length ≤ 200
  omega
theorem back_zero (l : List SmpR) : backS 0 l = l := by
  unfold backS
  have : (SmpR.back 0) = _root_.id := by funext x; unfold SmpR.back; simp
  rw [this, List.map_id]
theorem CutW.xgood (h : CutW a n p) : GoodA (xD a n) ∧ spanL (xD a n).ss = p.at_ := by
  obtain ⟨f, hf, hf0⟩ := h.first
  have hst := inB_iff.1 h.good.head.2.2.1
  have hsp := pc_span (x := f) (ss := a.ss) (i := 0) (m := n) (by have := h.hi; omega) (by rw [Nat.zero_add]; exact h.p)
  have hok := pc_ok h.good.smp hf (m := n + 1) (by have := h.hi; omega)
  rw [hf0] at hsp hok
  have ht := h.t
  refine ⟨part_good h.good hok (by omega) (by omega), ?_⟩
  show spanL (backS 0 (pcS a.ss 0 (n + 1))) = _
  omega
theorem CutW.ygood (h : CutW a n p) : GoodA (yD a n p.at_) ∧ spanL (yD a n p.at_).ss = spanL a.ss - p.at_ := by
  obtain ⟨l, hl, hl0⟩ := h.last
  have hst := inB_iff.1 h.good.head.2.2.1
  have hn := h.hi
  have hsp := pc_span (x := p) (ss := a.ss) (i := n) (m := a.ss.length - n - 1) (by omega) (by rw [show n + (a.ss.length - n - 1) = a.ss.length - 1 by omega]; exact hl)
  rw [show a.ss.length - n - 1 + 1 = a.ss.length - n by omega] at hsp
  have hok := pc_ok h.good.smp h.p (m := a.ss.length - n) (by omega)
  have ht := h.t
  have hb := h.good.smp.bd p (List.mem_of_getElem? h.p)
  refine ⟨part_good h.good hok (by omega) (by omega), ?_⟩
  show spanL (backS p.at_ (pcS a.ss n (a.ss.length - n))) = _
  omega
theorem CutW.cutx (h : CutW a n p) : cutR a 0 p.at_ = (xD a n, 0) := by
  obtain ⟨f, hf, hf0⟩ := h.first
  have ht := h.t
  have hn := h.lo
  rw [cutR_0 h.good.chk (by have := h.hi; omega) (by omega)]
  have e := cut_pc h.good.smp (show 0 < n by omega) hf h.p
  rw [hf0, Nat.sub_zero] at e
  rw [e]
  exact partR_0 (by rw [show partD a (pcS a.ss 0 (n + 1)) 0 = xD a n from rfl, h.xgood.1.chk]; simp)
theorem CutW.cuty (h : CutW a n p) : cutR a p.at_ (spanL a.ss) = (yD a n p.at_, 0) := by
  obtain ⟨l, hl, hl0⟩ := h.last
  have ht := h.t
  have hn := h.hi
  rw [cutR_0 h.good.chk (by omega) (by omega)]
  have e := cut_pc h.good.smp (show n < a.ss.length - 1 by omega) h.p hl
  rw [hl0, show a.ss.length - 1 - n + 1 = a.ss.length - n by omega] at e
  rw [e]
  exact partR_0 (by rw [show partD a (pcS a.ss n (a.ss.length - n)) p.at_ = yD a n p.at_ from rfl, h.ygood.1.chk]; simp)
theorem joinK_tail {az bs : List SmpR} {b : Int} (hb : ∀ s, bs[0]? = some s → ¬(az.length = 0 ∨ spanL az < s.at_ + b)) : ∀ k, k ≤ bs.length → joinK az bs b k = az ++ ((bs.take k).drop 1).map (SmpR.fwd b)
  | 0, _ => by simp [joinK]
  | k + 1, hk => by
    have hx := List.getElem?_eq_getElem (l := bs) (i := k) (by omega)
    by_cases h0 : k = 0
    · subst h0
      rw [joinK_no hx (by have := hb _ hx; rintro (h | h); · omega
                          · exact this h)]
      rw [show joinK az bs b 0 = az from rfl]
      rw [take_succ_get hx]; simp
    · rw [joinK_yes hx (.inl (by omega)), joinK_tail hb k (by omega), take_succ_get hx, List.drop_append_of_le_length (by rw [List.length_take]; omega), List.map_append, List.append_assoc]
      rfl
theorem CutW.joinss (h : CutW a n p) : joinK (xD a n).ss (yD a n p.at_).ss ((yD a n p.at_).start - (xD a n).start) (yD a n p.at_).ss.length = a.ss := by
  have hb : (yD a n p.at_).start - (xD a n).start = p.at_ := by show a.start + p.at_ - (a.start + 0) = p.at_; omega
  have hn := h.hi
  have hy0 : (yD a n p.at_).ss = backS p.at_ (pcS a.ss n (a.ss.length - n)) := rfl
  have hx0 : (xD a n).ss = pcS a.ss 0 (n + 1) := back_zero _
  have hxs := h.xgood.2
  rw [hb, joinK_tail (fun s hs => ?_) _ (Nat.le_refl _), List.take_length, hx0, hy0]
  · unfold backS pcS
    rw [List.drop_zero, ← List.map_drop, List.map_map]
    have e1 : (SmpR.fwd p.at_ ∘ SmpR.back p.at_) = _root_.id := by funext z; unfold SmpR.fwd SmpR.back; simp
    have e2 : (a.ss.drop n).take (a.ss.length - n) = a.ss.drop n := List.take_of_length_le (by rw [List.length_drop]; exact Nat.le_refl _)
    rw [e1, List.map_id, e2, List.drop_drop, List.take_append_drop]
  · obtain ⟨z, hz, rfl⟩ := backS_get (show (backS p.at_ (pcS a.ss n (a.ss.length - n)))[0]? = some s from hs)
    have h1 := (pcS_get hz).1
    rw [Nat.add_zero, h.p] at h1
    cases h1
    rintro (h2 | h2)
    · rw [hx0, pcS_len (by omega)] at h2; omega
    · rw [hxs] at h2
      have : (p.back p.at_).at_ = p.at_ - p.at_ := rfl
      omega
theorem CutW.join (h : CutW a n p) : ∃ d, joinR (xD a n) (yD a n p.at_) = (d, 0) ∧ d.start = a.start ∧ d.ss = a.ss ∧ d.ts = a.ts := by
  have hx := h.xgood
  have hy := h.ygood
  have ht := h.t
  have hb : (yD a n p.at_).start - (xD a n).start = p.at_ := by show a.start + p.at_ - (a.start + 0) = p.at_; omega
  have hss := h.joinss
  have hD : joinD (xD a n) (yD a n p.at_) = ⟨a.name, a.sport, a.start, a.ss, (xD a n).ls ++ fwdL p.at_ (yD a n p.at_).ls, a.ts⟩ := by
    unfold joinD
    rw [hss, hb]
    congr 1
    · show a.start + 0 = a.start; omega
    · exact tagR_self a.ts
  have hL := laps_of h.good.l
  have hcnt := backL_count (t := p.at_) (sp := spanL a.ss) hx.2 hy.2 hL.1 hL.2.1
  have hll : ((xD a n).ls ++ fwdL p.at_ (yD a n p.at_).ls).length ≤ 200 := by
    rw [List.length_append]
    unfold fwdL
    rw [List.length_map]
    have h1 : (xD a n).ls.length = (backL 0 (spanL (xD a n).ss) a.ls).length := rfl
    have h2 : (yD a n p.at_).ls.length = (backL p.at_ (spanL (yD a n p.at_).ss) a.ls).length := rfl
    have := h.laps
    omega
  have hxl := laps_of hx.1.l
  have hyl := laps_of hy.1.l
  have hgood : GoodA (joinD (xD a n) (yD a n p.at_)) := by
    rw [hD]
    refine ⟨⟨h.good.head.1, h.good.head.2.1, h.good.head.2.2.1, h.good.head.2.2.2.1, hll, h.good.head.2.2.2.2.2⟩, h.good.s, laps_to ?_ ?_ (fun y h => by cases h), h.good.t⟩
    · intro z hz
      rcases List.mem_append.1 hz with h1 | h1
      · have h2 := hxl.1 z h1
        refine ⟨h2.lo, h2.lt, ?_, h2.nm⟩
        have := h2.hi
        rw [hx.2] at this
        show z.to ≤ spanL a.ss
        omega
      · obtain ⟨y, hy1, rfl⟩ := List.mem_map.1 h1
        have h2 := hyl.1 y hy1
        have h3 := h2.lo
        have h4 := h2.lt
        have h5 := h2.hi
        rw [hy.2] at h5
        refine ⟨?_, ?_, ?_, h2.nm⟩
        · show 0 ≤ y.from_ + p.at_; omega
        · show y.from_ + p.at_ < y.to + p.at_; omega
        · show y.to + p.at_ ≤ spanL a.ss; omega
    · rw [List.pairwise_append]
      refine ⟨hxl.2.1, ?_, fun u hu z hz => ?_⟩
      · unfold fwdL
        rw [List.pairwise_map]
        exact hyl.2.1.imp fun {u z} h => by show u.to + p.at_ ≤ z.from_ + p.at_; omega
      · obtain ⟨y, hy1, rfl⟩ := List.mem_map.1 hz
        have h2 := (hxl.1 u hu).hi
        rw [hx.2] at h2
        have h3 := (hyl.1 y hy1).lo
        show u.to ≤ y.from_ + p.at_
        omega
  refine ⟨joinD (xD a n) (yD a n p.at_), ?_, by rw [hD], by rw [hD], by rw [hD]⟩
  have hsp : ¬(xD a n).sport ≠ (yD a n p.at_).sport := fun h => h rfl
  rw [joinR_d (by rw [hx.1.chk]; simp) (by rw [hy.1.chk]; simp) hsp (by rw [hb, hx.2]; omega), if_neg, if_neg (by rw [hgood.chk]; simp)]
  have h1 := hgood.head
  obtain ⟨_, _, _, g4, g5, g6⟩ := h1
  omega
end
/-! #### steps of the parts -/
theorem steps_drop (ss : List SmpR) (n : Nat) : stepsL (ss.drop n) = (stepsL ss).drop n := by
  apply List.ext_getElem?
  intro k
  rw [List.getElem?_drop]
  cases hp : (stepsL ss)[n + k]? with
  | some x =>
    have h := stepsL_inv hp
    exact stepsL_get (by rw [List.getElem?_drop]; exact h.1) (by rw [List.getElem?_drop, show n + (k + 1) = n + k + 1 by omega]; exact h.2)
  | none =>
    have h := List.getElem?_eq_none_iff.1 hp
    rw [stepsL_len] at h
    rw [List.getElem?_eq_none]
    rw [stepsL_len, List.length_drop]; omega
theorem steps_take (ss : List SmpR) (n : Nat) : stepsL (ss.take (n + 1)) = (stepsL ss).take n := by
  apply List.ext_getElem?
  intro k
  rw [List.getElem?_take]
  by_cases hk : k < n
  · rw [if_pos hk]
    cases hp : (stepsL ss)[k]? with
    | some x =>
      have h := stepsL_inv hp
      exact stepsL_get (by rw [List.getElem?_take, if_pos (by omega)]; exact h.1) (by rw [List.getElem?_take, if_pos (by omega)]; exact h.2)
    | none =>
      have h := List.getElem?_eq_none_iff.1 hp
      rw [stepsL_len] at h
      rw [List.getElem?_eq_none]
      rw [stepsL_len, List.length_take]; omega
  · rw [if_neg hk, List.getElem?_eq_none]
    rw [stepsL_len, List.length_take]; omega
def bk2 (b : Int) (x : SmpR × SmpR) : SmpR × SmpR := (x.1.back b, x.2.back b)
theorem steps_back (b : Int) (l : List SmpR) : stepsL (backS b l) = (stepsL l).map (bk2 b) := by
  apply List.ext_getElem?
  intro k
  rw [List.getElem?_map]
  cases hp : (stepsL l)[k]? with
  | some x =>
    have h := stepsL_inv hp
    refine stepsL_get (x := x.1.back b) (y := x.2.back b) ?_ ?_
    · unfold backS; rw [List.getElem?_map, h.1]; rfl
    · unfold backS; rw [List.getElem?_map, h.2]; rfl
  | none =>
    have h := List.getElem?_eq_none_iff.1 hp
    rw [stepsL_len] at h
    rw [List.getElem?_eq_none]; rfl
    rw [stepsL_len]; unfold backS; rw [List.length_map]; exact h
end Go.Proofs.Ytfbmkepogcimlaa

/-
  Streams, windows, the best window, the shortest: plain functions, of no program.
-/

namespace Go.Proofs.Ytfbmkepogcimlaa
def pv (x : Int) : Int := if x < 0 then 0 else x
def nv (x : Int) : Int := if x < 0 then 1 else 0
theorem pv_neg {x : Int} (h : x < 0) : pv x = 0 := if_pos h
theorem pv_nn {x : Int} (h : ¬x < 0) : pv x = x := if_neg h
theorem nv_neg {x : Int} (h : x < 0) : nv x = 1 := if_pos h
theorem nv_nn {x : Int} (h : ¬x < 0) : nv x = 0 := if_neg h
def streamR (xs : List Int) : Int := if 1000000 < xs.length then 3 else if xs.all (inB · (-1) 1000000000) = true then 0 else 9
theorem streamR_big {xs : List Int} (h : 1000000 < xs.length) : streamR xs = 3 := if_pos h
theorem streamR_bad {xs : List Int} (h : ¬1000000 < xs.length) (h2 : xs.all (inB · (-1) 1000000000) = false) : streamR xs = 9 := by unfold streamR; rw [if_neg h, if_neg (by rw [h2]; simp)]
theorem streamR_good {xs : List Int} (h : ¬1000000 < xs.length) (h2 : xs.all (inB · (-1) 1000000000) = true) : streamR xs = 0 := by unfold streamR; rw [if_neg h, if_pos h2]
theorem streamR_ok {xs : List Int} (h : streamR xs = 0) : xs.length ≤ 1000000 ∧ ∀ x ∈ xs, -1 ≤ x ∧ x ≤ 1000000000 := by
  unfold streamR at h
  by_cases h1 : 1000000 < xs.length
  · rw [if_pos h1] at h; omega
  · rw [if_neg h1] at h
    by_cases h2 : xs.all (inB · (-1) 1000000000) = true
    · exact ⟨by omega, fun x hx => inB_iff.1 (List.all_eq_true.1 h2 x hx)⟩
    · rw [if_neg h2] at h; omega
/-- The sum of the first k, and how many of them are unknown. -/
def pS (xs : List Int) (k : Nat) : Int := sI pv (xs.take k)
def pU (xs : List Int) (k : Nat) : Int := sI nv (xs.take k)
theorem pS_succ {xs : List Int} {k : Nat} {x : Int} (h : xs[k]? = some x) : pS xs (k + 1) = pS xs k + pv x := sI_take pv h
theorem pU_succ {xs : List Int} {k : Nat} {x : Int} (h : xs[k]? = some x) : pU xs (k + 1) = pU xs k + nv x := sI_take nv h
theorem pS_zero (xs : List Int) : pS xs 0 = 0 := by simp [pS, sI]
theorem pU_zero (xs : List Int) : pU xs 0 = 0 := by simp [pU, sI]
theorem pv_bd {x : Int} (h : x ≤ 1000000000) : 0 ≤ pv x ∧ pv x ≤ 1000000000 := by unfold pv; split <;> omega
theorem nv_bd (x : Int) : 0 ≤ nv x ∧ nv x ≤ 1 := by unfold nv; split <;> omega
theorem pS_mono {xs : List Int} : ∀ {j k : Nat}, j ≤ k → pS xs j ≤ pS xs k := by
  intro j k h
  induction k with
  | zero => have : j = 0 := by omega
            subst this; exact Int.le_refl _
  | succ k ih =>
    by_cases hj : j = k + 1
    · subst hj; exact Int.le_refl _
    · have := ih (by omega)
      cases hx : xs[k]? with
      | none =>
        have : pS xs (k + 1) = pS xs k := by unfold pS; rw [List.take_of_length_le (by have := List.getElem?_eq_none_iff.1 hx; omega), List.take_of_length_le (by have := List.getElem?_eq_none_iff.1 hx; omega)]
        omega
      | some x => have := pS_succ hx; have h2 : 0 ≤ pv x := by unfold pv; split <;> omega
                  omega
theorem pU_mono {xs : List Int} : ∀ {j k : Nat}, j ≤ k → pU xs j ≤ pU xs k := by
  intro j k h
  induction k with
  | zero => have : j = 0 := by omega
            subst this; exact Int.le_refl _
  | succ k ih =>
    by_cases hj : j = k + 1
    · subst hj; exact Int.le_refl _
    · have := ih (by omega)
      cases hx : xs[k]? with
      | none =>
        have : pU xs (k + 1) = pU xs k := by unfold pU; rw [List.take_of_length_le (by have := List.getElem?_eq_none_iff.1 hx; omega), List.take_of_length_le (by have := List.getElem?_eq_none_iff.1 hx; omega)]
        omega
      | some x => have := pU_succ hx; have h2 := nv_bd x
                  omega
theorem pS_bd {xs : List Int} (hl : xs.length ≤ 1000000) (h : ∀ x ∈ xs, -1 ≤ x ∧ x ≤ 1000000000) (k : Nat) : 0 ≤ pS xs k ∧ pS xs k ≤ 1000000000000000 := by
  have := sI_bd pv 1000000000 (by omega) (xs.take k) (fun x hx => pv_bd (h x (List.mem_of_mem_take hx)).2)
  have h2 : (xs.take k).length ≤ 1000000 := by rw [List.length_take]; omega
  unfold pS; omega
theorem pU_bd {xs : List Int} (hl : xs.length ≤ 1000000) (k : Nat) : 0 ≤ pU xs k ∧ pU xs k ≤ 1000000 := by
  have := sI_bd nv 1 (by omega) (xs.take k) (fun x hx => nv_bd x)
  have h2 : (xs.take k).length ≤ 1000000 := by rw [List.length_take]; omega
  unfold pU; omega
/-! #### the best window -/
structure BestS where
  sum : Int
  at_ : Int
  found : Bool
def bstep (st : BestS) (f s : Int) : BestS := if (!st.found || decide (st.sum < s)) = true then ⟨s, f, true⟩ else st
def bW (xs : List Int) (z : Nat) (st : BestS) (f : Nat) : BestS := if pU xs (f + z) = pU xs f then bstep st f (pS xs (f + z) - pS xs f) else st
/-- The best of the first m windows of z seconds. -/
def bestN (xs : List Int) (z m : Nat) : BestS := (List.range m).foldl (bW xs z) ⟨0, 0, false⟩
theorem bestN_succ (xs : List Int) (z m : Nat) : bestN xs z (m + 1) = bW xs z (bestN xs z m) m := by unfold bestN; rw [List.range_succ, List.foldl_append]; rfl
theorem bestN_zero (xs : List Int) (z : Nat) : bestN xs z 0 = ⟨0, 0, false⟩ := rfl
/-- What the windows up to the k-th second left. -/
def bestK (xs : List Int) (z k : Nat) : BestS := bestN xs z (k + 1 - z)
theorem bestK_less {xs : List Int} {z k : Nat} (h : k + 1 < z) : bestK xs z (k + 1) = bestK xs z k := by unfold bestK; rw [show k + 1 + 1 - z = 0 by omega, show k + 1 - z = 0 by omega]
theorem bestK_step {xs : List Int} {z k : Nat} (h : z ≤ k + 1) : bestK xs z (k + 1) = bW xs z (bestK xs z k) (k + 1 - z) := by unfold bestK; rw [show k + 1 + 1 - z = (k + 1 - z) + 1 by omega, bestN_succ]
theorem bestK_known {xs : List Int} {z k : Nat} (h : z ≤ k + 1) (hu : pU xs (k + 1) = pU xs (k + 1 - z)) : bestK xs z (k + 1) = bstep (bestK xs z k) ((k + 1 - z : Nat) : Int) (pS xs (k + 1) - pS xs (k + 1 - z)) := by
  rw [bestK_step h]; unfold bW; rw [show k + 1 - z + z = k + 1 by omega, if_pos hu]
theorem bestK_unknown {xs : List Int} {z k : Nat} (h : z ≤ k + 1) (hu : ¬pU xs (k + 1) = pU xs (k + 1 - z)) : bestK xs z (k + 1) = bestK xs z k := by
  rw [bestK_step h]; unfold bW; rw [show k + 1 - z + z = k + 1 by omega, if_neg hu]
/-- The best window's law: it is a window, and none is better, and none as good comes ahead of it. -/
structure BestLaw (xs : List Int) (z m : Nat) (b : BestS) : Prop where
  none : b.found = false → b.sum = 0 ∧ b.at_ = 0 ∧ ∀ f, f < m → pU xs (f + z) ≠ pU xs f
  some : b.found = true → ∃ g : Nat, b.at_ = g ∧ g < m ∧ pU xs (g + z) = pU xs g ∧ b.sum = pS xs (g + z) - pS xs g ∧ ∀ f, f < m → pU xs (f + z) = pU xs f → pS xs (f + z) - pS xs f ≤ b.sum ∧ (pS xs (f + z) - pS xs f = b.sum → g ≤ f)
theorem best_law (xs : List Int) (z : Nat) : ∀ m, BestLaw xs z m (bestN xs z m)
  | 0 => ⟨fun _ => ⟨rfl, rfl, fun f hf => by omega⟩, fun h => by simp [bestN_zero] at h⟩
  | m + 1 => by
    have ih := best_law xs z m
    rw [bestN_succ]
    generalize bestN xs z m = b at ih
    unfold bW
    by_cases hu : pU xs (m + z) = pU xs m
    · rw [if_pos hu]
      unfold bstep
      by_cases hc : (!b.found || decide (b.sum < pS xs (m + z) - pS xs m)) = true
      · rw [if_pos hc]
        refine ⟨fun h => by simp at h, fun _ => ⟨m, rfl, by omega, hu, rfl, fun f hf hfu => ?_⟩⟩
        dsimp only
        by_cases hfm : f = m
        · subst hfm; exact ⟨Int.le_refl _, fun _ => Nat.le_refl _⟩
        · cases hb : b.found with
          | false => exact absurd hfu ((ih.none hb).2.2 f (by omega))
          | true =>
            obtain ⟨g, _, _, _, _, h5⟩ := ih.some hb
            have := (h5 f (by omega) hfu).1
            simp [hb] at hc
            omega
      · rw [if_neg hc]
        simp at hc
        refine ⟨fun h => by simp [hc.1] at h, fun h => ?_⟩
        obtain ⟨g, h1, h2, h3, h4, h5⟩ := ih.some h
        refine ⟨g, h1, by omega, h3, h4, fun f hf hfu => ?_⟩
        by_cases hfm : f = m
        · subst hfm; exact ⟨by omega, fun _ => by omega⟩
        · exact h5 f (by omega) hfu
    · rw [if_neg hu]
      refine ⟨fun h => ?_, fun h => ?_⟩
      · obtain ⟨h1, h2, h3⟩ := ih.none h
        refine ⟨h1, h2, fun f hf => ?_⟩
        by_cases hfm : f = m
        · subst hfm; exact hu
        · exact h3 f (by omega)
      · obtain ⟨g, h1, h2, h3, h4, h5⟩ := ih.some h
        refine ⟨g, h1, by omega, h3, h4, fun f hf hfu => ?_⟩
        by_cases hfm : f = m
        · subst hfm; exact absurd hfu hu
        · exact h5 f (by omega) hfu
end Go.Proofs.Ytfbmkepogcimlaa

/-
  Streams of an activity. No program stands here.
-/


namespace Go.Proofs.Ytfbmkepogcimlaa
set_option linter.unusedVariables false
def valV (kind : Int) (p q : SmpR) : Int := if kind = 1 then p.pulse else if kind = 2 then p.power else if kind = 3 then p.steps else 0
noncomputable def lenV (kind : Int) (p q : SmpR) : Int := if kind = 4 then lenD p q else if kind = 5 then max (q.z - p.z) 0 else 0
noncomputable def elV (kind : Int) (p q : SmpR) (j : Nat) : Int :=
  if 60 < q.at_ - p.at_ then (if 4 ≤ kind then 0 else -1) else if 4 ≤ kind then (lenV kind p q * ((j : Int) + 1)) / (q.at_ - p.at_) - (lenV kind p q * j) / (q.at_ - p.at_) else valV kind p q
theorem elV_big {kind : Int} {p q : SmpR} {j : Nat} (h : 60 < q.at_ - p.at_) (h2 : 4 ≤ kind) : elV kind p q j = 0 := by unfold elV; rw [if_pos h, if_pos h2]
theorem elV_gap {kind : Int} {p q : SmpR} {j : Nat} (h : 60 < q.at_ - p.at_) (h2 : ¬4 ≤ kind) : elV kind p q j = -1 := by unfold elV; rw [if_pos h, if_neg h2]
theorem elV_len {kind : Int} {p q : SmpR} {j : Nat} (h : ¬60 < q.at_ - p.at_) (h2 : 4 ≤ kind) : elV kind p q j = (lenV kind p q * ((j : Int) + 1)) / (q.at_ - p.at_) - (lenV kind p q * j) / (q.at_ - p.at_) := by unfold elV; rw [if_neg h, if_pos h2]
theorem elV_val {kind : Int} {p q : SmpR} {j : Nat} (h : ¬60 < q.at_ - p.at_) (h2 : ¬4 ≤ kind) : elV kind p q j = valV kind p q := by unfold elV; rw [if_neg h, if_neg h2]
noncomputable def stepV (kind : Int) (p q : SmpR) : List Int := (List.range (q.at_ - p.at_).toNat).map (elV kind p q)
theorem stepV_len (kind : Int) (p q : SmpR) : (stepV kind p q).length = (q.at_ - p.at_).toNat := by simp [stepV]
theorem stepV_get {kind : Int} {p q : SmpR} {j : Nat} (h : (j : Int) < q.at_ - p.at_) : (stepV kind p q)[j]? = some (elV kind p q j) := by
  unfold stepV
  rw [List.getElem?_map, List.getElem?_range (by omega)]; rfl
noncomputable def strmL (kind : Int) (ss : List SmpR) (k : Nat) : List Int := ((stepsL ss).take k).flatMap fun x => stepV kind x.1 x.2
theorem strmL_zero (kind : Int) (ss : List SmpR) : strmL kind ss 0 = [] := rfl
theorem strmL_succ {kind : Int} {ss : List SmpR} {k : Nat} {x : SmpR × SmpR} (hx : (stepsL ss)[k]? = some x) : strmL kind ss (k + 1) = strmL kind ss k ++ stepV kind x.1 x.2 := by
  unfold strmL; rw [take_succ_get hx, List.flatMap_append]; simp
theorem strmL_len {st : Int} {ss : List SmpR} (h : SmpOk st ss) (kind : Int) : ∀ (k : Nat) (x : SmpR), ss[k]? = some x → ((strmL kind ss k).length : Int) = x.at_
  | 0, x, hx => by rw [h.first x hx]; rfl
  | k + 1, x, hx => by
    have hlt : k < ss.length := by have := (List.getElem?_eq_some_iff.1 hx).1; omega
    have hk : ss[k]? = some ss[k] := List.getElem?_eq_getElem hlt
    have h1 := strmL_len h kind k _ hk
    have h2 := h.rise k _ _ hk hx
    rw [strmL_succ (stepsL_get hk hx), List.length_append, stepV_len]
    dsimp only
    omega
noncomputable def streamsR (a : ActD) (kind : Int) : List Int × Int := if chkA a ≠ 0 then ([], chkA a) else if ¬(1 ≤ kind ∧ kind ≤ 5) then ([], 7) else (strmL kind a.ss (a.ss.length - 1), 0)
theorem streamsR_e {a : ActD} {k : Int} (h : chkA a ≠ 0) : streamsR a k = ([], chkA a) := if_pos h
theorem streamsR_7 {a : ActD} {k : Int} (h : chkA a = 0) (h1 : ¬(1 ≤ k ∧ k ≤ 5)) : streamsR a k = ([], 7) := by unfold streamsR; rw [if_neg (by simp [h]), if_pos h1]
theorem streamsR_0 {a : ActD} {k : Int} (h : chkA a = 0) (h1 : 1 ≤ k ∧ k ≤ 5) : streamsR a k = (strmL k a.ss (a.ss.length - 1), 0) := by unfold streamsR; rw [if_neg (by simp [h]), if_neg (fun h2 => h2 h1)]
theorem spread_bd {v n : Int} {j : Nat} (hv : 0 ≤ v) (hn : (j : Int) < n) : 0 ≤ v * ((j : Int) + 1) / n - v * j / n ∧ v * ((j : Int) + 1) / n ≤ v ∧ 0 ≤ v * j / n := by
  have h1 : v * (j : Int) ≤ v * ((j : Int) + 1) := Int.mul_le_mul_of_nonneg_left (by omega) hv
  have h2 : v * (j : Int) / n ≤ v * ((j : Int) + 1) / n := Int.ediv_le_ediv (by omega) h1
  have h3 : v * ((j : Int) + 1) ≤ v * n := Int.mul_le_mul_of_nonneg_left (by omega) hv
  have h4 : v * ((j : Int) + 1) / n ≤ v * n / n := Int.ediv_le_ediv (by omega) h3
  rw [Int.mul_ediv_cancel _ (by omega)] at h4
  have h5 : 0 ≤ v * (j : Int) / n := Int.ediv_nonneg (Int.mul_nonneg hv (by omega)) (by omega)
  omega
theorem lenV_bd {kind : Int} {p q : SmpR} (hp : PlaceOk p) (hq : PlaceOk q) (h1 : -100000 ≤ p.z ∧ p.z ≤ 100000) (h2 : -100000 ≤ q.z ∧ q.z ≤ 100000) : 0 ≤ lenV kind p q ∧ lenV kind p q ≤ 300000000 := by
  have := lenD_bd hp hq
  unfold lenV
  by_cases h4 : kind = 4
  · rw [if_pos h4]; exact this
  · rw [if_neg h4]
    by_cases h5 : kind = 5
    · rw [if_pos h5]; omega
    · rw [if_neg h5]; omega
theorem elV_bd {st : Int} {ss : List SmpR} (h : SmpOk st ss) {kind : Int} {p q : SmpR} (hp : p ∈ ss) (hq : q ∈ ss) {j : Nat} (hj : (j : Int) < q.at_ - p.at_) : -1 ≤ elV kind p q j ∧ elV kind p q j ≤ 1000000000 := by
  have hl := lenV_bd (kind := kind) (h.place hp) (h.place hq) (h.bd p hp).2.2.2.2.2.1 (h.bd q hq).2.2.2.2.2.1
  have hs := spread_bd (j := j) hl.1 hj
  obtain ⟨_, _, _, _, _, _, b1, b2, b3⟩ := h.bd p hp
  have hv : -1 ≤ valV kind p q ∧ valV kind p q ≤ 3000 := by
    unfold valV
    split
    · omega
    · split
      · omega
      · split <;> omega
  by_cases hb : 60 < q.at_ - p.at_
  · by_cases hk : 4 ≤ kind
    · rw [elV_big hb hk]; omega
    · rw [elV_gap hb hk]; omega
  · by_cases hk : 4 ≤ kind
    · rw [elV_len hb hk]; omega
    · rw [elV_val hb hk]; omega
theorem strmL_bd {st : Int} {ss : List SmpR} (h : SmpOk st ss) (kind : Int) (k : Nat) : ∀ x ∈ strmL kind ss k, -1 ≤ x ∧ x ≤ 1000000000 := by
  intro x hx
  unfold strmL at hx
  obtain ⟨y, hy, hx⟩ := List.mem_flatMap.1 hx
  obtain ⟨i, hi⟩ := List.getElem?_of_mem (List.mem_of_mem_take hy)
  have h2 := stepsL_inv hi
  unfold stepV at hx
  obtain ⟨j, hj, rfl⟩ := List.mem_map.1 hx
  rw [List.mem_range] at hj
  exact elV_bd h (List.mem_of_getElem? h2.1) (List.mem_of_getElem? h2.2) (by omega)
end Go.Proofs.Ytfbmkepogcimlaa

/-
  Root, squares, lengths of steps: program and reference.
-/


namespace Go.Proofs.Ytfbmkepogcimlaa
open Go Go.RowKit Hx
set_option linter.unusedVariables false
set_option linter.unusedSimpArgs false
set_option maxRecDepth 8000
theorem wrap_sq {x : Int} (h : 0 ≤ x ∧ x ≤ 18446744073709551615) : IntKind.i64.wrap x = if x ≤ 9223372036854775807 then x else x - 18446744073709551616 := by
  rw [IntKind.wrap_i64]
  split <;> omega
theorem r_mulw {P : Program} {N : Fr} {B : Nat} {w0 : World} {al : AL} {H : HL} {ty : TypeId} {x y : Operand} {t t' : TypeId} {m n : Int} (hx : ev al x = some (.int .i64 m)) (hy : ev al y = some (.int .i64 n)) :
    Runs P N B w0 (.binOp .mul t x y t') ty al H (.int .i64 (IntKind.i64.wrap (m * n))) := fun a w hst => by
  simp [execOp, hst.regs.eval hx, hst.regs.eval hy, eqGuard_mul, binOp_mul, Op.intArith]
theorem quant_Root (n : Int) (w : World) (hn : n ≤ 9223372036854775807) : Calls Try.prog 141 #[.int .i64 n] w fun e w' => e = .returned (.tuple #[.int .i64 (if n < 0 then 0 else rootI n), .int .i64 (if n < 0 then 1 else 0)]) ∧ Below w.heap.size w w' := by
  refine enterQ (N := 29) (C := fun _ => True) (H := []) (B := w.heap.size) (args := [_]) Try.func141 rfl rfl rfl (Nat.le_refl _) (Sat.nil _ _) fun Q hQ => ?_
  refine wp_seq' fun K1 hK1 => ?_
  refine wp_reg ?_
  refine ol_r (r_assign rfl) rfl ?_
  refine ol_r (r_assign rfl) rfl ?_
  refine ol_nil (to_k0 (fun _ _ h => h) (hK1 _ _ _ _ _ ?_))
  clear hK1
  refine wp_seq' fun K2 hK2 => ?_
  refine wp_seq' fun K3 hK3 => ?_
  refine wp_reg ?_
  refine ol_r (r_move rfl) rfl ?_
  refine ol_r (r_lss rfl rfl) rfl ?_
  refine ol_nil (to_k0 (fun _ _ h => h) (hK3 _ _ _ _ _ ?_))
  clear hK3
  refine wp_condD rfl (fun hc8 => ?_) (fun hc8 => ?_)
  ·refine wp_seq' fun K4 hK4 => ?_
   refine wp_reg ?_
   refine ol_r (r_assign rfl) rfl ?_
   refine ol_r (r_assign rfl) rfl ?_
   refine ol_nil (to_k0 (fun _ _ h => h) (hK4 _ _ _ _ _ ?_))
   clear hK4
   refine hQ.ret (rvs2 (rv_t rfl) (rv_t rfl)) (fun _ _ h => h) fun w hb hs hB hkd => ?_
   first
     | (exact ⟨by rw [if_pos hc8, if_pos hc8], hb⟩; done)
  ·refine wp_skip' (to_k0 (fun _ _ h => h) (hK2 _ _ _ _ _ ?_))
   clear hK2
   refine wp_seq' fun K5 hK5 => ?_
   refine wp_reg ?_
   refine ol_r (r_assign rfl) rfl ?_
   refine ol_nil (to_k0 (fun _ _ h => h) (hK5 _ _ _ _ _ ?_))
   clear hK5
   refine wp_seq' fun K6 hK6 => ?_
   refine wp_seq' fun K7 hK7 => ?_
   refine wp_reg ?_
   refine ol_r (r_assign rfl) rfl ?_
   refine ol_nil (to_k0 (fun _ _ h => h) (hK7 _ _ _ _ _ ?_))
   clear hK7
   refine wp_block' ?_
   apply wp_loopM (σ := Int × Int) (fun s => PW s.1 ∧ 0 ≤ s.2 ∧ s.2 * s.2 ≤ n ∧ n < (s.2 + s.1) * (s.2 + s.1) ∧ s.2 + s.1 ≤ 4294967296) (fun s => [(5, .int .i64 (s.1 / 2)), (4, .int .i64 s.2)]) [(0, _), (2, _), (3, _)] (fun s => []) [] (fun s => s.1.toNat) ((4294967296, 0))
   ·try dsimp only
    exact ⟨PW.top, by omega, by omega, by omega, by omega⟩
   ·exact (sub_cons rfl (sub_cons rfl sub_nil))
   ·exact (sub_cons rfl (sub_cons rfl (sub_cons rfl sub_nil)))
   ·exact subH_nil
   ·exact subH_nil
   ·rintro ⟨p, r⟩ ⟨h1, h2, h3, h4, h5⟩
    dsimp only at h1 h2 h3 h4 h5 ⊢
    intro K8 hK8
    refine wp_seq' fun K9 hK9 => ?_
    refine wp_seq' fun K10 hK10 => ?_
    refine wp_reg ?_
    refine ol_r (r_move rfl) rfl ?_
    refine ol_r (r_gtr rfl rfl) rfl ?_
    refine ol_nil (to_k0 (fun _ _ h => h) (hK10 _ _ _ _ _ ?_))
    clear hK10
    refine wp_condD rfl (fun hc10 => ?_) (fun hc10 => ?_)
    ·refine wp_skip' (to_k0 (fun _ _ h => h) (hK9 _ _ _ _ _ ?_))
     clear hK9
     refine wp_seq' fun K11 hK11 => ?_
     refine wp_block' ?_
     refine wp_seq' fun K12 hK12 => ?_
     refine wp_reg ?_
     obtain ⟨q, hq1, rfl, hq2⟩ := h1.half hc10
     have hq3 : 2 * q / 2 = q := by omega
     simp only [hq3]
     refine ol_r (r_move rfl) rfl ?_
     refine ol_r (r_move rfl) rfl ?_
     refine ol_r (r_add rfl rfl (by omega)) rfl ?_
     refine ol_r (r_assign rfl) rfl ?_
     refine ol_nil (to_k0 (fun _ _ h => h) (hK12 _ _ _ _ _ ?_))
     clear hK12
     refine wp_seq' fun K13 hK13 => ?_
     refine wp_reg ?_
     refine ol_r (r_move rfl) rfl ?_
     refine ol_r (r_move rfl) rfl ?_
     refine ol_r (r_mulw rfl rfl) rfl ?_
     refine ol_r (r_gtr rfl rfl) rfl ?_
     refine ol_r (r_move rfl) rfl ?_
     refine ol_split (d := 20) rfl (fun hs20 => ?_) (fun hs20 => ?_)
     ·have phs20 := hs20; try simp only [decide_eq_true_eq, decide_eq_false_iff_not, Bool.not_eq_true', Bool.not_eq_false', Bool.not_true, Bool.not_false] at phs20
      refine ol_g rfl rfl hs20 ?_
      refine ol_r (r_move rfl) rfl ?_
      refine ol_g rfl rfl hs20 ?_
      refine ol_r (r_move rfl) rfl ?_
      refine ol_g rfl rfl hs20 ?_
      refine ol_r (r_move rfl) rfl ?_
      refine ol_g rfl rfl hs20 ?_
      first | refine ol_r (r_quo rfl rfl (by omega)) rfl ?_ | refine ol_r (r_tquo rfl rfl (by omega)) rfl ?_
      refine ol_g rfl rfl hs20 ?_
      refine ol_r (r_leq rfl rfl) rfl ?_
      refine ol_r (r_pickT rfl hs20 rfl) rfl ?_
      refine ol_nil (to_k0 (fun _ _ h => h) (hK13 _ _ _ _ _ ?_))
      clear hK13
      refine wp_condD rfl (fun hc26 => ?_) (fun hc26 => ?_)
      ·refine wp_reg ?_
       refine ol_r (r_move rfl) rfl ?_
       refine ol_r (r_assign rfl) rfl ?_
       refine ol_nil (to_k0 (fun _ _ h => h) (hK11 _ _ _ _ _ ?_))
       clear hK11
       refine wp_reg ?_
       refine ol_r (r_move rfl) rfl ?_
       refine ol_r (r_shr1 rfl rfl) rfl ?_
       refine ol_r (r_assign rfl) rfl ?_
       refine ol_nil (to_k0 (fun _ _ h => h) (hK8 ((q, _)) _ _ ?_ ?_ (sub_cons rfl (sub_cons rfl sub_nil)) (sub_cons rfl (sub_cons rfl (sub_cons rfl sub_nil))) (by exact subH_nil) subH_nil))
       ·try dsimp only
        have ht := mul_bd (a := r + q) (b := r + q) (A := 4294967295) (B := 4294967295) (by omega) (by omega) (by omega) (by omega)
        have hw := wrap_sq (x := (r + q) * (r + q)) (by omega)
        have hd := le_div_sq (n := n) (t := r + q) (by omega)
        have h6 : r + q + q = r + 2 * q := by omega
        first
          | exact ⟨hq1, by omega, hd.1 (by simpa using hc26), by rw [h6]; exact h4, by omega⟩
          | (refine ⟨hq1, h2, h3, ?_, by omega⟩
             apply Decidable.byContradiction
             intro hlt
             have hpos : 0 < (r + q) * (r + q) := Int.mul_pos (by omega) (by omega)
             rw [if_pos (by omega)] at hw
             first
               | (have := hd.2 (by omega)
                  simp at hc26
                  omega)
               | omega)
       ·try dsimp only
        omega
      ·refine wp_skip' (to_k0 (fun _ _ h => h) (hK11 _ _ _ _ _ ?_))
       clear hK11
       refine wp_reg ?_
       refine ol_r (r_move rfl) rfl ?_
       refine ol_r (r_shr1 rfl rfl) rfl ?_
       refine ol_r (r_assign rfl) rfl ?_
       refine ol_nil (to_k0 (fun _ _ h => h) (hK8 ((q, _)) _ _ ?_ ?_ (sub_cons rfl (sub_cons rfl sub_nil)) (sub_cons rfl (sub_cons rfl (sub_cons rfl sub_nil))) (by exact subH_nil) subH_nil))
       ·try dsimp only
        have ht := mul_bd (a := r + q) (b := r + q) (A := 4294967295) (B := 4294967295) (by omega) (by omega) (by omega) (by omega)
        have hw := wrap_sq (x := (r + q) * (r + q)) (by omega)
        have hd := le_div_sq (n := n) (t := r + q) (by omega)
        have h6 : r + q + q = r + 2 * q := by omega
        first
          | exact ⟨hq1, by omega, hd.1 (by simpa using hc26), by rw [h6]; exact h4, by omega⟩
          | (refine ⟨hq1, h2, h3, ?_, by omega⟩
             apply Decidable.byContradiction
             intro hlt
             have hpos : 0 < (r + q) * (r + q) := Int.mul_pos (by omega) (by omega)
             rw [if_pos (by omega)] at hw
             first
               | (have := hd.2 (by omega)
                  simp at hc26
                  omega)
               | omega)
       ·try dsimp only
        omega
     ·have phs20 := hs20; try simp only [decide_eq_true_eq, decide_eq_false_iff_not, Bool.not_eq_true', Bool.not_eq_false', Bool.not_true, Bool.not_false] at phs20
      refine ol_s rfl rfl hs20 rfl ?_
      refine ol_s rfl rfl hs20 rfl ?_
      refine ol_s rfl rfl hs20 rfl ?_
      refine ol_s rfl rfl hs20 rfl ?_
      refine ol_s rfl rfl hs20 rfl ?_
      refine ol_r (r_pickF rfl hs20 rfl) rfl ?_
      refine ol_nil (to_k0 (fun _ _ h => h) (hK13 _ _ _ _ _ ?_))
      clear hK13
      refine wp_condF rfl ?_
      refine wp_skip' (to_k0 (fun _ _ h => h) (hK11 _ _ _ _ _ ?_))
      clear hK11
      refine wp_reg ?_
      refine ol_r (r_move rfl) rfl ?_
      refine ol_r (r_shr1 rfl rfl) rfl ?_
      refine ol_r (r_assign rfl) rfl ?_
      refine ol_nil (to_k0 (fun _ _ h => h) (hK8 ((q, _)) _ _ ?_ ?_ (sub_cons rfl (sub_cons rfl sub_nil)) (sub_cons rfl (sub_cons rfl (sub_cons rfl sub_nil))) (by exact subH_nil) subH_nil))
      ·try dsimp only
       have ht := mul_bd (a := r + q) (b := r + q) (A := 4294967295) (B := 4294967295) (by omega) (by omega) (by omega) (by omega)
       have hw := wrap_sq (x := (r + q) * (r + q)) (by omega)
       have hd := le_div_sq (n := n) (t := r + q) (by omega)
       have h6 : r + q + q = r + 2 * q := by omega
       first
         | exact ⟨hq1, by omega, hd.1 (by simpa using hc26), by rw [h6]; exact h4, by omega⟩
         | (refine ⟨hq1, h2, h3, ?_, by omega⟩
            apply Decidable.byContradiction
            intro hlt
            have hpos : 0 < (r + q) * (r + q) := Int.mul_pos (by omega) (by omega)
            rw [if_pos (by omega)] at hw
            first
              | (have := hd.2 (by omega)
                 simp at hc26
                 omega)
              | omega)
      ·try dsimp only
       omega
    ·refine wp_exit' (to_k0 (fun _ _ h => h) (hK6 _ _ _ _ _ ?_))
     clear hK6
     refine wp_seq' fun K14 hK14 => ?_
     refine wp_reg ?_
     refine ol_r (r_move rfl) rfl ?_
     refine ol_r (r_assign rfl) rfl ?_
     refine ol_r (r_assign rfl) rfl ?_
     refine ol_nil (to_k0 (fun _ _ h => h) (hK14 _ _ _ _ _ ?_))
     clear hK14
     refine hQ.ret (rvs2 (rv_t rfl) (rv_t rfl)) (fun _ _ h => h) fun w hb hs hB hkd => ?_
     first
       | (have hp1 := h1.one hc10
          rw [hp1] at h4
          have hr : IsRoot n r := ⟨h2, h3, h4⟩
          exact ⟨by rw [if_neg (by omega), if_neg (by omega), rootI_eq hr], hb⟩)
theorem track_in (n a b : Int) (w : World) : Calls Try.prog 48 #[.int .i64 n, .int .i64 a, .int .i64 b] w fun e w' => e = .returned (.bool (inB n a b)) ∧ Below w.heap.size w w' := by
  refine enterQ (N := 15) (C := fun _ => True) (H := []) (B := w.heap.size) (args := [_, _, _]) Try.func48 rfl rfl rfl (Nat.le_refl _) (Sat.nil _ _) fun Q hQ => ?_
  refine wp_seq' fun K1 hK1 => ?_
  refine wp_reg ?_
  refine ol_r (r_assign rfl) rfl ?_
  refine ol_nil (to_k0 (fun _ _ h => h) (hK1 _ _ _ _ _ ?_))
  clear hK1
  refine wp_seq' fun K2 hK2 => ?_
  refine wp_reg ?_
  refine ol_r (r_move rfl) rfl ?_
  refine ol_r (r_move rfl) rfl ?_
  refine ol_r (r_geq rfl rfl) rfl ?_
  refine ol_r (r_move rfl) rfl ?_
  refine ol_split (d := 10) rfl (fun hs10 => ?_) (fun hs10 => ?_)
  ·have phs10 := hs10; try simp only [decide_eq_true_eq, decide_eq_false_iff_not, Bool.not_eq_true', Bool.not_eq_false', Bool.not_true, Bool.not_false] at phs10
   refine ol_g rfl rfl hs10 ?_
   refine ol_r (r_move rfl) rfl ?_
   refine ol_g rfl rfl hs10 ?_
   refine ol_r (r_move rfl) rfl ?_
   refine ol_g rfl rfl hs10 ?_
   refine ol_r (r_leq rfl rfl) rfl ?_
   refine ol_r (r_pickT rfl hs10 rfl) rfl ?_
   refine ol_r (r_assign rfl) rfl ?_
   refine ol_nil (to_k0 (fun _ _ h => h) (hK2 _ _ _ _ _ ?_))
   clear hK2
   refine hQ.ret (rvs1 (rv_t rfl)) (fun _ _ h => h) fun w hb hs hB hkd => ?_
   exact ⟨by simp [inB, hs10], hb⟩
  ·have phs10 := hs10; try simp only [decide_eq_true_eq, decide_eq_false_iff_not, Bool.not_eq_true', Bool.not_eq_false', Bool.not_true, Bool.not_false] at phs10
   refine ol_s rfl rfl hs10 rfl ?_
   refine ol_s rfl rfl hs10 rfl ?_
   refine ol_s rfl rfl hs10 rfl ?_
   refine ol_r (r_pickF rfl hs10 rfl) rfl ?_
   refine ol_r (r_assign rfl) rfl ?_
   refine ol_nil (to_k0 (fun _ _ h => h) (hK2 _ _ _ _ _ ?_))
   clear hK2
   refine hQ.ret (rvs1 (rv_t rfl)) (fun _ _ h => h) fun w hb hs hB hkd => ?_
   exact ⟨by simp [inB, hs10], hb⟩
theorem track_squares (p q : SmpR) (w : World) (hp : PlaceOk p) (hq : PlaceOk q) : Calls Try.prog 142 #[.agg #[.int .i64 p.at_, .int .i64 p.x, .int .i64 p.y, .int .i64 p.z, .int .i64 p.pulse, .int .i64 p.power, .int .i64 p.steps], .agg #[.int .i64 q.at_, .int .i64 q.x, .int .i64 q.y, .int .i64 q.z, .int .i64 q.pulse, .int .i64 q.power, .int .i64 q.steps]] w fun e w' => e = .returned (.int .i64 (sqD p q)) ∧ Below w.heap.size w w' := by
  have hb1 := sq_bd (a := q.x - p.x) (M := 200000000) (by have := hp.1; have := hq.1; omega)
  have hb2 := sq_bd (a := q.y - p.y) (M := 200000000) (by have := hp.2; have := hq.2; omega)
  obtain ⟨hp1, hp2⟩ := hp
  obtain ⟨hq1, hq2⟩ := hq
  refine enterQ (N := 28) (C := fun _ => True) (H := []) (B := w.heap.size) (args := [_, _]) Try.func142 rfl rfl rfl (Nat.le_refl _) (Sat.nil _ _) fun Q hQ => ?_
  refine wp_seq' fun K1 hK1 => ?_
  refine wp_reg ?_
  refine ol_box 2 rfl rfl rfl fun b2 => ?_
  refine ol_box 3 rfl rfl rfl fun b3 => ?_
  refine ol_r (r_assign rfl) rfl ?_
  refine ol_nil (to_k0 (fun _ _ h => h) (hK1 _ _ _ _ _ ?_))
  clear hK1
  refine wp_seq' fun K2 hK2 => ?_
  refine wp_reg ?_
  refine ol_r (r_fa (o' := 1) rfl fl70_1 rfl) rfl ?_
  refine ol_r (r_ld (id := 3) rfl rfl rfl sc3) rfl ?_
  refine ol_r (r_fa (o' := 1) rfl fl70_1 rfl) rfl ?_
  refine ol_r (r_ld (id := 2) rfl rfl rfl sc3) rfl ?_
  refine ol_r (r_sub rfl rfl (by omega)) rfl ?_
  refine ol_r (r_fa (o' := 1) rfl fl70_1 rfl) rfl ?_
  refine ol_r (r_ld (id := 3) rfl rfl rfl sc3) rfl ?_
  refine ol_r (r_fa (o' := 1) rfl fl70_1 rfl) rfl ?_
  refine ol_r (r_ld (id := 2) rfl rfl rfl sc3) rfl ?_
  refine ol_r (r_sub rfl rfl (by omega)) rfl ?_
  refine ol_r (r_mul rfl rfl (by omega)) rfl ?_
  refine ol_r (r_fa (o' := 2) rfl fl70_2 rfl) rfl ?_
  refine ol_r (r_ld (id := 3) rfl rfl rfl sc3) rfl ?_
  refine ol_r (r_fa (o' := 2) rfl fl70_2 rfl) rfl ?_
  refine ol_r (r_ld (id := 2) rfl rfl rfl sc3) rfl ?_
  refine ol_r (r_sub rfl rfl (by omega)) rfl ?_
  refine ol_r (r_fa (o' := 2) rfl fl70_2 rfl) rfl ?_
  refine ol_r (r_ld (id := 3) rfl rfl rfl sc3) rfl ?_
  refine ol_r (r_fa (o' := 2) rfl fl70_2 rfl) rfl ?_
  refine ol_r (r_ld (id := 2) rfl rfl rfl sc3) rfl ?_
  refine ol_r (r_sub rfl rfl (by omega)) rfl ?_
  refine ol_r (r_mul rfl rfl (by omega)) rfl ?_
  refine ol_r (r_add rfl rfl (by omega)) rfl ?_
  refine ol_r (r_assign rfl) rfl ?_
  refine ol_nil (to_k0 (fun _ _ h => h) (hK2 _ _ _ _ _ ?_))
  clear hK2
  refine hQ.ret (rvs1 (rv_t rfl)) (fun _ _ h => h) fun w hb hs hB hkd => ?_
  exact ⟨rfl, hb⟩
theorem track_length (p q : SmpR) (w : World) (hp : PlaceOk p) (hq : PlaceOk q) : Calls Try.prog 120 #[.agg #[.int .i64 p.at_, .int .i64 p.x, .int .i64 p.y, .int .i64 p.z, .int .i64 p.pulse, .int .i64 p.power, .int .i64 p.steps], .agg #[.int .i64 q.at_, .int .i64 q.x, .int .i64 q.y, .int .i64 q.z, .int .i64 q.pulse, .int .i64 q.power, .int .i64 q.steps]] w fun e w' => e = .returned (.int .i64 (lenD p q)) ∧ Below w.heap.size w w' := by
  have hbd := sqD_bd hp hq
  refine enterQ (N := 15) (C := fun _ => True) (H := []) (B := w.heap.size) (args := [_, _]) Try.func120 rfl rfl rfl (Nat.le_refl _) (Sat.nil _ _) fun Q hQ => ?_
  refine wp_seq' fun K1 hK1 => ?_
  refine wp_reg ?_
  refine ol_box 2 rfl rfl rfl fun b2 => ?_
  refine ol_box 3 rfl rfl rfl fun b3 => ?_
  refine ol_r (r_assign rfl) rfl ?_
  refine ol_nil (to_k0 (fun _ _ h => h) (hK1 _ _ _ _ _ ?_))
  clear hK1
  refine wp_seq' fun K2 hK2 => ?_
  refine wp_reg ?_
  refine ol_r (r_lda (id := 2) (n := 7) rfl rfl rfl ag70) rfl ?_
  refine ol_r (r_lda (id := 3) (n := 7) rfl rfl rfl ag70) rfl ?_
  refine ol_call rfl rfl cb142 rfl (fun w1 hb1 hs1 hB1 => Calls.mono (track_squares p q _ hp hq) ?_)
  rintro e w2 ⟨rfl, hb2⟩
  refine After.below rfl hb1 hs1 hB1 hb2 ?_
  clear hb2 hB1 hs1 hb1 w2 w1
  refine ol_call rfl rfl cb141 rfl (fun w1 hb1 hs1 hB1 => Calls.mono (quant_Root _ _ (by omega)) ?_)
  rintro e w2 ⟨rfl, hb2⟩
  refine After.below rfl hb1 hs1 hB1 hb2 ?_
  clear hb2 hB1 hs1 hb1 w2 w1
  refine ol_r (r_move rfl) rfl ?_
  refine ol_r (r_extract rfl rfl) rfl ?_
  refine ol_r (r_extract rfl rfl) rfl ?_
  refine ol_r (r_assign rfl) rfl ?_
  refine ol_r (r_assign rfl) rfl ?_
  refine ol_nil (to_k0 (fun _ _ h => h) (hK2 _ _ _ _ _ ?_))
  clear hK2
  refine wp_seq' fun K3 hK3 => ?_
  refine wp_reg ?_
  refine ol_r (r_move rfl) rfl ?_
  refine ol_r (r_assign rfl) rfl ?_
  refine ol_nil (to_k0 (fun _ _ h => h) (hK3 _ _ _ _ _ ?_))
  clear hK3
  refine hQ.ret (rvs1 (rv_t rfl)) (fun _ _ h => h) fun w hb hs hB hkd => ?_
  exact ⟨by rw [if_neg (by omega)]; rfl, hb⟩
/-- What Step returns. -/
noncomputable def stepD (p q : SmpR) : Int × Int := open Classical in if PlaceOk p ∧ PlaceOk q then (lenD p q, 0) else (0, 9)
theorem stepD_ok {p q : SmpR} (hp : PlaceOk p) (hq : PlaceOk q) : stepD p q = (lenD p q, 0) := if_pos ⟨hp, hq⟩
theorem stepD_no {p q : SmpR} (h : ¬(PlaceOk p ∧ PlaceOk q)) : stepD p q = (0, 9) := if_neg h
def placesL (p q : SmpR) : List Int := [p.x, p.y, q.x, q.y]
theorem placesL_in {p q : SmpR} (hp : PlaceOk p) (hq : PlaceOk q) : ∀ x ∈ placesL p q, -100000000 ≤ x ∧ x ≤ 100000000 := by
  intro x hx
  simp only [placesL, List.mem_cons, List.mem_nil_iff, or_false] at hx
  rcases hx with rfl | rfl | rfl | rfl
  · exact hp.1
  · exact hp.2
  · exact hq.1
  · exact hq.2
theorem track_Step (p q : SmpR) (w : World) : Calls Try.prog 108 #[.agg #[.int .i64 p.at_, .int .i64 p.x, .int .i64 p.y, .int .i64 p.z, .int .i64 p.pulse, .int .i64 p.power, .int .i64 p.steps], .agg #[.int .i64 q.at_, .int .i64 q.x, .int .i64 q.y, .int .i64 q.z, .int .i64 q.pulse, .int .i64 q.power, .int .i64 q.steps]] w fun e w' => e = .returned (.tuple #[.int .i64 (stepD p q).1, .int .i64 (stepD p q).2]) ∧ Below w.heap.size w w' := by
  refine enterQ (N := 29) (C := fun _ => True) (H := []) (B := w.heap.size) (args := [_, _]) Try.func108 rfl rfl rfl (Nat.le_refl _) (Sat.nil _ _) fun Q hQ => ?_
  refine wp_seq' fun K1 hK1 => ?_
  refine wp_reg ?_
  refine ol_box 2 rfl rfl rfl fun b2 => ?_
  refine ol_box 3 rfl rfl rfl fun b3 => ?_
  refine ol_r (r_assign rfl) rfl ?_
  refine ol_r (r_assign rfl) rfl ?_
  refine ol_nil (to_k0 (fun _ _ h => h) (hK1 _ _ _ _ _ ?_))
  clear hK1
  refine wp_seq' fun K2 hK2 => ?_
  refine wp_seq' fun K3 hK3 => ?_
  refine wp_reg ?_
  refine ol_r (r_fa (o' := 1) rfl fl70_1 rfl) rfl ?_
  refine ol_r (r_ld (id := 2) rfl rfl rfl sc3) rfl ?_
  refine ol_r (r_fa (o' := 2) rfl fl70_2 rfl) rfl ?_
  refine ol_r (r_ld (id := 2) rfl rfl rfl sc3) rfl ?_
  refine ol_r (r_fa (o' := 1) rfl fl70_1 rfl) rfl ?_
  refine ol_r (r_ld (id := 3) rfl rfl rfl sc3) rfl ?_
  refine ol_r (r_fa (o' := 2) rfl fl70_2 rfl) rfl ?_
  refine ol_r (r_ld (id := 3) rfl rfl rfl sc3) rfl ?_
  refine ol_bsN 16 rfl rw61 rfl rfl (fun _ => by kernel_rfl) rfl fun a16 => ?_
  refine ol_r (r_len rfl sl61) rfl ?_
  refine ol_r (r_move rfl) rfl ?_
  refine ol_nil (to_k0 (fun _ _ h => h) (hK3 _ _ _ _ _ ?_))
  clear hK3
  refine wp_block' ?_
  apply wp_loopM (σ := Nat) (fun s => s ≤ 4 ∧ ∀ i x, i < s → (placesL p q)[i]? = some x → -100000000 ≤ x ∧ x ≤ 100000000) (fun s => [(18, .int .i64 s)]) [(2, _), (3, _), (16, _), (17, _)] (fun s => []) [(2, _), (3, _), (16, _)] (fun s => 4 - s) (0)
  ·try dsimp only
   exact ⟨by omega, fun i x h => absurd h (by omega)⟩
  ·exact (sub_cons rfl sub_nil)
  ·exact (sub_cons rfl (sub_cons rfl (sub_cons rfl (sub_cons rfl sub_nil))))
  ·exact subH_nil
  ·exact (subH_same rfl (subH_same rfl (subH_same rfl subH_nil)))
  ·rintro k ⟨hk, hP⟩
   intro K4 hK4
   refine wp_seq' fun K5 hK5 => ?_
   refine wp_reg ?_
   refine ol_r (r_lss rfl rfl) rfl ?_
   refine ol_nil (to_k0 (fun _ _ h => h) (hK5 _ _ _ _ _ ?_))
   clear hK5
   refine wp_seq' fun K6 hK6 => ?_
   first | refine wp_condD rfl (fun hc19 => ?_) (fun hc19 => ?_) | refine wp_condN rfl (fun hc19 => ?_) (fun hc19 => ?_) | refine wp_condNB rfl (fun hc19 => ?_) (fun hc19 => ?_) | refine wp_cond' rfl (fun hc19 => ?_) (fun hc19 => ?_)
   ·refine wp_skip' (to_k0 (fun _ _ h => h) (hK6 _ _ _ _ _ ?_))
    clear hK6
    refine wp_seq' fun K7 hK7 => ?_
    refine wp_block' ?_
    refine wp_seq' fun K8 hK8 => ?_
    refine wp_reg ?_
    refine ol_ixo (id := 16) encI (placesL p q) rfl rfl rfl rfl sl61 (by omega) rfl fun x20 hx20 => ?_
    try simp only [Int.toNat_natCast] at hx20
    try simp only [Int.toNat_natCast] at hx20
    refine ol_r (r_ldw rfl (fun w1 hb1 hs1 hB1 => show Loads _ _ _ _ (.int .i64 x20) from ld_own (id := 16) hs1 rfl rfl ty3 hx20)) rfl ?_
    refine ol_r (r_assign rfl) rfl ?_
    refine ol_nil (to_k0 (fun _ _ h => h) (hK8 _ _ _ _ _ ?_))
    clear hK8
    refine wp_seq' fun K9 hK9 => ?_
    refine wp_reg ?_
    refine ol_r (r_move rfl) rfl ?_
    refine ol_call rfl rfl cb48 rfl (fun w1 hb1 hs1 hB1 => Calls.mono (track_in _ _ _ _) ?_)
    rintro e w2 ⟨rfl, hb2⟩
    refine After.below rfl hb1 hs1 hB1 hb2 ?_
    clear hb2 hB1 hs1 hb1 w2 w1
    refine ol_r (r_not rfl) rfl ?_
    refine ol_nil (to_k0 (fun _ _ h => h) (hK9 _ _ _ _ _ ?_))
    clear hK9
    first | refine wp_condD rfl (fun hc24 => ?_) (fun hc24 => ?_) | refine wp_condN rfl (fun hc24 => ?_) (fun hc24 => ?_) | refine wp_condNB rfl (fun hc24 => ?_) (fun hc24 => ?_) | refine wp_cond' rfl (fun hc24 => ?_) (fun hc24 => ?_)
    ·refine wp_seq' fun K10 hK10 => ?_
     refine wp_reg ?_
     refine ol_r (r_assign rfl) rfl ?_
     refine ol_r (r_assign rfl) rfl ?_
     refine ol_nil (to_k0 (fun _ _ h => h) (hK10 _ _ _ _ _ ?_))
     clear hK10
     refine hQ.ret (rvs2 (rv_t rfl) (rv_t rfl)) (fun _ _ h => h) fun w hb hs hB hkd => ?_
     first
       | (have h := stepD_no (p := p) (q := q) (fun h => by have h1 := placesL_in h.1 h.2 _ (List.mem_of_getElem? hx20); rw [inB_iff.2 h1] at hc24; cases hc24)
          refine ⟨?_, hb⟩
          rw [h]
          done)
       | (have h := stepD_ok hpq.1 hpq.2
          refine ⟨?_, hb⟩
          rw [h]
          done)
    ·refine wp_skip' (to_k0 (fun _ _ h => h) (hK7 _ _ _ _ _ ?_))
     clear hK7
     refine wp_reg ?_
     refine ol_r (r_add rfl rfl (by omega)) rfl ?_
     refine ol_r (r_move rfl) rfl ?_
     refine ol_nil (to_k0 (fun _ _ h => h) (hK4 (k + 1) _ _ ?_ ?_ (sub_cons rfl sub_nil) (sub_cons rfl (sub_cons rfl (sub_cons rfl (sub_cons rfl sub_nil)))) (by exact subH_nil) (subH_same rfl (subH_same rfl (subH_same rfl subH_nil)))))
     ·try dsimp only
      refine ⟨by omega, fun i y hi hy => ?_⟩
      by_cases hik : i < k
      · exact hP i y hik hy
      · have : i = k := by omega
        subst this
        rw [hx20] at hy
        cases hy
        exact inB_iff.1 hc24
     ·try dsimp only
      omega
   ·refine wp_exit' (to_k0 (fun _ _ h => h) (hK2 _ _ _ _ _ ?_))
    clear hK2
    refine wp_seq' fun K11 hK11 => ?_
    refine wp_reg ?_
    have hpq : PlaceOk p ∧ PlaceOk q := by
      have h0 := hP 0 p.x (by omega) rfl
      have h1 := hP 1 p.y (by omega) rfl
      have h2 := hP 2 q.x (by omega) rfl
      have h3 := hP 3 q.y (by omega) rfl
      exact ⟨⟨h0, h1⟩, ⟨h2, h3⟩⟩
    refine ol_r (r_lda (id := 2) (n := 7) rfl rfl rfl ag70) rfl ?_
    refine ol_r (r_lda (id := 3) (n := 7) rfl rfl rfl ag70) rfl ?_
    refine ol_call rfl rfl cb120 rfl (fun w1 hb1 hs1 hB1 => Calls.mono (track_length p q _ hpq.1 hpq.2) ?_)
    rintro e w2 ⟨rfl, hb2⟩
    refine After.below rfl hb1 hs1 hB1 hb2 ?_
    clear hb2 hB1 hs1 hb1 w2 w1
    refine ol_r (r_assign rfl) rfl ?_
    refine ol_r (r_assign rfl) rfl ?_
    refine ol_nil (to_k0 (fun _ _ h => h) (hK11 _ _ _ _ _ ?_))
    clear hK11
    refine hQ.ret (rvs2 (rv_t rfl) (rv_t rfl)) (fun _ _ h => h) fun w hb hs hB hkd => ?_
    first
      | (have h := stepD_no (p := p) (q := q) (fun h => by have h1 := placesL_in h.1 h.2 _ (List.mem_of_getElem? hx20); rw [inB_iff.2 h1] at hc24; cases hc24)
         refine ⟨?_, hb⟩
         rw [h]
         done)
      | (have h := stepD_ok hpq.1 hpq.2
         refine ⟨?_, hb⟩
         rw [h]
         done)
end Go.Proofs.Ytfbmkepogcimlaa

/-
  The steps of an activity: the iterator.
-/


namespace Go.Proofs.Ytfbmkepogcimlaa
open Go Go.RowKit Hx
set_option linter.unusedVariables false
set_option linter.unusedSimpArgs false
set_option maxRecDepth 8000
theorem steps_iter (A : ActV) (B b : Nat) (w0 : World) (hA : Rd encSmp B w0 A.sa A.sn A.sc A.ss) :
    Iter Try.prog 130 [.pointer (some ⟨b, 0, none⟩)] (fun x : SmpR × SmpR => [.agg #[.int .i64 x.1.at_, .int .i64 x.1.x, .int .i64 x.1.y, .int .i64 x.1.z, .int .i64 x.1.pulse, .int .i64 x.1.power, .int .i64 x.1.steps], .agg #[.int .i64 x.2.at_, .int .i64 x.2.x, .int .i64 x.2.y, .int .i64 x.2.z, .int .i64 x.2.pulse, .int .i64 x.2.power, .int .i64 x.2.steps]]) (stepsL A.ss) (fun W => Below B w0 W ∧ (∃ T, Sat B W [(100, .blk b [(3, .slice A.sa A.sn A.sc)] T)]) ∧ B ≤ W.heap.size) := by
  intro l J Jx W hRq hJb hJx hY h0
  have hsn := hA.len
  have hsf := hA.fit
  have hlen := stepsL_len A.ss
  refine enterI (n := 25) (args := [_, _]) Try.func130 rfl rfl rfl rfl fun Q hQ => ?_
  refine wp_seq' fun K1 hK1 => ?_
  refine wp_reg ?_
  refine ol_r (r_assign rfl) rfl ?_
  refine ol_nil (to_k0 (fun _ _ h => h) (hK1 _ _ _ _ _ ?_))
  clear hK1
  refine wp_block' ?_
  refine wp_loopI (J := J) (fun k => [(3, .int .i64 (k + 1)), (0, .func (.yield l) #[] #[]), (1, .pointer (some ⟨b, 0, none⟩))]) (fun k => k ≤ (stepsL A.ss).length) (fun k => (stepsL A.ss).length - k) (0) ?_ ?_ ?_ ?_
  ·try dsimp only
   omega
  ·exact (sub_cons rfl (sub_cons rfl (sub_cons rfl sub_nil)))
  ·intro w hb hB
   exact hJb 0 W w h0 hb
  ·intro k W1 hI hJ
   obtain ⟨q1, ⟨T, q2⟩, q3⟩ := hRq k W1 hJ
   have hc : Blk W1.heap.size W1 b [(3, .slice A.sa A.sn A.sc)] := q2.blk (id := 100) rfl
   have hS := hA.at q1 q3
   intro K2 hK2
   refine wp_seq' fun K3 hK3 => ?_
   refine wp_seq' fun K4 hK4 => ?_
   refine wp_reg ?_
   refine ol_r (r_move rfl) rfl ?_
   refine ol_r (r_fa (o' := 3) rfl fl57_3 rfl) rfl ?_
   refine ol_r (r_ldw rfl (fun w1 hb1 hs1 hB1 => Blk.loads (o := 3) hc hb1 sc53 rfl)) rfl ?_
   refine ol_r (r_len rfl sl53) rfl ?_
   refine ol_r (r_lss rfl rfl) rfl ?_
   refine ol_nil (to_k0 (fun _ _ h => h) (hK4 _ _ _ _ _ ?_))
   clear hK4
   refine wp_condD rfl (fun hc8 => ?_) (fun hc8 => ?_)
   ·refine wp_skip' (to_k0 (fun _ _ h => h) (hK3 _ _ _ _ _ ?_))
    clear hK3
    refine wp_seq' fun K5 hK5 => ?_
    refine wp_block' ?_
    refine wp_seq' fun K6 hK6 => ?_
    refine wp_regti 12 rfl (by kernel_rfl) (by kernel_rfl) ?_
    simp only [List.take_succ_cons, List.take_zero, List.drop_succ_cons, List.drop_zero]
    refine sli_r (r_move rfl) rfl ?_
    refine sli_r (r_fa (o' := 3) rfl fl57_3 rfl) rfl ?_
    refine sli_r (r_ldw rfl (fun w1 hb1 hs1 hB1 => Blk.loads (o := 3) hc hb1 sc53 rfl)) rfl ?_
    refine sli_r (r_move rfl) rfl ?_
    refine sli_r (r_sub rfl rfl (by omega)) rfl ?_
    refine sli_ixr hS rfl rfl sl53 (by omega) rfl fun x16 hx16 => ?_
    try simp only [Int.toNat_natCast] at hx16
    refine sli_r (r_ldw rfl (fun w1 hb1 hs1 hB1 => Rd.loads hS ty70 hx16 hb1)) rfl ?_
    refine sli_r (r_fa (o' := 3) rfl fl57_3 rfl) rfl ?_
    refine sli_r (r_ldw rfl (fun w1 hb1 hs1 hB1 => Blk.loads (o := 3) hc hb1 sc53 rfl)) rfl ?_
    refine sli_r (r_move rfl) rfl ?_
    refine sli_ixr hS rfl rfl sl53 (by omega) rfl fun x21 hx21 => ?_
    try simp only [Int.toNat_natCast] at hx21
    refine sli_r (r_ldw rfl (fun w1 hb1 hs1 hB1 => Rd.loads hS ty70 hx21 hb1)) rfl ?_
    refine sli_nil ?_
    refine oli_yield rfl rfl rfl rfl rfl (fun w1 hb1 hs1 hB1 => ?_)
    obtain ⟨fn, tm, asg, bo, hy, hR⟩ := hY k (x16, x21) w1 (stepsL_get (by rw [← hx16]; congr 1; omega) (by rw [← hx21]; congr 1)) (hJb k W1 w1 hJ hb1)
    refine ⟨fn, tm, asg, bo, hy, hR.mono ?_⟩
    intro e w2 he
    obtain ⟨bb, rfl, hT, hF⟩ : ∃ bb, e = .returned (.bool bb) ∧ (bb = true → J (k + 1) w2) ∧ (bb = false → Jx w2) := by
      rcases he with ⟨rfl, h⟩ | ⟨rfl, h⟩
      · exact ⟨true, rfl, fun _ => h, fun h => by cases h⟩
      · exact ⟨false, rfl, fun h => (by cases h), fun _ => h⟩
    refine ⟨_, rfl, ?_⟩
    refine oli_r (r_not rfl) rfl ?_
    refine oli_nil (to_k0 (fun _ _ h => h) (hK6 _ _ _ _ _ ?_))
    clear hK6
    refine wp_condNB rfl (fun hc24 => ?_) (fun hc24 => ?_)
    ·refine hQ.ret (fun _ _ h => h) fun w hb hs hB => ?_
     exact .inr (hJx _ _ (hF hc24) hb)
    ·refine wp_skip' (to_k0 (fun _ _ h => h) (hK5 _ _ _ _ _ ?_))
     clear hK5
     refine wp_reg ?_
     refine ol_r (r_move rfl) rfl ?_
     refine ol_r (r_add rfl rfl (by omega)) rfl ?_
     refine ol_r (r_assign rfl) rfl ?_
     refine ol_nil (to_k0 (fun _ _ h => h) (hK2 (k + 1) _ _ _ _ ?_ ?_ (by exact (sub_cons rfl (sub_cons rfl (sub_cons rfl sub_nil)))) ?_))
     ·try dsimp only
      omega
     ·try dsimp only
      omega
     ·intro w hb hB
      exact hJb (k + 1) _ w (hT hc24) hb
   ·refine wp_exit' (hQ.fall (fun _ _ h => h) fun w hb hs hB => ?_)
    have hk : k = (stepsL A.ss).length := by omega
    exact .inl (hk ▸ hJb k _ w hJ hb)
theorem track_Steps (A : ActV) (w : World) (hA : A.Ok w.heap.size w) :
    Calls Try.prog 100 #[.agg #[.string A.name, .int .i64 A.sport, .int .i64 A.start, .slice A.sa A.sn A.sc, .slice A.la A.ln A.lc, .slice A.ta A.tn A.tc]] w fun e w' => ∃ b T, e = .returned (.func (.func 130) #[] #[.pointer (some ⟨b, 0, none⟩)]) ∧ Below w.heap.size w w' ∧ Sat w.heap.size w' [(1001, .blk b [(3, .slice A.sa A.sn A.sc)] T)] := by
  refine enterQ (N := 4) (C := fun _ => True) (H := []) (B := w.heap.size) (args := [_]) Try.func100 rfl rfl rfl (Nat.le_refl _) (Sat.nil _ _) fun Q hQ => ?_
  refine wp_seq' fun K1 hK1 => ?_
  refine wp_reg ?_
  refine ol_box 1 rfl rfl rfl fun b1 => ?_
  refine ol_r (r_assign rfl) rfl ?_
  refine ol_nil (to_k0 (fun _ _ h => h) (hK1 _ _ _ _ _ ?_))
  clear hK1
  refine wp_seq' fun K2 hK2 => ?_
  refine wp_reg ?_
  refine ol_r (r_func rfl) rfl ?_
  refine ol_r (r_assign rfl) rfl ?_
  refine ol_nil (to_k0 (fun _ _ h => h) (hK2 _ _ _ _ _ ?_))
  clear hK2
  refine hQ.ret (rvs1 (rv_t rfl)) (fun _ _ h => h) fun w hb hs hB hkd => ?_
  exact ⟨_, _, rfl, hb, hs.one 1 1001 rfl ⟨rfl, rfl, Sub.out (sub_cons rfl sub_nil)⟩⟩
end Go.Proofs.Ytfbmkepogcimlaa

/-
  More rules: an append of a whole slice to none.
-/


namespace Go.Proofs.Ytfbmkepogcimlaa.Hx
open Go Go.RowKit
set_option linter.unusedVariables false
set_option linter.unusedSimpArgs false
section
variable {P : Program} {N : Fr} {B : Nat} {w0 : World} {Q : Exit → Act → World → Prop} {al : AL} {H : HL} {ops rest : List Oper} {d : Nat} {ty : TypeId} {pos : String} {after : Array Edge}
theorem r_append_nn {s x : Operand} {t e : TypeId} {size bytes c : Nat} (hs : ev al s = some (.slice none 0 0)) (hx : ev al x = some (.slice none 0 c)) (hT : RowT P t e size bytes) :
    Runs P N B w0 (.call { callee := .builtin .append, args := #[s, x], argTypes := #[t, t] }) ty al H (.slice none 0 0) := fun a w hst => by
  obtain ⟨hu, i, z, hi, hz, hsz, hby, hzz, hpos⟩ := hT
  simp [BigFrame.execOp_builtin, BigFrame.builtin_append, hst.regs.eval hs, hst.regs.eval hx, Builtin.append_, run_underlying hu, sizeOf, typeInfo, hi, Builtin.lenOf, Builtin.firstCells]
/-- A loop, its rounds one by one. -/
theorem wp_seq_cutM {x y : Code} {σ : Type} (I : σ → Prop) (M : σ → AL) (L : AL) (G : σ → HL) (G0 : HL) (hL : Sub L al) (hh0 : SubH G0 H)
    (hx : ∀ K : Act → World → Prop, (∀ s al' H', I s → Sub (M s) al' → Sub L al' → SubH (G s) H' → SubH G0 H' → KP N B w0 K al' H') → WP P N B w0 x (Exit.then K Q) al H)
    (hy : ∀ s, I s → WP P N B w0 y Q (M s ++ L) (G s ++ G0)) : WP P N B w0 (.seq x y) Q al H :=
  wp_seq_cut I (fun s => M s ++ L) (fun s => G s ++ G0) (fun K hK => hx K fun s al' H' h1 h2 h3 h4 h5 => (hK s h1).sub (sub_app h2 h3) (subH_app h4 h5)) hy
theorem wp_unroll {c : Code} (n : Nat) (h : KP N B w0 (dloop (D N.y P c) Q n) al H) : WP P N B w0 (.loop c) Q al H := fun a w hst => ⟨n, h a w hst⟩
theorem kp_unroll {c : Code} {n : Nat} (h : ∀ K : Act → World → Prop, (∀ al' H', KP N B w0 (dloop (D N.y P c) Q n) al' H' → KP N B w0 K al' H') → WP P N B w0 c (Exit.then K Q) al H) : KP N B w0 (dloop (D N.y P c) Q (n + 1)) al H :=
  h _ (fun _ _ h => h)
theorem look_shadow {β : Type} (id : Nat) (x y : β) (H : List (Nat × β)) (j : Nat) : look ((id, x) :: (id, y) :: H) j = look ((id, x) :: H) j := by
  by_cases h : id = j
  · subst h; rw [look_cons_eq, look_cons_eq]
  · rw [look_cons_ne _ _ h, look_cons_ne _ _ h, look_cons_ne _ _ h]
theorem Sat.shadow {w : World} {id : Nat} {x y : Ent} (h : Sat B w ((id, x) :: (id, y) :: H)) : Sat B w ((id, x) :: H) :=
  ⟨fun i e he => h.ok i e (by rw [look_shadow]; exact he), fun i j e f hij he hf => h.apart i j e f hij (by rw [look_shadow]; exact he) (by rw [look_shadow]; exact hf)⟩
/-- What H' tells, H tells under other numbers. -/
def Keyed (H : HL) (ks : List (Nat × Nat)) (H' : HL) : Prop := ∀ j e, look H' j = some e → ∃ i, (i, j) ∈ ks ∧ look H i = some e
theorem keyed_nil : Keyed H [] [] := fun j e h => by simp [look] at h
theorem keyed_cons {i k : Nat} {e : Ent} {ks : List (Nat × Nat)} {H' : HL} (h : look H i = some e) (hk : Keyed H ks H') : Keyed H ((i, k) :: ks) ((k, e) :: H') := fun j f hj => by
  by_cases hkj : k = j
  · subst hkj; rw [look_cons_eq] at hj; cases hj; exact ⟨i, by simp, h⟩
  · rw [look_cons_ne _ _ hkj] at hj
    obtain ⟨i', h1, h2⟩ := hk j f hj
    exact ⟨i', by simp [h1], h2⟩
theorem Sat.keys {w : World} {H' : HL} (h : Sat B w H) (ks : List (Nat × Nat)) (hk : Keyed H ks H') (hd : ∀ p ∈ ks, ∀ q ∈ ks, p.1 = q.1 → p.2 = q.2) : Sat B w H' :=
  ⟨fun j e he => by obtain ⟨i, _, h2⟩ := hk j e he; exact h.ok i e h2, fun j j' e f hj he hf => by
    obtain ⟨i, a1, a2⟩ := hk j e he
    obtain ⟨i', b1, b2⟩ := hk j' f hf
    exact h.apart i i' e f (fun hii => hj (hd _ a1 _ b1 hii)) a2 b2⟩
theorem ol_appendN {s x : Operand} {m c : Nat} {ad : Option Addr} {t e : TypeId} {size bytes : Nat} {α : Type} (E : Enc α) {ys : List α} (id : Nat) (hs : ev al s = some (.slice none 0 0)) (hx : ev al x = some (.slice ad m c)) (hl : Rd E B w0 ad m c ys)
    (hz : size = E.size) (hT : RowT P t e size bytes) (hb : m ≤ 9223372036854775807 ∧ m * bytes ≤ 140737488355328) (hd : Nat.blt d N.n = true)
    (k : ∀ a' cap', OL P N B w0 ops rest Q ((d, .slice a' m cap') :: al) ((id, .row a' m cap' (E.enc ys) e size) :: H)) :
    OL P N B w0 ops ({ dst := some d, op := .call { callee := .builtin .append, args := #[s, x], argTypes := #[t, t] }, type := ty, pos, after, guard := none } :: rest) Q al H := by
  have hlen := hl.len
  cases ad with
  | none =>
    have hm : m = 0 := by
      cases m with
      | zero => rfl
      | succ m => have := hl.isSome (by omega); simp at this
    subst hm
    have hys : ys = [] := List.eq_nil_of_length_eq_zero hlen
    subst hys
    exact ol_r (r_append_nn hs hx hT) hd (ol_nilrow id e size (k none 0))
  | some p =>
    refine ol_nilrow id e size ?_
    refine ol_append (id := id) (news := E.enc ys) hs (look_cons_eq ..) hx hT (by rw [Enc.enc_len, hlen, hz]) (E.ones_enc ys) (fun w1 hb1 hs1 hB1 => ⟨p, rfl, (hl.below hb1).flat rfl⟩) (by simpa using hb) hd fun a' c' => ?_
    have h := k a' c'
    simp only [Nat.zero_add, List.nil_append]
    exact fun a w hst => h a w (hst.step hst.regs hst.below (Sat.shadow hst.sat) hst.base (Kd.refl _ _))
end
end Go.Proofs.Ytfbmkepogcimlaa.Hx
