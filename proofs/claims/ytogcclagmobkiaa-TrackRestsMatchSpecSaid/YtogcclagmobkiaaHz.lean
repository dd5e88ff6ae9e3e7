/-
  More rules: strings; calls of yield, in an iterator.
-/
import Derived.Test.YtogcclagmobkiaaHy
import Derived.OrdersIn
import Derived.TacticsIn
import Derived.Laws.Strings
import Derived.Laws.Cover1
namespace Go.Proofs.Ytogcclagmobkiaa.Hx
open Go Go.RowKit
set_option linter.unusedVariables false
set_option linter.unusedSimpArgs false
set_option linter.unusedSectionVars false
section
variable {P : Program} {N : Fr} {B : Nat} {w0 : World} {Q : Exit → Act → World → Prop} {al : AL} {H : HL} {ty : TypeId}
/-- The byte at a place. -/
def byteAt (s : ByteArray) (k : Nat) : Int := match s[k]? with | some b => b.toNat | none => 0
theorem r_sidx {x i : Operand} {t : TypeId} {kd : IntKind} {s : ByteArray} {iv : Int} (hx : ev al x = some (.string s)) (hi : ev al i = some (.int kd iv)) (hT : Str P t) (h0 : 0 ≤ iv ∧ iv < s.size) :
    Runs P N B w0 (.index t x i) ty al H (.int .u8 (byteAt s iv.toNat)) := fun a w hst => by
  have hlt : iv.toNat < s.size := by omega
  have hs : s[iv.toNat]? = some (s[iv.toNat]'hlt) := getElem?_pos s iv.toNat hlt
  simp only [execOp, hst.regs.eval hx, hst.regs.eval hi, Instr.index, Sem.run_bind, run_underlying hT, Result.andThen_ok, asIntOf, Sem.run_pure, if_pos h0.1, hs, byteAt]
theorem byteAt_bd (s : ByteArray) (k : Nat) : 0 ≤ byteAt s k ∧ byteAt s k ≤ 255 := by
  unfold byteAt
  cases s[k]? with
  | none => simp
  | some b => have := b.toNat_lt; simp; omega
def sLt (a b : ByteArray) : Bool := Op.bytesLess a.toList b.toList
def sEq (a b : ByteArray) : Bool := a.toList == b.toList
section
variable {x y : Operand} {t t' : TypeId} {a b : ByteArray}
theorem r_seql (hx : ev al x = some (.string a)) (hy : ev al y = some (.string b)) : Runs P N B w0 (.binOp .eql t x y t') ty al H (.bool (sEq a b)) := fun s w hst => by
  simp [execOp, hst.regs.eval hx, hst.regs.eval hy, eqGuard_at_string, binOp_string_eql, sEq]
theorem r_sneq (hx : ev al x = some (.string a)) (hy : ev al y = some (.string b)) : Runs P N B w0 (.binOp .neq t x y t') ty al H (.bool (!sEq a b)) := fun s w hst => by
  simp [execOp, hst.regs.eval hx, hst.regs.eval hy, eqGuard_at_string, binOp_string_neq, sEq]
theorem r_slss (hx : ev al x = some (.string a)) (hy : ev al y = some (.string b)) : Runs P N B w0 (.binOp .lss t x y t') ty al H (.bool (sLt a b)) := fun s w hst => by
  simp [execOp, hst.regs.eval hx, hst.regs.eval hy, eqGuard_at_string, binOp_string_lss, sLt]
theorem r_sleq (hx : ev al x = some (.string a)) (hy : ev al y = some (.string b)) : Runs P N B w0 (.binOp .leq t x y t') ty al H (.bool (sLt a b || sEq a b)) := fun s w hst => by
  simp [execOp, hst.regs.eval hx, hst.regs.eval hy, eqGuard_at_string, binOp_string_leq, sLt, sEq]
end

/-! #### yield -/
/-- Operations of an iterator, yield among them. -/
def OLI (P : Program) (N : Fr) (B : Nat) (w0 : World) (ops l : List Oper) (Q : Exit → Act → World → Prop) (al : AL) (H : HL) : Prop := ∀ a w, St N B w0 al H a w → wpListIn Fence.wide 1 P ops.toArray Q l a w
variable {ops rest tail : List Oper} {d : Nat} {op : Op} {pos : String} {after : Array Edge} {v : Value}
theorem oli_nil (h : QP N B w0 Q .normal al H) : OLI P N B w0 ops [] Q al H := fun a w hst => h a w hst
theorem oli_r (hr : Runs P N B w0 op ty al H v) (hd : Nat.blt d N.n = true) (k : OLI P N B w0 ops rest Q ((d, v) :: al) H) :
    OLI P N B w0 ops ({ dst := some d, op, type := ty, pos, after, guard := none } :: rest) Q al H := by
  intro a w hst
  refine wpListIn_plain rfl fun K hK => ⟨fun f _ => trivial, ?_⟩
  have := hr a w hst
  rw [show Fence.wide.round = none from rfl, Oper.semAt_none, show execOp a.eval { dst := some d, op, type := ty, pos, after, guard := none } = execOp a.eval { dst := none, op, type := ty, pos := "", after := #[], guard := none } from rfl, this]
  exact hK _ _ (k _ _ (hst.put (by simpa using hd) v))
theorem wp_regi {id : Nat} {l : List Oper} (hy : N.y = true) (h : OLI P N B w0 l l Q al H) : WP P N B w0 (.region id l.toArray false) Q al H := fun a w hst => .inr ⟨hy, (wpIn_wide (n := 1)).1 (wpIn_region_lit (h a w hst))⟩
theorem oli_ixr {α : Type} {E : Enc α} {a : Option Addr} {n cap : Nat} {xs : List α} {s i : Operand} {t : TypeId} {kd : IntKind} {iv : Int} (hl : Rd E B w0 a n cap xs) (hs : ev al s = some (.slice a n cap)) (hi : ev al i = some (.int kd iv)) (hT : Slc P t E.size) (h0 : 0 ≤ iv ∧ iv < n) (hd : Nat.blt d N.n = true)
    (k : ∀ x, xs[iv.toNat]? = some x → OLI P N B w0 ops rest Q ((d, .pointer (a.map (·.add (iv.toNat * E.size)))) :: al) H) :
    OLI P N B w0 ops ({ dst := some d, op := .indexAddr t s i, type := ty, pos, after, guard := none } :: rest) Q al H := by
  obtain ⟨x, hx⟩ := hl.get (i := iv.toNat) (by omega)
  exact oli_r (r_ix hs hi hT (hl.isSome (by omega)) h0) hd (k x hx)
theorem oli_yield {f : Operand} {args : List Operand} {tys : Array TypeId} {l : Nat} {vs : List Value} (hf : ev al f = some (.func (.yield l) #[] #[])) (ha : evs al args = some vs) (hd : Nat.blt d N.n = true) (hN : N.y = true) (hds : N.ds = [])
    (hc : ∀ w, Below B w0 w → Sat B w H → B ≤ w.heap.size → YieldAt Fence.wide 0 P l vs.toArray w fun e w' => ∃ v, e = .returned v ∧ OLI P N w'.heap.size w' ops rest Q ((d, v) :: al) []) :
    OLI P N B w0 ops ({ dst := some d, op := .call { callee := .value f, args := args.toArray, argTypes := tys }, type := ty, pos, after, guard := none } :: rest) Q al H := by
  intro a w hst
  refine wpListIn_plain rfl fun K hK => ⟨fun f _ => trivial, ?_⟩
  obtain ⟨fn, tmps, assign, body, hy, hR⟩ := hc w hst.below hst.sat hst.base
  have hrun : (execOp a.eval { dst := some d, op := .call { callee := .value f, args := args.toArray, argTypes := tys }, type := ty, pos, after, guard := none }).run P w = .ok (.round l fn tmps assign body) w := by
    have := hst.regs.evals ha
    simp [execOp, resolve, hst.regs.eval hf, Deferred.ofValue, invoke, this, hy]
  rw [show Fence.wide.round = none from rfl, Oper.semAt_none, hrun, Oper.uponIn_round]
  refine ⟨fun h => by simp [Fence.wide] at h, hR.mono ?_⟩
  rintro e w' ⟨v, rfl, h4⟩
  exact hK _ _ (h4 _ _ ⟨hst.regs.put (by simpa using hd) v, Below.refl _ _, Sat.nil _ _, Nat.le_refl _, (fun h => by rw [hN] at h; cases h), by rw [hds]; exact MarkOk.nil _ _⟩)
/-- An iterator's loop: each round from a world of its own on. -/
theorem wp_loopI {n : Nat} {C : Nat → Prop} {c : Code} {J : Nat → World → Prop} (M : Nat → AL) (I : Nat → Prop) (μ : Nat → Nat) (k0 : Nat) (hI : I k0) (hM : Sub (M k0) al) (hJ0 : ∀ w, Below B w0 w → B ≤ w.heap.size → J k0 w)
    (round : ∀ k W, I k → J k W → ∀ K : Act → World → Prop, (∀ k' al' H' B' W', I k' → μ k' < μ k → Sub (M k') al' → (∀ w, Below B' W' w → B' ≤ w.heap.size → J k' w) → KP ⟨n, C, [], true⟩ B' W' K al' H') → WP P ⟨n, C, [], true⟩ W.heap.size W c (Exit.then K Q) (M k) []) :
    WP P ⟨n, C, [], true⟩ B w0 (.loop c) Q al H := by
  intro a w hst
  have key : ∀ m k, I k → μ k < m → ∀ a w, Regs ⟨n, C, [], true⟩ (M k) a → J k w → dloop (D true P c) Q m a w := by
    intro m
    induction m with
    | zero => intro k _ h; omega
    | succ m ih =>
      intro k hI hm a w hr hj
      refine round k w hI hj _ (fun k' al' H' B' W' hI' hμ hs hJ a' w' h' => ih k' hI' (by omega) a' w' (h'.regs.sub hs) (hJ w' h'.below h'.base)) a w ⟨hr, Below.refl _ _, Sat.nil _ _, Nat.le_refl _, (fun h => by cases h), MarkOk.nil _ _⟩
  exact ⟨μ k0 + 1, key _ k0 hI (by omega) a w (hst.regs.sub hM) (hJ0 w hst.below hst.base)⟩
/-- The head of a region of an iterator: operations that only read; the tail in its order. -/
def SLI (P : Program) (N : Fr) (B : Nat) (w0 : World) (ops l tail : List Oper) (Q : Exit → Act → World → Prop) (al : AL) (H : HL) : Prop :=
  ∀ a w, St N B w0 al H a w → wpStill P ops.toArray w (fun a' => wpListIn Fence.wide 1 P ops.toArray Q tail a' w) l a
theorem wpOpIn_of_stOp {ops : Array Oper} {i : Nat} {a : Act} {w : World} {K : Act → Prop} {K' : Act → World → Prop} (h : ∀ a, K a → K' a w) (hh : stOp P ops w i K a) : wpOpIn Fence.wide 1 P ops Q i K' a w := by
  have hp := wpOp_of_stOp (Q' := fun _ _ _ => False) (K' := fun a' w' => w' = w ∧ K a') (fun a h => ⟨rfl, h⟩) hh
  unfold wpOp at hp
  unfold wpOpIn
  split
  · rename_i ho; simp only [ho] at hp; exact h _ hp.2
  · rename_i o ho
    simp only [ho] at hp
    split
    · rename_i hw
      simp only [hw, if_true] at hp
      rcases hp with hp | ⟨_, a1, w1, hp⟩
      · refine ⟨fun f _ => trivial, ?_⟩
        rw [show Fence.wide.round = none from rfl, Oper.semAt_none]
        unfold Oper.wp at hp
        generalize (execOp a.eval o).run P w = r at *
        cases r with
        | ok x w' =>
          cases x with
          | value v => obtain ⟨rfl, hk⟩ := hp; exact h _ hk
          | skip => obtain ⟨rfl, hk⟩ := hp; exact h _ hk
          | defer d => obtain ⟨rfl, hk⟩ := hp; exact h _ hk
          | enter f args =>
            refine ⟨fun h => by simp [Fence.wide] at h, (callsIn_wide.2 hp).mono fun e w'' he => ?_⟩
            cases e with
            | returned v => obtain ⟨rfl, hk⟩ := he; exact h _ hk
            | panicked c => exact he.elim
            | outgrown => obtain ⟨a, w, he⟩ := he; exact he.elim
          | row r args => exact ⟨fun h => by simp [Fence.wide] at h, fun c cs _ => by obtain ⟨v, w', ⟨rfl, hk⟩, s⟩ := hp c cs; exact ⟨v, _, h _ hk, stepsIn_wide.2 s⟩⟩
          | _ => exact (hp : False).elim
        | halt x w' =>
          cases x with
          | panic v => exact (hp : False).elim
          | _ => exact (hp : False).elim
      · exact hp.elim
    · rename_i hw
      simp only [hw] at hp
      exact ⟨fun f _ => trivial, h _ hp.2⟩
theorem wpAnyIn_of_head {ops : Array Oper} {n g : Nat} {w : World} {L : Array Bool → Act → Prop} (hL : ∀ listed a, L listed a → wpAnyIn Fence.wide 1 P .any ops Q g listed a w) :
    ∀ (f : Nat) (listed : Array Bool) (a : Act), wpAnyL P .any ops w n L f listed a → wpAnyIn Fence.wide 1 P .any ops Q (f + g) listed a w
  | 0, listed, a, h => by rw [Nat.zero_add]; exact hL _ _ h
  | f + 1, listed, a, h => by
    rw [show f + 1 + g = (f + g) + 1 by omega]
    exact ⟨fun h0 => absurd h0 h.1, fun i hi => wpOpIn_of_stOp (fun a' h' => wpAnyIn_of_head hL f _ a' h') (h.2 i hi).2⟩
theorem wpAnyIn_of_seq {ops : Array Oper} : ∀ (l : List Oper) (k : Nat) (listed : Array Bool) (a : Act) (w : World), (∀ j, l[j]? = ops[k + j]?) →
    Region.seqB .any ops l.length k listed = true → wpListIn Fence.wide 1 P ops Q l a w → wpAnyIn Fence.wide 1 P .any ops Q l.length listed a w
  | [], _, _, _, _, _, hB, h => ⟨by simpa [Region.seqB] using hB, h⟩
  | o :: l, k, listed, a, w, hl, hB, h => by
    have h0 : ops[k]? = some o := by simpa using (hl 0).symm
    simp only [List.length_cons, Region.seqB, Bool.and_eq_true, decide_eq_true_eq] at hB
    refine ⟨fun h1 => (by rw [hB.1] at h1; cases h1), fun i hi => ?_⟩
    rw [hB.1] at hi
    have hik : i = k := by simpa using hi
    subst hik
    have hw : wpOpIn Fence.wide 1 P ops Q i (wpListIn Fence.wide 1 P ops Q l) a w := by unfold wpOpIn; simp only [h0]; exact h
    exact wpOpIn_mono (fun a' w' h' => wpAnyIn_of_seq l (i + 1) _ a' w' (fun j => by have := hl (j + 1); simpa [Nat.add_assoc, Nat.add_comm 1 j] using this) hB.2 h') hw
theorem wp_regti (n : Nat) {id : Nat} {l : List Oper} (hy : N.y = true) (hm : P.follows .mixedOrders = true) (hB : Region.lexTailB .any l.toArray n = true)
    (h : SLI P N B w0 l (l.take n) (l.drop n) Q al H) : WP P N B w0 (.region id l.toArray true) Q al H := by
  intro a w hst
  refine .inr ⟨hy, (wpIn_wide (n := 1)).1 (wpIn_region_any hm ?_)⟩
  have hw := h a _ hst.drew
  simp only [Region.lexTailB, Bool.and_eq_true, decide_eq_true_eq] at hB
  obtain ⟨⟨⟨⟨h1, h2⟩, h3⟩, h4⟩, h5⟩ := hB
  have e1 : n < l.length := by simpa using h2
  have e2 : (l.take n).length = n := by simp; omega
  have e3 : (l.drop n).length = l.toArray.size - n := by simp
  have hh := wpAnyL_lex (md := .any) (g := l.toArray.size - n) h1 h3 h4 h2 (l.take n) 0 (Array.replicate l.toArray.size false) a (fun j hj => by
      have : j < n := by rw [e2] at hj; exact hj
      simp [this]) (by simpa using e2)
    ⟨by simp, fun j oj _ hl => (by rw [getD_replicate_false] at hl; cases hl), fun t _ ht => getD_in (by simpa using ht) (getD_replicate_false _ _)⟩ (by rw [e2]; exact h5) hw
  have := wpAnyIn_of_head (Q := Q) (g := l.toArray.size - n) (fun listed a' hL => by
    have := wpAnyIn_of_seq (Q := Q) (l.drop n) n listed a' { w with drawn := w.drawn + 1 } (fun j => by simp [List.getElem?_drop]) (by rw [e3]; exact hL.1) hL.2
    rwa [e3] at this) _ _ _ hh
  rw [e2, show n + (l.toArray.size - n) = l.toArray.size by omega] at this
  exact this
theorem sli_nil (h : OLI P N B w0 ops tail Q al H) : SLI P N B w0 ops [] tail Q al H := fun a w hst => wpStill_nil (h a w hst)
theorem sli_r (hr : Runs P N B w0 op ty al H v) (hd : Nat.blt d N.n = true) (k : SLI P N B w0 ops rest tail Q ((d, v) :: al) H) :
    SLI P N B w0 ops ({ dst := some d, op, type := ty, pos, after, guard := none } :: rest) tail Q al H := by
  intro a w hst
  refine wpStill_step fun K hK => ?_
  rw [if_pos (by rfl)]
  unfold Oper.still
  rw [show execOp a.eval { dst := some d, op, type := ty, pos, after, guard := none } = execOp a.eval { dst := none, op, type := ty, pos := "", after := #[], guard := none } from rfl, hr a w hst]
  exact ⟨rfl, hK _ (k _ _ (hst.put (by simpa using hd) v))⟩
theorem sli_ixr {α : Type} {E : Enc α} {a : Option Addr} {n cap : Nat} {xs : List α} {s i : Operand} {t : TypeId} {kd : IntKind} {iv : Int} (hl : Rd E B w0 a n cap xs) (hs : ev al s = some (.slice a n cap)) (hi : ev al i = some (.int kd iv)) (hT : Slc P t E.size) (h0 : 0 ≤ iv ∧ iv < n) (hd : Nat.blt d N.n = true)
    (k : ∀ x, xs[iv.toNat]? = some x → SLI P N B w0 ops rest tail Q ((d, .pointer (a.map (·.add (iv.toNat * E.size)))) :: al) H) :
    SLI P N B w0 ops ({ dst := some d, op := .indexAddr t s i, type := ty, pos, after, guard := none } :: rest) tail Q al H := by
  obtain ⟨x, hx⟩ := hl.get (i := iv.toNat) (by omega)
  exact sli_r (r_ix hs hi hT (hl.isSome (by omega)) h0) hd (k x hx)
/-- The end of an iterator. -/
def EndsI (P : Program) (N : Fr) (R : World → Prop) (Q : Exit → Act → World → Prop) : Prop :=
  ∀ B w0 e al H, (e = .ret ∨ e = .normal) → (∀ w, Below B w0 w → Sat B w H → B ≤ w.heap.size → R w) → QP N B w0 Q e al H
theorem EndsI.fall {R : World → Prop} {Q0 : Exit → Act → World → Prop} (h : EndsI P N R Q0) (hQ : ∀ a w, Q0 .normal a w → Q .normal a w) (hR : ∀ w, Below B w0 w → Sat B w H → B ≤ w.heap.size → R w) : QP N B w0 Q .normal al H := QP.of (h _ _ _ _ _ (.inr rfl) hR) hQ
theorem EndsI.ret {R : World → Prop} {Q0 : Exit → Act → World → Prop} (h : EndsI P N R Q0) (hQ : ∀ a w, Q0 .ret a w → Q .ret a w) (hR : ∀ w, Below B w0 w → Sat B w H → B ≤ w.heap.size → R w) : WP P N B w0 .ret Q al H := wp_ret' (QP.of (h _ _ _ _ _ (.inl rfl) hR) hQ)
theorem enterI {n : Nat} {f : FuncId} {fn : Func} {c : Code} {args : List Value} {w : World} {R : World → Prop} (hf : P.funcs[f]? = some fn) (hb : fn.body = some c) (hn : fn.ntmps = n) (hres : fn.results = #[]) (hl : Nat.ble args.length n = true)
    (h : ∀ Q, EndsI P ⟨n, fun _ => True, [], true⟩ R Q → WP P ⟨n, fun _ => True, [], true⟩ w.heap.size w c Q (pairs 0 args) []) : CallsIn Fence.wide 0 P f args.toArray w fun e w' => (∃ v, e = .returned v) ∧ R w' := by
  refine callsIn_of_wp hf hb trivial (wpIn_wide.2 (D.wp _ _ _ _ _ (h (bodyPost P fn fun e w' => (∃ v, e = .returned v) ∧ R w') ?_ _ _ ⟨⟨rfl, ?_, fun n v hv => ?_⟩, Below.refl _ _, Sat.nil _ _, Nat.le_refl _, (fun h => by cases h), MarkOk.nil _ _⟩))) rfl
  · intro B w0 e al H he hR a w' hst
    have hres' : (results fn a.tmps).run P w' = .ok (.tuple #[]) w' := by simp [results, hres]
    have hd : a.defers = [] := hst.regs.defers
    rcases he with rfl | rfl <;> exact ⟨hd, _, hres', ⟨_, rfl⟩, hR w' hst.below hst.sat hst.base⟩
  · have : args.length ≤ n := by simpa using hl
    simp [hn]; omega
  · have := look_pairs hv
    simp only [Nat.sub_zero] at this
    have h2 := (List.getElem?_eq_some_iff.1 this.2).1
    rw [Array.getElem?_append_left (by simpa using h2)]
    simpa using this.2
end
end Go.Proofs.Ytogcclagmobkiaa.Hx
