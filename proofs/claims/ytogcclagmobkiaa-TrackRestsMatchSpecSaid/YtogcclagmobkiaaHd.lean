/-
  A walk's condition that is read off the code: what holds of it holds in a function's own frame, and in a round's. No program stands here.
-/
import Derived.WalkKit
import Derived.Deep.RegionHeld3
import Derived.RangeFuncWrites
import Derived.RangeFuncCalls
import Derived.RangeFuncLeaves
import Derived.Deep.LoopGhost
import Derived.Deep.Quiet
import Derived.Sort.LoopGhostIn
namespace Go.Proofs.Ytogcclagmobkiaa.Hx
open Go Go.RowKit
set_option linter.unusedVariables false
set_option linter.unusedSimpArgs false
set_option linter.unusedSectionVars false

def dloop (f : (Exit → Act → World → Prop) → Act → World → Prop) (Q : Exit → Act → World → Prop) : Nat → Act → World → Prop
  | 0 => fun _ _ => False
  | n + 1 => f (Exit.then (dloop f Q n) Q)

def D (f : Bool) (P : Program) : Code → (Exit → Act → World → Prop) → Act → World → Prop
  | .skip, Q => Q .normal
  | .ret, Q => Q .ret
  | .exit id, Q => Q (.exit id)
  | .seq x y, Q => D f P x (Exit.then (D f P y Q) Q)
  | .cond c x y, Q => fun a w => ∃ t, a.eval c = .bool t ∧ (match t with | true => D f P x Q a w | false => D f P y Q a w)
  | .block id c, Q => D f P c (Exit.inBlock id Q)
  | .loop c, Q => fun a w => ∃ n, dloop (D f P c) Q n a w
  | .region id ops false, Q => fun a w => wpOps P ops Q (List.range ops.size) a w ∨ (f = true ∧ (Code.region id ops false).wp P Q a w)
  | .region id ops true, Q => fun a w => (∀ t, wpOps P ops Q (Region.schedule (P.follows .mixedOrders) ops t) a { w with drawn := w.drawn + 1 }) ∨ (f = true ∧ (Code.region id ops true).wp P Q a w)
  | .rangeFunc g ps x y, Q => (Code.rangeFunc g ps x y).wp P Q
  | .scope x, Q => (Code.scope x).wp P Q
  | .label l, Q => (Code.label l).wp P Q
  | .goto l, Q => (Code.goto l).wp P Q
  | .refuse s, Q => (Code.refuse s).wp P Q

theorem then_imp {K K' : Act → World → Prop} {Q : Exit → Act → World → Prop} (h : ∀ a w, K a w → K' a w) : ∀ e a w, Exit.then K Q e a w → Exit.then K' Q e a w := fun e a w hq => by
  cases e <;> first | exact h _ _ hq | exact hq

theorem D.wp {P : Program} (f : Bool) : ∀ (c : Code) (Q : Exit → Act → World → Prop) (a : Act) (w : World), D f P c Q a w → c.wp P Q a w
  | .skip, Q, a, w, h => wp_skip h
  | .ret, Q, a, w, h => wp_ret h
  | .exit id, Q, a, w, h => wp_exit h
  | .seq x y, Q, a, w, h => wp_seq (wp_mono (D.wp f x _ a w h) (then_imp fun a w h => D.wp f y Q a w h))
  | .cond c x y, Q, a, w, h => by
    obtain ⟨t, hc, h⟩ := h
    cases t
    · exact wp_cond_false hc (D.wp f y Q a w h)
    · exact wp_cond_true hc (D.wp f x Q a w h)
  | .block id c, Q, a, w, h => wp_block (D.wp f c _ a w h)
  | .loop c, Q, a, w, h => by
    obtain ⟨n, h⟩ := h
    refine wp_loop_ghost (fun n a w => dloop (D f P c) Q n a w) n h ?_
    intro n a w h
    cases n with
    | zero => exact h.elim
    | succ n => exact wp_mono (D.wp f c _ a w h) (then_imp fun a w h => ⟨n, Nat.lt_succ_self n, h⟩)
  | .region _ ops false, Q, a, w, h => h.elim (fun h => wp_region h) (fun h => h.2)
  | .region _ ops true, Q, a, w, h => h.elim (fun h => wp_region_draw h) (fun h => h.2)
  | .rangeFunc g ps x y, Q, a, w, h => h
  | .scope x, Q, a, w, h => h
  | .label l, Q, a, w, h => h
  | .goto l, Q, a, w, h => h
  | .refuse s, Q, a, w, h => h

/-! ### in a round -/
def noDefer (o : Oper) : Bool := match o.op with | .defer _ => false | _ => true
theorem noDefer_spec {o : Oper} (h : noDefer o = true) : ∀ c, o.op ≠ .defer c := fun c hc => by simp [noDefer, hc] at h
def Rnd : Code → Bool
  | .skip => true
  | .ret => true
  | .exit _ => true
  | .seq x y => Rnd x && Rnd y
  | .cond _ x y => Rnd x && Rnd y
  | .block _ c => Rnd c
  | .loop c => Rnd c
  | .region _ ops _ => ops.toList.all noDefer
  | _ => false

theorem rows_in {P : Program} {row : String} {args : Array Value} {w : World} {R : Value → World → Prop} {l n : Nat} (h : Rows P row args w R) : RowsIn (Fence.wide.inRound l) n P row args w R :=
  fun c cs _ => let ⟨v, w', r, s⟩ := h c cs; ⟨v, w', r, stepsIn_wide.2 s⟩
theorem oper_in {P : Program} {o : Oper} {a : Act} {w : World} {K K' : Act → World → Prop} {Q : Exit → Act → World → Prop} {l n : Nat} (hd : noDefer o = true) (hk : ∀ a w, K a w → K' a w) (h : o.wp P a w K Q) :
    o.wpIn (Fence.wide.inRound l) n P a w K' Q := by
  refine ⟨fun f _ => trivial, ?_⟩
  rw [show (Fence.wide.inRound l).round = some l from rfl, Oper.semAt_some l _ _ (noDefer_spec hd)]
  unfold Oper.wp at h
  generalize (execOp a.eval o).run P w = r at *
  cases r with
  | ok x w' =>
    cases x with
    | value v => exact hk _ _ h
    | skip => exact hk _ _ h
    | defer d => exact hk _ _ h
    | enter f args =>
      refine ⟨fun h => by simp [Fence.wide] at h, (CallsIn.inRound l (callsIn_wide.2 h)).mono fun e w'' he => ?_⟩
      cases e with
      | returned v => exact hk _ _ he
      | panicked c => exact he
      | outgrown => exact he
    | row r args => exact ⟨fun h => by simp [Fence.wide] at h, rows_in (Rows.mono h fun v w' h => hk _ _ h)⟩
    | _ => exact (h : False).elim
  | halt x w' =>
    cases x with
    | panic v => exact h
    | _ => exact (h : False).elim
theorem opers_in {P : Program} {ops : Array Oper} {Q : Exit → Act → World → Prop} {l n : Nat} (hQ : ∀ a w, ¬Q .outgrown a w) (hd : ops.toList.all noDefer = true) : ∀ (is : List Nat) (a : Act) (w : World), wpOps P ops Q is a w → wpOpsIn (Fence.wide.inRound l) n P ops Q is a w
  | [], a, w, h => h
  | i :: r, a, w, h => by
    unfold wpOps at h
    unfold wpOpsIn
    cases ho : ops[i]? with
    | none => rw [ho] at h; exact opers_in hQ hd r a w h
    | some o =>
      rw [ho] at h
      have hdo : noDefer o = true := List.all_eq_true.1 hd o (by rw [Array.mem_toList_iff]; exact Array.mem_of_getElem? ho)
      dsimp only at h ⊢
      split
      · rename_i hw
        rw [if_pos hw] at h
        rcases h with h | ⟨_, a1, w1, h⟩
        · exact oper_in hdo (fun a w h => opers_in hQ hd r a w h) h
        · exact (hQ _ _ h).elim
      · rename_i hw
        rw [if_neg hw] at h
        exact ⟨fun f _ => trivial, opers_in hQ hd r _ w h⟩
theorem D.wpIn {P : Program} {l n : Nat} : ∀ (c : Code) (Q : Exit → Act → World → Prop) (a : Act) (w : World), (∀ a w, ¬Q .outgrown a w) → Rnd c = true → D false P c Q a w → c.wpIn (Fence.wide.inRound l) n P Q a w
  | .skip, Q, a, w, hQ, _, h => wpIn_skip h
  | .ret, Q, a, w, hQ, _, h => wpIn_ret h
  | .exit id, Q, a, w, hQ, _, h => wpIn_exit h
  | .seq x y, Q, a, w, hQ, hr, h => by
    simp only [Rnd, Bool.and_eq_true] at hr
    exact wpIn_seq (wpIn_mono (D.wpIn x (Exit.then (D false P y Q) Q) a w hQ hr.1 h) (then_imp fun a w h => D.wpIn y Q a w hQ hr.2 h))
  | .cond c x y, Q, a, w, hQ, hr, h => by
    simp only [Rnd, Bool.and_eq_true] at hr
    obtain ⟨t, hc, h⟩ := h
    cases t
    · exact wpIn_cond_false hc (D.wpIn y Q a w hQ hr.2 h)
    · exact wpIn_cond_true hc (D.wpIn x Q a w hQ hr.1 h)
  | .block id c, Q, a, w, hQ, hr, h => wpIn_block (D.wpIn c (Exit.inBlock id Q) a w hQ hr h)
  | .loop c, Q, a, w, hQ, hr, h => by
    obtain ⟨m, h⟩ := h
    refine wpIn_loop_ghost (fun n a w => dloop (D false P c) Q n a w) m h ?_
    intro m a w h
    cases m with
    | zero => exact h.elim
    | succ m => exact wpIn_mono (D.wpIn c (Exit.then (dloop (D false P c) Q m) Q) a w hQ hr h) (then_imp fun a w h => ⟨m, Nat.lt_succ_self m, h⟩)
  | .region _ ops false, Q, a, w, hQ, hr, h => wpIn_region (opers_in hQ hr _ a w (h.elim (fun h => h) (fun h => absurd h.1 (by simp))))
  | .region _ ops true, Q, a, w, hQ, hr, h => wpIn_region_draw fun t => opers_in hQ hr _ a _ (h.elim (fun h => h) (fun h => absurd h.1 (by simp)) t)

/-! ### regions -/
section
variable {P : Program} {Q : Exit → Act → World → Prop} {a : Act} {w : World} {f : Bool}
theorem d_lit {id : Nat} {l : List Oper} (h : wpList P l.toArray Q l a w) : D f P (.region id l.toArray false) Q a w := by
  refine .inl ?_
  show wpOps P l.toArray Q (List.range l.toArray.size) a w
  rw [List.range_eq_range', ← Array.length_toList, wpOps_eq_wpList l.toArray.toList 0 (by simp)]
  simpa using h
theorem d_any {id : Nat} {ops : Array Oper} (hm : P.follows .mixedOrders = true) (h : wpAny P .any ops Q ops.size (Array.replicate ops.size false) a { w with drawn := w.drawn + 1 }) : D f P (.region id ops true) Q a w := by
  refine .inl fun t => ?_
  simp only [Region.schedule, hm, Bool.true_or, if_true]
  exact wpAny_sound ops.size t _ a _ h
theorem oper_q {o : Oper} {K : Act → World → Prop} {Q' : Exit → Act → World → Prop} (hq : ∀ e a w, Q e a w → Q' e a w) (h : o.wp P a w K Q) : o.wp P a w K Q' := by
  unfold Oper.wp at *
  generalize (execOp a.eval o).run P w = r at *
  cases r with
  | ok x w' =>
    cases x with
    | enter f args =>
      refine Calls.mono h fun e w'' he => ?_
      cases e with
      | returned v => exact he
      | panicked c => exact hq _ _ _ he
      | outgrown => obtain ⟨a, w, he⟩ := he; exact ⟨a, w, hq _ _ _ he⟩
    | _ => exact h
  | halt x w' =>
    cases x with
    | panic v => exact hq _ _ _ h
    | _ => exact h
theorem wpOp_q {ops : Array Oper} {i : Nat} {K : Act → World → Prop} {Q' : Exit → Act → World → Prop} (hq : ∀ e a w, Q e a w → Q' e a w) (h : wpOp P ops Q i K a w) : wpOp P ops Q' i K a w := by
  unfold wpOp at *
  split
  · rename_i ho; simpa [ho] using h
  · rename_i o ho
    rw [ho] at h
    dsimp only at h
    split
    · rename_i hw
      rw [if_pos hw] at h
      rcases h with h | ⟨h, a1, w1, h1⟩
      · exact .inl (oper_q hq h)
      · exact .inr ⟨h, a1, w1, hq _ _ _ h1⟩
    · rename_i hw; rw [if_neg hw] at h; exact h
theorem wpAny_q {ops : Array Oper} {Q' : Exit → Act → World → Prop} (hq : ∀ e a w, Q e a w → Q' e a w) : ∀ (f : Nat) (listed : Array Bool) (a : Act) (w : World), wpAny P .any ops Q f listed a w → wpAny P .any ops Q' f listed a w
  | 0, _, _, _, h => ⟨h.1, hq _ _ _ h.2⟩
  | f + 1, _, _, _, h => ⟨fun h0 => hq _ _ _ (h.1 h0), fun i hi => wpOp_q hq (wpOp_mono (fun a w h => wpAny_q hq f _ a w h) (h.2 i hi))⟩
theorem d_quiet {C : World → Prop} {id : Nat} {ops : Array Oper} (hm : P.follows .mixedOrders = true) (hB : Region.lexB .any ops = true) (hC : C { w with drawn := w.drawn + 1 })
    (h : wpQuiet P ops C (fun a' => ∀ w', C w' → Q .normal a' w') ops.toList a) : D f P (.region id ops true) Q a w := by
  simp only [Region.lexB, Bool.and_eq_true] at hB
  have := wpAnyQ_lex (C := C) (md := .any) hB.1 ops.toList 0 (Array.replicate ops.size false) a (by simp) (by simpa using hB.2) h
  rw [Array.length_toList] at this
  exact d_any hm (wpAny_of_quiet (Q := fun a' => ∀ w', C w' → Q .normal a' w') (fun _ w' hw' h => h w' hw') _ _ _ _ hC this)
end
end Go.Proofs.Ytogcclagmobkiaa.Hx
