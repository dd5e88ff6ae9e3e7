/-
  What was there before a call is as it was; and draws are only added.
-/
import Derived.WalkKit
import Derived.Below
import Derived.Deep.RegionHeld3
import Derived.RangeFuncWrites
import Derived.RangeFuncCalls
import Derived.RangeFuncLeaves
import Derived.Deep.LoopGhost
import Derived.Deep.Quiet
import Derived.Sort.LoopGhostIn
import Derived.ProofKit
import Derived.KernelRfl
import Derived.Test.YtafkojlccknicaaProg
import Derived.StillTail
import Derived.Test.YtafkojlccknicaaRows
import Derived.OpenShut
import Derived.ShutString
import Derived.ChangeOld
import Derived.Deep.Slices
import Derived.ChangeArms
import Derived.SizedLaws
import Derived.OrdersHeld
import Derived.RangeFuncNested
import Derived.OrdersIn
import Derived.TacticsIn
import Derived.Laws.Strings
import Derived.Laws.Cover1
import Derived.Sort.Grow
import Derived.Shelf.Sort.Plain
import Derived.Lib.SlicesCompact
import Derived.Lib.AppendZeros
import Derived.Shelf.SlSortCmp.NoneTotal
import Derived.Shelf.Slices.CompactI
import Derived.Shelf.Small.Wraps


namespace Go.Proofs.Ytafkojlccknicaa
open Go
set_option linter.unusedVariables false
set_option linter.unusedSimpArgs false
theorem ask_drawn {α : Type} : ∀ (a : Ask α) (w : World), w.drawn ≤ (w.ask a).2.drawn
  | .done a, w => Nat.le_refl _
  | .ask what range k, w => by
    unfold World.ask
    dsimp only
    split
    · exact ask_drawn (k 0) w
    · exact Nat.le_trans (Nat.le_succ _) (ask_drawn (k _) { w with drawn := w.drawn + 1 })
theorem sys_drawn (w : World) (c : Sys) : w.drawn ≤ (w.sys c).2.drawn := by
  have h := ask_drawn (Kernel.perform c w.os) w
  unfold World.sys
  split
  · exact Nat.le_refl _
  · rename_i r os w2 _ he
    rw [he] at h
    exact h
theorem viewStore_drawn {P : Program} {w w' : World} {a : Addr} {u : TypeId} {k : Addr} {v : Value} {c : Bool} {l : List Addr} (h : w.viewStore P a u k v c = .ok (w', l)) : w'.drawn = w.drawn := by
  unfold World.viewStore at h
  simp only [bind, Except.bind, pure, Except.pure, throw, throwThe, MonadExceptOf.throw] at h
  repeat' split at h
  all_goals first
    | (cases h; done)
    | (simp only [Except.ok.injEq, Prod.mk.injEq] at h; rw [← h.1])
    | skip
theorem farStore_drawn {P : Program} {w w' : World} {a : Addr} {v : Value} {c : Bool} {l : List Addr} (h : w.farStore P a v c = .ok (w', l)) : w'.drawn = w.drawn := by
  unfold World.farStore at h
  split at h
  · split at h
    · rename_i r hr
      cases h
      exact viewStore_drawn hr
    · cases h
  · cases h
theorem run_drawn {P : Program} {α : Type} (s : Sem α) : ∀ (w : World) (v : α) (w' : World), s.run P w = .ok v w' → w.drawn ≤ w'.drawn := by
  induction s with
  | pure a => intro w v w' h; simp only [Sem.run, Result.ok.injEq] at h; rw [h.2]; exact Nat.le_refl _
  | load m a k ih =>
    intro w v w' h
    simp only [Sem.run] at h
    split at h
    · exact ih _ w v w' h
    · split at h
      · exact ih _ w v w' h
      · cases h
  | store m a v k ih =>
    intro w r w' h
    have key : (match w.cell? a with
        | some _ => if w.frozen? a then Result.halt (.unsupported (.unsafePointer "a write to bytes that a string shares")) w else k.run P (w.setCell a v)
        | none => match w.farStore P a v (m == Mode.atomic) with
          | .ok (w, _) => k.run P w
          | .error h => .halt h w) = .ok r w' → w.drawn ≤ w'.drawn := by
      intro h
      split at h
      · split at h
        · cases h
        · exact ih (w.setCell a v) r w' h
      · split at h
        · rename_i w1 l he
          have h1 := ih w1 r w' h
          rw [farStore_drawn he] at h1
          exact h1
        · cases h
    cases v with
    | agg cs => simp only [Sem.run] at h; cases h
    | tuple cs => simp only [Sem.run] at h; cases h
    | _ => simp only [Sem.run] at h; exact key h
  | new o k ih => intro w v w' h; simp only [Sem.run] at h; have h1 := ih _ _ v w' h; exact h1
  | shape r k ih => intro w v w' h; simp only [Sem.run] at h; exact ih _ _ v w' h
  | freeze a n k ih => intro w v w' h; simp only [Sem.run] at h; have h1 := ih (w.freeze a n) v w' h; have h2 : (w.freeze a n).drawn = w.drawn := (by unfold World.freeze; repeat' (first | rfl | split)); rw [h2] at h1; exact h1
  | frozen a k ih => intro w v w' h; simp only [Sem.run] at h; exact ih _ _ v w' h
  | getObj r k ih =>
    intro w v w' h
    simp only [Sem.run] at h
    split at h
    · cases h
    · exact ih _ w v w' h
    · cases h
  | setObj r o k ih =>
    intro w v w' h
    simp only [Sem.run] at h
    split at h
    · cases h
    · have h1 := ih _ v w' h
      exact h1
    · cases h
  | choose q k ih =>
    intro w v w' h
    simp only [Sem.run] at h
    split at h
    · exact ih _ w v w' h
    · exact Nat.le_trans (Nat.le_succ _) (ih _ _ v w' h)
  | sys c k ih =>
    intro w v w' h
    simp only [Sem.run] at h
    exact Nat.le_trans (sys_drawn w c) (ih _ _ v w' h)
  | program k ih => intro w v w' h; simp only [Sem.run] at h; exact ih _ _ v w' h
  | mark m k ih => intro w v w' h; simp only [Sem.run] at h; exact ih _ v w' h
  | halt hh => intro w v w' h; simp only [Sem.run] at h; cases h
/-- Below block number B the world w' is as w was; the streams are as they were; no block has gone. -/
structure Below (B : Nat) (w w' : World) : Prop where
  os : w'.os = w.os
  tape : w'.tape = w.tape
  output : w'.output = w.output
  size : w.heap.size ≤ w'.heap.size
  block : ∀ k, k < B → w'.heap[k]? = w.heap[k]?
theorem Below.go {B : Nat} {w w' : World} (h : Below B w w') : Go.RowKit.Below B w w' := ⟨h.os, h.tape, h.output, h.size, h.block⟩
theorem Below.kit {B : Nat} {w w' : World} (h : Go.RowKit.Below B w w') : Below B w w' := ⟨h.os, h.tape, h.output, h.size, h.block⟩
theorem Below.of {B : Nat} {w w' : World} (h : Go.RowKit.Below B w w') (_ : w.drawn ≤ w'.drawn) : Below B w w' := Below.kit h
theorem Below.refl (B : Nat) (w : World) : Below B w w := ⟨rfl, rfl, rfl, Nat.le_refl _, fun _ _ => rfl⟩
theorem Below.trans {B : Nat} {a b c : World} (h : Below B a b) (k : Below B b c) : Below B a c := Below.kit (h.go.trans k.go)
theorem Below.mono {B B' : Nat} {w w' : World} (h : Below B w w') (hB : B' ≤ B) : Below B' w w' := Below.kit (h.go.mono hB)
theorem Below.drew {B : Nat} {a w : World} (h : Below B a w) : Below B a w.drew := Below.kit h.go.drew
theorem Below.heap_alloc (w : World) (o : Obj) (k : Nat) (h : k < w.heap.size) : (w.alloc o).heap[k]? = w.heap[k]? := Go.RowKit.Below.heap_alloc w o k h
theorem Below.alloc {B : Nat} {a w : World} (h : Below B a w) (hB : B ≤ w.heap.size) (o : Obj) : Below B a (w.alloc o) := Below.kit (h.go.alloc hB o)
theorem Below.setCell {B : Nat} {a w : World} (h : Below B a w) {p : Addr} (hp : B ≤ p.block) (u : Value) : Below B a (w.setCell p u) := Below.kit (h.go.setCell hp u)
theorem Below.grown {B : Nat} {a w w' : World} {row : Option Nat} (h : Below B a w) (hg : w.grownBy w' row) (hB : B ≤ w.heap.size) (hr : ∀ k, row = some k → B ≤ k) (_ : w.drawn ≤ w'.drawn) : Below B a w' := Below.kit (h.go.grown hg hB hr)
theorem Below.cell {B : Nat} {w w' : World} (h : Below B w w') {p : Addr} (hp : p.block < B) : w'.cell? p = w.cell? p := h.go.cell hp
theorem Below.frozen {B : Nat} {w w' : World} (h : Below B w w') {p : Addr} (hp : p.block < B) : w'.frozen? p = w.frozen? p := h.go.frozen hp
theorem Below.frame {W w' : World} (h : Below W.heap.size W w') (may : MemPlace → Prop) : W.keptBut w' may := h.go.frame may
end Go.Proofs.Ytafkojlccknicaa

/-
  A walk's condition that is read off the code: what holds of it holds in a function's own frame, and in a round's. No program stands here.
-/








namespace Go.Proofs.Ytafkojlccknicaa.Hx
open Go Go.RowKit
set_option linter.unusedVariables false
set_option linter.unusedSimpArgs false
set_option linter.unusedSectionVars false

def dloop (f : (Exit → Act → World → Prop) → Act → World → Prop) (Q : Exit → Act → World → Prop) : Nat → Act → World → Prop
  | 0 => fun _ _ => False
  | n + 1 => f (Exit.then (dloop f Q n) Q)

def D (f : Bool) (P : Program) : Code → (Exit → Act → World → Prop) → Act → World → Prop
  | .skip, Q => Q .normal
  | .ret, Q => Q .ret
  | .exit id, Q => Q (.exit id)
  | .seq x y, Q => D f P x (Exit.then (D f P y Q) Q)
  | .cond c x y, Q => fun a w => ∃ t, a.eval c = .bool t ∧ (match t with | true => D f P x Q a w | false => D f P y Q a w)
  | .block id c, Q => D f P c (Exit.inBlock id Q)
  | .loop c, Q => fun a w => ∃ n, dloop (D f P c) Q n a w
  | .region id ops false, Q => fun a w => wpOps P ops Q (List.range ops.size) a w ∨ (f = true ∧ (Code.region id ops false).wp P Q a w)
  | .region id ops true, Q => fun a w => (∀ t, wpOps P ops Q (Region.schedule (P.follows .mixedOrders) ops t) a { w with drawn := w.drawn + 1 }) ∨ (f = true ∧ (Code.region id ops true).wp P Q a w)
  | .rangeFunc g ps x y, Q => (Code.rangeFunc g ps x y).wp P Q
  | .scope x, Q => (Code.scope x).wp P Q
  | .label l, Q => (Code.label l).wp P Q
  | .goto l, Q => (Code.goto l).wp P Q
  | .refuse s, Q => (Code.refuse s).wp P Q

theorem then_imp {K K' : Act → World → Prop} {Q : Exit → Act → World → Prop} (h : ∀ a w, K a w → K' a w) : ∀ e a w, Exit.then K Q e a w → Exit.then K' Q e a w := fun e a w hq => by
  cases e <;> first | exact h _ _ hq | exact hq

theorem D.wp {P : Program} (f : Bool) : ∀ (c : Code) (Q : Exit → Act → World → Prop) (a : Act) (w : World), D f P c Q a w → c.wp P Q a w
  | .skip, Q, a, w, h => wp_skip h
  | .ret, Q, a, w, h => wp_ret h
  | .exit id, Q, a, w, h => wp_exit h
  | .seq x y, Q, a, w, h => wp_seq (wp_mono (D.wp f x _ a w h) (then_imp fun a w h => D.wp f y Q a w h))
  | .cond c x y, Q, a, w, h => by
    obtain ⟨t, hc, h⟩ := h
    cases t
    · exact wp_cond_false hc (D.wp f y Q a w h)
    · exact wp_cond_true hc (D.wp f x Q a w h)
  | .block id c, Q, a, w, h => wp_block (D.wp f c _ a w h)
  | .loop c, Q, a, w, h => by
    obtain ⟨n, h⟩ := h
    refine wp_loop_ghost (fun n a w => dloop (D f P c) Q n a w) n h ?_
    intro n a w h
    cases n with
    | zero => exact h.elim
    | succ n => exact wp_mono (D.wp f c _ a w h) (then_imp fun a w h => ⟨n, Nat.lt_succ_self n, h⟩)
  | .region _ ops false, Q, a, w, h => h.elim (fun h => wp_region h) (fun h => h.2)
  | .region _ ops true, Q, a, w, h => h.elim (fun h => wp_region_draw h) (fun h => h.2)
  | .rangeFunc g ps x y, Q, a, w, h => h
  | .scope x, Q, a, w, h => h
  | .label l, Q, a, w, h => h
  | .goto l, Q, a, w, h => h
  | .refuse s, Q, a, w, h => h

/-! ### in a round -/
def noDefer (o : Oper) : Bool := match o.op with | .defer _ => false | _ => true
def Rnd : Code → Bool
  | .skip => true
  | .ret => true
  | .exit _ => true
  | .seq x y => Rnd x && Rnd y
  | .cond _ x y => Rnd x && Rnd y
  | .block _ c => Rnd c
  | .loop c => Rnd c
  | .region _ ops _ => ops.toList.all noDefer
  | _ => false

/-! ### regions -/
section
variable {P : Program} {Q : Exit → Act → World → Prop} {a : Act} {w : World} {f : Bool}
theorem d_lit {id : Nat} {l : List Oper} (h : wpList P l.toArray Q l a w) : D f P (.region id l.toArray false) Q a w := by
  refine .inl ?_
  show wpOps P l.toArray Q (List.range l.toArray.size) a w
  rw [List.range_eq_range', ← Array.length_toList, wpOps_eq_wpList l.toArray.toList 0 (by simp)]
  simpa using h
theorem d_any {id : Nat} {ops : Array Oper} (hm : P.follows .mixedOrders = true) (h : wpAny P .any ops Q ops.size (Array.replicate ops.size false) a { w with drawn := w.drawn + 1 }) : D f P (.region id ops true) Q a w := by
  refine .inl fun t => ?_
  simp only [Region.schedule, hm, Bool.true_or, if_true]
  exact wpAny_sound ops.size t _ a _ h
theorem oper_q {o : Oper} {K : Act → World → Prop} {Q' : Exit → Act → World → Prop} (hq : ∀ e a w, Q e a w → Q' e a w) (h : o.wp P a w K Q) : o.wp P a w K Q' := by
  unfold Oper.wp at *
  generalize (execOp a.eval o).run P w = r at *
  cases r with
  | ok x w' =>
    cases x with
    | enter f args =>
      refine Calls.mono h fun e w'' he => ?_
      cases e with
      | returned v => exact he
      | panicked c => exact hq _ _ _ he
      | outgrown => obtain ⟨a, w, he⟩ := he; exact ⟨a, w, hq _ _ _ he⟩
    | _ => exact h
  | halt x w' =>
    cases x with
    | panic v => exact hq _ _ _ h
    | _ => exact h
theorem wpOp_q {ops : Array Oper} {i : Nat} {K : Act → World → Prop} {Q' : Exit → Act → World → Prop} (hq : ∀ e a w, Q e a w → Q' e a w) (h : wpOp P ops Q i K a w) : wpOp P ops Q' i K a w := by
  unfold wpOp at *
  split
  · rename_i ho; simpa [ho] using h
  · rename_i o ho
    rw [ho] at h
    dsimp only at h
    split
    · rename_i hw
      rw [if_pos hw] at h
      rcases h with h | ⟨h, a1, w1, h1⟩
      · exact .inl (oper_q hq h)
      · exact .inr ⟨h, a1, w1, hq _ _ _ h1⟩
    · rename_i hw; rw [if_neg hw] at h; exact h
theorem wpAny_q {ops : Array Oper} {Q' : Exit → Act → World → Prop} (hq : ∀ e a w, Q e a w → Q' e a w) : ∀ (f : Nat) (listed : Array Bool) (a : Act) (w : World), wpAny P .any ops Q f listed a w → wpAny P .any ops Q' f listed a w
  | 0, _, _, _, h => ⟨h.1, hq _ _ _ h.2⟩
  | f + 1, _, _, _, h => ⟨fun h0 => hq _ _ _ (h.1 h0), fun i hi => wpOp_q hq (wpOp_mono (fun a w h => wpAny_q hq f _ a w h) (h.2 i hi))⟩
theorem d_quiet {C : World → Prop} {id : Nat} {ops : Array Oper} (hm : P.follows .mixedOrders = true) (hB : Region.lexB .any ops = true) (hC : C { w with drawn := w.drawn + 1 })
    (h : wpQuiet P ops C (fun a' => ∀ w', C w' → Q .normal a' w') ops.toList a) : D f P (.region id ops true) Q a w := by
  simp only [Region.lexB, Bool.and_eq_true] at hB
  have := wpAnyQ_lex (C := C) (md := .any) hB.1 ops.toList 0 (Array.replicate ops.size false) a (by simp) (by simpa using hB.2) h
  rw [Array.length_toList] at this
  exact d_any hm (wpAny_of_quiet (Q := fun a' => ∀ w', C w' → Q .normal a' w') (fun _ w' hw' h => h w' hw') _ _ _ _ hC this)
end
end Go.Proofs.Ytafkojlccknicaa.Hx

/-
  A small logic of our own over the library's 'wp': what a frame and the blocks of a call hold, as two lists; one rule an operation. No program stands here.
-/






namespace Go.Proofs.Ytafkojlccknicaa.Hx
open Go Go.RowKit
set_option linter.unusedVariables false
set_option linter.unusedSimpArgs false
set_option linter.unusedSectionVars false

def look {β : Type} : List (Nat × β) → Nat → Option β
  | [], _ => none
  | (k, v) :: r, n => cond (Nat.beq k n) (some v) (look r n)

theorem look_cons_eq {β : Type} (k : Nat) (v : β) (r : List (Nat × β)) : look ((k, v) :: r) k = some v := by simp [look]
theorem look_cons_ne {β : Type} {k n : Nat} (v : β) (r : List (Nat × β)) (h : k ≠ n) : look ((k, v) :: r) n = look r n := by
  have : Nat.beq k n = false := by
    cases hb : Nat.beq k n with
    | false => rfl
    | true => exact absurd (Nat.eq_of_beq_eq_true hb) h
  simp [look, this]

/-- 'al' says no more than 'al2' does. -/
def Sub {β : Type} : List (Nat × β) → List (Nat × β) → Prop
  | [], _ => True
  | (k, v) :: r, m => look m k = some v ∧ Sub r m
theorem Sub.out {β : Type} {m : List (Nat × β)} : ∀ {l : List (Nat × β)}, Sub l m → ∀ n v, look l n = some v → look m n = some v
  | [], _, n, v, h => by simp [look] at h
  | (k, u) :: r, hs, n, v, h => by
    by_cases hk : k = n
    · subst hk; rw [look_cons_eq] at h; cases h; exact hs.1
    · rw [look_cons_ne _ _ hk] at h; exact hs.2.out n v h

abbrev AL := List (Nat × Value)

/-- What does not turn in a walk: how many slots there are; which blocks of maps may be written; the marks of loops over functions. -/
structure Fr where
  n : Nat
  c : Nat → Prop
  ds : List Nat
  y : Bool
@[reducible] def Fr.at (N : Fr) (ds : List Nat) : Fr := ⟨N.n, N.c, ds, N.y⟩
def mkMark (d : Nat) : Deferred := { target := .collected d, args := #[] }
structure Regs (N : Fr) (al : AL) (a : Act) : Prop where
  defers : a.defers = N.ds.map mkMark
  size : a.tmps.size = N.n
  slot : ∀ n v, look al n = some v → a.tmps[n]? = some v

def ev (al : AL) : Operand → Option Value
  | .tmp t => look al t
  | .const v => some v
  | .global g => some (.pointer (some ⟨g, 0, none⟩))
  | .func f => some (.func (.func f) #[] #[])

theorem Regs.eval {N : Fr} {al : AL} {a : Act} (h : Regs N al a) {x : Operand} {v : Value} (hx : ev al x = some v) : a.eval x = v := by
  cases x with
  | tmp t =>
    have := h.slot t v hx
    simp only [Act.eval, Array.getD_eq_getD_getElem?, this, Option.getD_some]
  | const u => simpa [ev, Act.eval] using hx
  | global g => simpa [ev, Act.eval] using hx
  | func f => simpa [ev, Act.eval] using hx

theorem Regs.put {N : Fr} {al : AL} {a : Act} (h : Regs N al a) {d : Nat} (hd : d < N.n) (v : Value) : Regs N ((d, v) :: al) (a.put (some d) v) := by
  refine ⟨h.defers, by simpa [Act.put] using h.size, fun n u hu => ?_⟩
  by_cases hk : d = n
  · subst hk
    rw [look_cons_eq] at hu; cases hu
    simp [Act.put, h.size, hd]
  · rw [look_cons_ne _ _ hk] at hu
    simp only [Act.put]
    rw [Array.getElem?_setIfInBounds_ne hk]
    exact h.slot n u hu

theorem Regs.sub {N : Fr} {al al' : AL} {a : Act} (h : Regs N al a) (hs : Sub al' al) : Regs N al' a :=
  ⟨h.defers, h.size, fun n v hn => h.slot n v (hs.out n v hn)⟩

/-! ### the blocks of the call -/
inductive Ent where
  | blk (b : Nat) (cl : List (Nat × Value)) (T : TypeId)
  | row (a : Option Addr) (n cap : Nat) (xs : List Value) (e : TypeId) (size : Nat)
  | mp (b : Nat) (es : List (Value × Value))
  | ob (b : Nat) (f : Obj → Prop)
  | gone

def Ent.own : Ent → Option Nat
  | .blk b _ _ => some b
  | .row a .. => a.map (·.block)
  | .mp b _ => some b
  | .ob b _ => some b
  | .gone => none

/-- What an entry owns is cells, or a map, or an iterator over one. -/
def Obj.known : Obj → Bool
  | .cells .. => true
  | .map .. => true
  | .mapIter .. => true
  | _ => false
def Ent.ok (B : Nat) (w : World) : Ent → Prop
  | .blk b cl T => B ≤ b ∧ ∃ cur, w.heap[b]? = some (.cells cur T (0, 0)) ∧ ∀ o v, look cl o = some v → cur[o]? = some v
  | .row a n cap xs e size => w.ownsRow B e size (.slice a n cap) n xs
  | .mp b es => B ≤ b ∧ ∃ ents clock, w.heap[b]? = some (.map ents clock) ∧ ents.toList.map (fun e => (e.key, e.val)) = es
  | .ob b f => B ≤ b ∧ ∃ o, w.heap[b]? = some o ∧ f o ∧ Obj.known o = true
  | .gone => True

theorem Ent.own_lt {B : Nat} {w : World} {e : Ent} (h : e.ok B w) {b : Nat} (hb : e.own = some b) : B ≤ b ∧ b < w.heap.size := by
  cases e with
  | blk b' cl T =>
    simp only [Ent.own, Option.some.injEq] at hb; subst hb
    obtain ⟨h1, cur, h2, _⟩ := h
    exact ⟨h1, (Array.getElem?_eq_some_iff.1 h2).1⟩
  | row a n cap xs e size =>
    cases a with
    | none => simp [Ent.own] at hb
    | some x =>
      simp only [Ent.own, Option.map_some, Option.some.injEq] at hb; subst hb
      exact World.ownsRow.lt h _ rfl
  | mp b' es =>
    simp only [Ent.own, Option.some.injEq] at hb; subst hb
    obtain ⟨h1, ents, clock, h2, _⟩ := h
    exact ⟨h1, (Array.getElem?_eq_some_iff.1 h2).1⟩
  | ob b' f =>
    simp only [Ent.own, Option.some.injEq] at hb; subst hb
    obtain ⟨h1, o, h2, _⟩ := h
    exact ⟨h1, (Array.getElem?_eq_some_iff.1 h2).1⟩
  | gone => simp [Ent.own] at hb

theorem Ent.ok_same {B : Nat} {w w' : World} {e : Ent} (h : e.ok B w) (hs : ∀ b, e.own = some b → w'.heap[b]? = w.heap[b]?) : e.ok B w' := by
  cases e with
  | blk b cl T =>
    obtain ⟨h1, cur, h2, h3⟩ := h
    exact ⟨h1, cur, by rw [hs b rfl]; exact h2, h3⟩
  | row a n cap xs e size =>
    obtain ⟨h1, h2⟩ := h
    refine ⟨h1, ?_⟩
    rcases h2 with h2 | ⟨g, cap', cur, hv, hb, hg, rest⟩
    · exact .inl h2
    · cases hv
      exact .inr ⟨g, cap, cur, rfl, hb, by rw [hs g rfl]; exact hg, rest⟩
  | mp b es =>
    obtain ⟨h1, ents, clock, h2, h3⟩ := h
    exact ⟨h1, ents, clock, by rw [hs b rfl]; exact h2, h3⟩
  | ob b f =>
    obtain ⟨h1, o, h2, h3⟩ := h
    exact ⟨h1, o, by rw [hs b rfl]; exact h2, h3⟩
  | gone => trivial
theorem Ent.own_known {B : Nat} {w : World} {e : Ent} (h : e.ok B w) {b : Nat} (hb : e.own = some b) {o : Obj} (ho : w.heap[b]? = some o) : Obj.known o = true := by
  cases e with
  | blk b' cl T =>
    simp only [Ent.own, Option.some.injEq] at hb; subst hb
    obtain ⟨h1, cur, h2, _⟩ := h
    rw [h2] at ho; cases ho; rfl
  | row a n cap xs e size =>
    cases a with
    | none => simp [Ent.own] at hb
    | some x =>
      simp only [Ent.own, Option.map_some, Option.some.injEq] at hb; subst hb
      rcases h.2 with ⟨h2, _⟩ | ⟨g, cap', cur, hv, hb, hg, rest⟩
      · cases h2
      · cases hv; rw [hg] at ho; cases ho; rfl
  | mp b' es =>
    simp only [Ent.own, Option.some.injEq] at hb; subst hb
    obtain ⟨h1, ents, clock, h2, _⟩ := h
    rw [h2] at ho; cases ho; rfl
  | ob b' f =>
    simp only [Ent.own, Option.some.injEq] at hb; subst hb
    obtain ⟨h1, o', h2, _, h3⟩ := h
    rw [h2] at ho; cases ho; exact h3
  | gone => simp [Ent.own] at hb

abbrev HL := List (Nat × Ent)

structure Sat (B : Nat) (w : World) (H : HL) : Prop where
  ok : ∀ i e, look H i = some e → e.ok B w
  apart : ∀ i j e f, i ≠ j → look H i = some e → look H j = some f → ∀ b, e.own = some b → f.own ≠ some b

theorem Sat.nil (B : Nat) (w : World) : Sat B w [] := ⟨fun i e h => by simp [look] at h, fun i j e f _ h => by simp [look] at h⟩

theorem Sat.below {B C : Nat} {w w' : World} {H : HL} (h : Sat B w H) (hb : Below w.heap.size w w') : Sat B w' H :=
  ⟨fun i e he => Ent.ok_same (h.ok i e he) fun b hbb => hb.block b (Ent.own_lt (h.ok i e he) hbb).2, h.apart⟩

theorem Sat.below' {B : Nat} {w w' : World} {H : HL} (h : Sat B w H) (hb : ∀ k, k < w.heap.size → w'.heap[k]? = w.heap[k]?) : Sat B w' H :=
  ⟨fun i e he => Ent.ok_same (h.ok i e he) fun b hbb => hb b (Ent.own_lt (h.ok i e he) hbb).2, h.apart⟩

/-- A new entry on a block that no other has; the others' blocks as they were. -/
theorem Sat.set2 {B : Nat} {w w' : World} {H : HL} (h : Sat B w H) (i : Nat) {e : Ent} (he : e.ok B w')
    (hs : ∀ j f, j ≠ i → look H j = some f → ∀ k, f.own = some k → w'.heap[k]? = w.heap[k]?)
    (hn : ∀ j f, j ≠ i → look H j = some f → ∀ b, e.own = some b → f.own ≠ some b) : Sat B w' ((i, e) :: H) := by
  refine ⟨fun j f hj => ?_, fun j k f g hjk hj hk b hb => ?_⟩
  · by_cases hij : i = j
    · subst hij; rw [look_cons_eq] at hj; cases hj; exact he
    · rw [look_cons_ne _ _ hij] at hj
      exact Ent.ok_same (h.ok j f hj) fun b hb => hs j f (Ne.symm hij) hj b hb
  · by_cases hij : i = j
    · subst hij
      rw [look_cons_eq] at hj; cases hj
      rw [look_cons_ne _ _ hjk] at hk
      exact hn k g (Ne.symm hjk) hk b hb
    · rw [look_cons_ne _ _ hij] at hj
      by_cases hik : i = k
      · subst hik
        rw [look_cons_eq] at hk; cases hk
        intro hgb
        exact hn j f (Ne.symm hij) hj b hgb hb
      · rw [look_cons_ne _ _ hik] at hk
        exact h.apart j k f g hjk hj hk b hb

theorem Sat.set {B : Nat} {w w' : World} {H : HL} (h : Sat B w H) (i : Nat) {e : Ent} (he : e.ok B w')
    (hs : ∀ k, k < w.heap.size → e.own ≠ some k → w'.heap[k]? = w.heap[k]?)
    (hn : ∀ j f, j ≠ i → look H j = some f → ∀ b, e.own = some b → f.own ≠ some b) : Sat B w' ((i, e) :: H) :=
  h.set2 i he (fun j f hj hf k hk => hs k (Ent.own_lt (h.ok j f hf) hk).2 fun hek => hn j f hj hf k hek hk) hn

/-- An entry of a block beyond all that was. -/
theorem Sat.new {B : Nat} {w w' : World} {H : HL} (h : Sat B w H) (i : Nat) {e : Ent} (he : e.ok B w')
    (hs : ∀ k, k < w.heap.size → w'.heap[k]? = w.heap[k]?) (hn : ∀ b, e.own = some b → w.heap.size ≤ b) : Sat B w' ((i, e) :: H) :=
  h.set i he (fun k hk _ => hs k hk) fun j f hj hf b hb hfb => by
    have := hn b hb
    have := (Ent.own_lt (h.ok j f hf) hfb).2
    omega

/-- The entry i turned in place: the same block. -/
theorem Sat.turn {B : Nat} {w w' : World} {H : HL} (h : Sat B w H) {i : Nat} {e e' : Ent} (hi : look H i = some e) (he : e'.ok B w')
    (hs : ∀ k, k < w.heap.size → e'.own ≠ some k → w'.heap[k]? = w.heap[k]?) (ho : ∀ b, e'.own = some b → e.own = some b ∨ w.heap.size ≤ b) : Sat B w' ((i, e') :: H) :=
  h.set i he hs fun j f hj hf b hb hfb => by
    rcases ho b hb with h1 | h1
    · exact h.apart i j e f (Ne.symm hj) hi hf b h1 hfb
    · have := (Ent.own_lt (h.ok j f hf) hfb).2
      omega

theorem Sat.forget {B : Nat} {w : World} {H : HL} (h : Sat B w H) (i : Nat) : Sat B w ((i, .gone) :: H) :=
  h.set i trivial (fun _ _ _ => rfl) fun j f _ _ b hb => by simp [Ent.own] at hb

theorem Sat.nilRow {B : Nat} {w : World} {H : HL} (h : Sat B w H) (i : Nat) (e : TypeId) (size : Nat) : Sat B w ((i, .row none 0 0 [] e size) :: H) :=
  h.set i (World.ownsRow_nil w B e size) (fun _ _ _ => rfl) fun j f _ _ b hb => by simp [Ent.own] at hb

/-- What an entry says less. -/
def Ent.le : Ent → Ent → Prop
  | .blk b cl T, .blk b' cl' T' => b = b' ∧ T = T' ∧ ∀ n v, look cl n = some v → look cl' n = some v
  | .gone, _ => True
  | e, f => e = f
theorem Ent.le.ok {e f : Ent} (h : e.le f) {B : Nat} {w : World} (hf : f.ok B w) : e.ok B w := by
  cases e with
  | blk b cl T =>
    cases f with
    | blk b' cl' T' =>
      obtain ⟨rfl, rfl, hs⟩ := h
      obtain ⟨h1, cur, h2, h3⟩ := hf
      exact ⟨h1, cur, h2, fun o v ho => h3 o v (hs o v ho)⟩
    | row => cases h
    | mp => cases h
    | ob => cases h
    | gone => cases h
  | row => cases (h : _ = f); exact hf
  | mp => cases (h : _ = f); exact hf
  | ob => cases (h : _ = f); exact hf
  | gone => trivial
theorem Ent.le.own {e f : Ent} (h : e.le f) {b : Nat} (hb : e.own = some b) : f.own = some b := by
  cases e with
  | blk b' cl T =>
    cases f with
    | blk => obtain ⟨rfl, rfl, hs⟩ := h; exact hb
    | row => cases h
    | mp => cases h
    | ob => cases h
    | gone => cases h
  | row => cases (h : _ = f); exact hb
  | mp => cases (h : _ = f); exact hb
  | ob => cases (h : _ = f); exact hb
  | gone => simp [Ent.own] at hb

def SubH : HL → HL → Prop
  | [], _ => True
  | (k, e) :: r, m => (∃ f, look m k = some f ∧ e.le f) ∧ SubH r m
theorem SubH.out {m : HL} : ∀ {l : HL}, SubH l m → ∀ n e, look l n = some e → ∃ f, look m n = some f ∧ e.le f
  | [], _, n, v, h => by simp [look] at h
  | (k, u) :: r, hs, n, v, h => by
    by_cases hk : k = n
    · subst hk; rw [look_cons_eq] at h; cases h; exact hs.1
    · rw [look_cons_ne _ _ hk] at h; exact hs.2.out n v h
theorem Sat.sub {B : Nat} {w : World} {H H' : HL} (h : Sat B w H) (hs : SubH H' H) : Sat B w H' := by
  refine ⟨fun i e he => ?_, fun i j e f hij he hf b hb hfb => ?_⟩
  · obtain ⟨f, hf, hle⟩ := hs.out i e he
    exact hle.ok (h.ok i f hf)
  · obtain ⟨e', he', hle⟩ := hs.out i e he
    obtain ⟨f', hf', hlf⟩ := hs.out j f hf
    exact h.apart i j e' f' hij he' hf' b (hle.own hb) (hlf.own hfb)

/-! ### states -/
/-- What is neither cells nor a map that may be written lies as it lay. -/
def Kd (C : Nat → Prop) (w w' : World) : Prop := ∀ (k : Nat) (o : Obj), w.heap[k]? = some o → o.isCells = false → (C k → Obj.known o = false) → w'.heap[k]? = some o
theorem Kd.refl (C : Nat → Prop) (w : World) : Kd C w w := fun _ _ h _ _ => h
theorem Kd.trans {C : Nat → Prop} {w w1 w2 : World} (h : Kd C w w1) (h' : Kd C w1 w2) : Kd C w w2 := fun k o a b c => h' k o (h k o a b c) b c
theorem Kd.of_below {C : Nat → Prop} {w w' : World} (h : Below w.heap.size w w') : Kd C w w' := fun k o hk _ _ => (h.block k (Array.getElem?_eq_some_iff.1 hk).1).trans hk
theorem Kd.imp {C C' : Nat → Prop} {w w' : World} (h : Kd C w w') (hc : ∀ k, C k → C' k) : Kd C' w w' := fun k o a b c => h k o a b fun hk => c (hc k hk)
theorem Kd.alloc {C : Nat → Prop} (w : World) (o : Obj) : Kd C w (w.alloc o) := fun k o' hk _ _ => (Below.heap_alloc w o k (Array.getElem?_eq_some_iff.1 hk).1).trans hk
/-- One block of cells, or one map that may be written, was turned. -/
theorem Kd.one {C : Nat → Prop} {w w' : World} (b : Nat) (h : ∀ k, k < w.heap.size → k ≠ b → w'.heap[k]? = w.heap[k]?) (hb : ∀ o, w.heap[b]? = some o → o.isCells = true ∨ (C b ∧ Obj.known o = true)) : Kd C w w' := fun k o hk hc hm => by
  by_cases hkb : k = b
  · subst hkb
    rcases hb o hk with h1 | ⟨h1, h2⟩
    · rw [h1] at hc; cases hc
    · rw [hm h1] at h2; cases h2
  · exact (h k (Array.getElem?_eq_some_iff.1 hk).1 hkb).trans hk
/-- The marks of the loops over functions: their blocks are as they were laid. -/
def MarkOk (w0 : World) (ds : List Nat) (w : World) : Prop := ds.Nodup ∧ ∀ d ∈ ds, w0.heap.size ≤ d ∧ w.heap[d]? = some (.deferred (some []))
theorem MarkOk.nil (w0 w : World) : MarkOk w0 [] w := ⟨List.nodup_nil, fun d h => by cases h⟩
theorem MarkOk.kd {w0 w w' : World} {ds : List Nat} {C : Nat → Prop} (h : MarkOk w0 ds w) (hk : Kd C w w') : MarkOk w0 ds w' := ⟨h.1, fun d hd => ⟨(h.2 d hd).1, hk d _ (h.2 d hd).2 rfl (fun _ => rfl)⟩⟩

structure St (N : Fr) (B : Nat) (w0 : World) (al : AL) (H : HL) (a : Act) (w : World) : Prop where
  regs : Regs N al a
  below : Below B w0 w
  sat : Sat B w H
  base : B ≤ w.heap.size
  kd : N.y = false → Kd N.c w0 w
  marks : MarkOk w0 N.ds w

theorem St.sub {N : Fr} {B : Nat} {w0 : World} {al al' : AL} {H H' : HL} {a : Act} {w : World} (h : St N B w0 al H a w) (hs : Sub al' al) (hh : SubH H' H) : St N B w0 al' H' a w :=
  ⟨h.regs.sub hs, h.below, h.sat.sub hh, h.base, h.kd, h.marks⟩
/-- Another world, one step on. -/
theorem St.step {N : Fr} {B : Nat} {w0 : World} {al al' : AL} {H H' : HL} {a a' : Act} {w w' : World} (h : St N B w0 al H a w) (hr : Regs N al' a') (hb : Below B w0 w') (hs : Sat B w' H') (hB : B ≤ w'.heap.size) (hk : Kd N.c w w') : St N B w0 al' H' a' w' :=
  ⟨hr, hb, hs, hB, fun hy => (h.kd hy).trans hk, h.marks.kd hk⟩

section
variable (P : Program) (N : Fr) (B : Nat) (w0 : World)
def WP (c : Code) (Q : Exit → Act → World → Prop) (al : AL) (H : HL) : Prop := ∀ a w, St N B w0 al H a w → D N.y P c Q a w
def OL (ops l : List Oper) (Q : Exit → Act → World → Prop) (al : AL) (H : HL) : Prop := ∀ a w, St N B w0 al H a w → wpList P ops.toArray Q l a w
def KP (K : Act → World → Prop) (al : AL) (H : HL) : Prop := ∀ a w, St N B w0 al H a w → K a w
def QP (Q : Exit → Act → World → Prop) (e : Exit) (al : AL) (H : HL) : Prop := ∀ a w, St N B w0 al H a w → Q e a w
/-- An operation that only reads gives this value. -/
def Runs (op : Op) (ty : TypeId) (al : AL) (H : HL) (v : Value) : Prop :=
  ∀ a w, St N B w0 al H a w → (execOp a.eval { dst := none, op, type := ty, pos := "", after := #[], guard := none }).run P w = .ok (.value v) w
end

section
variable {P : Program} {N : Fr} {B : Nat} {w0 : World} {Q : Exit → Act → World → Prop} {al : AL} {H : HL}

theorem KP.sub {K : Act → World → Prop} {al' : AL} {H' : HL} (h : KP N B w0 K al' H') (hs : Sub al' al) (hh : SubH H' H) : KP N B w0 K al H :=
  fun a w hst => h a w (hst.sub hs hh)
theorem WP.sub {c : Code} {al' : AL} {H' : HL} (h : WP P N B w0 c Q al' H') (hs : Sub al' al) (hh : SubH H' H) : WP P N B w0 c Q al H :=
  fun a w hst => h a w (hst.sub hs hh)

theorem wp_seq' {n : Nat} {C : Nat → Prop} {ds0 : List Nat} {f : Bool} {x y : Code} (h : ∀ K : Act → World → Prop, (∀ ds B w0 al H, WP P ⟨n, C, ds, f⟩ B w0 y Q al H → KP ⟨n, C, ds, f⟩ B w0 K al H) → WP P ⟨n, C, ds0, f⟩ B w0 x (Exit.then K Q) al H) : WP P ⟨n, C, ds0, f⟩ B w0 (.seq x y) Q al H :=
  fun a w hst => h (fun a w => D f P y Q a w) (fun _ _ _ _ _ h => h) a w hst
/-- The ways through x meet in one state. -/
theorem wp_seq_cut {x y : Code} {σ : Type} (I : σ → Prop) (A : σ → AL) (G : σ → HL)
    (hx : ∀ K : Act → World → Prop, (∀ s, I s → KP N B w0 K (A s) (G s)) → WP P N B w0 x (Exit.then K Q) al H)
    (hy : ∀ s, I s → WP P N B w0 y Q (A s) (G s)) : WP P N B w0 (.seq x y) Q al H :=
  fun a w hst => hx (fun a w => D N.y P y Q a w) (fun s hs a w h => hy s hs a w h) a w hst
theorem wp_skip' (h : QP N B w0 Q .normal al H) : WP P N B w0 .skip Q al H := fun a w hst => h a w hst
theorem wp_ret' (h : QP N B w0 Q .ret al H) : WP P N B w0 .ret Q al H := fun a w hst => h a w hst
theorem wp_exit' {id : Nat} (h : QP N B w0 Q (.exit id) al H) : WP P N B w0 (.exit id) Q al H := fun a w hst => h a w hst
theorem wp_block' {id : Nat} {c : Code} (h : WP P N B w0 c (Exit.inBlock id Q) al H) : WP P N B w0 (.block id c) Q al H := fun a w hst => h a w hst
theorem wp_cond' {c : Operand} {x y : Code} {b : Bool} (hc : ev al c = some (.bool b)) (ht : b = true → WP P N B w0 x Q al H) (hf : b = false → WP P N B w0 y Q al H) : WP P N B w0 (.cond c x y) Q al H :=
  fun a w hst => ⟨b, hst.regs.eval hc, by cases b with
    | true => exact ht rfl a w hst
    | false => exact hf rfl a w hst⟩
theorem wp_condD {c : Operand} {x y : Code} {p : Prop} [Decidable p] (hc : ev al c = some (.bool (decide p))) (ht : p → WP P N B w0 x Q al H) (hf : ¬p → WP P N B w0 y Q al H) : WP P N B w0 (.cond c x y) Q al H :=
  wp_cond' hc (fun h => ht (of_decide_eq_true h)) (fun h => hf (of_decide_eq_false h))
theorem wp_condN {c : Operand} {x y : Code} {p : Prop} [Decidable p] (hc : ev al c = some (.bool (!decide p))) (ht : ¬p → WP P N B w0 x Q al H) (hf : p → WP P N B w0 y Q al H) : WP P N B w0 (.cond c x y) Q al H :=
  wp_cond' hc (fun h => ht (by simpa using h)) (fun h => hf (by simpa using h))
theorem wp_condNB {c : Operand} {x y : Code} {b : Bool} (hc : ev al c = some (.bool (!b))) (ht : b = false → WP P N B w0 x Q al H) (hf : b = true → WP P N B w0 y Q al H) : WP P N B w0 (.cond c x y) Q al H :=
  wp_cond' hc (fun h => ht (by simpa using h)) (fun h => hf (by simpa using h))
theorem wp_condT {c : Operand} {x y : Code} (hc : ev al c = some (.bool true)) (h : WP P N B w0 x Q al H) : WP P N B w0 (.cond c x y) Q al H :=
  fun a w hst => ⟨true, hst.regs.eval hc, h a w hst⟩
theorem wp_condF {c : Operand} {x y : Code} (hc : ev al c = some (.bool false)) (h : WP P N B w0 y Q al H) : WP P N B w0 (.cond c x y) Q al H :=
  fun a w hst => ⟨false, hst.regs.eval hc, h a w hst⟩
theorem wp_reg {id : Nat} {l : List Oper} (h : OL P N B w0 l l Q al H) : WP P N B w0 (.region id l.toArray false) Q al H :=
  fun a w hst => d_lit (h a w hst)

theorem to_k0 {K : Act → World → Prop} {e : Exit} (hQ : ∀ a w, K a w → Q e a w) (h : KP N B w0 K al H) : QP N B w0 Q e al H :=
  fun a w hst => hQ a w (h a w hst)
theorem ol_nil {ops : List Oper} (h : QP N B w0 Q .normal al H) : OL P N B w0 ops [] Q al H := fun a w hst => wpList_nil (h a w hst)

/-- A loop: in each round's head the state is one of a family. -/
theorem wp_loop' {c : Code} {σ : Type} (I : σ → Prop) (A : σ → AL) (G : σ → HL) (μ : σ → Nat) (s0 : σ) (h0 : I s0) (hs : Sub (A s0) al) (hh : SubH (G s0) H)
    (round : ∀ s, I s → ∀ K : Act → World → Prop, (∀ s', I s' → μ s' < μ s → KP N B w0 K (A s') (G s')) → WP P N B w0 c (Exit.then K Q) (A s) (G s)) :
    WP P N B w0 (.loop c) Q al H := by
  intro a w hst
  have key : ∀ n s, I s → μ s < n → ∀ a w, St N B w0 (A s) (G s) a w → dloop (D N.y P c) Q n a w := by
    intro n
    induction n with
    | zero => intro s _ h; omega
    | succ n ih => intro s hI hn a w hs; exact round s hI _ (fun s' h1 h2 a w h3 => ih s' h1 (by omega) a w h3) a w hs
  exact ⟨μ s0 + 1, key _ s0 h0 (by omega) a w (hst.sub hs hh)⟩

/-! ### operations -/
def gd : List Oper → Nat → Option Tmp
  | [], _ => none
  | o :: _, 0 => o.dst
  | _ :: r, n + 1 => gd r n
theorem gd_eq : ∀ (l : List Oper) (j : Nat), gd l j = (l.toArray[j]?).bind (·.dst)
  | [], j => by simp [gd]
  | o :: r, 0 => by simp [gd]
  | o :: r, n + 1 => by rw [gd, gd_eq r n]; simp

theorem St.put {a : Act} {w : World} (h : St N B w0 al H a w) {d : Nat} (hd : d < N.n) (v : Value) : St N B w0 ((d, v) :: al) H (a.put (some d) v) w :=
  ⟨h.regs.put hd v, h.below, h.sat, h.base, h.kd, h.marks⟩

theorem wanted_of {l : List Oper} {o : Oper} {j dj : Nat} {want c : Bool} {a : Act} (hr : Regs N al a) (hg : o.guard = some (j, want)) (hj : gd l j = some dj) (hl : look al dj = some (.bool c)) :
    Region.wanted o (yielded l.toArray a.tmps) = (c == want) := by
  rw [gd_eq] at hj
  have h1 : yielded l.toArray a.tmps j = some c := by
    simp only [yielded, hj, Option.bind_some, hr.slot _ _ hl]
  simp only [Region.wanted, hg, h1]
  cases c <;> cases want <;> rfl

section
variable {ops rest : List Oper} {d : Nat} {op : Op} {ty : TypeId} {pos : String} {after : Array Edge} {v : Value}

theorem ol_r (hr : Runs P N B w0 op ty al H v) (hd : Nat.blt d N.n = true) (k : OL P N B w0 ops rest Q ((d, v) :: al) H) :
    OL P N B w0 ops ({ dst := some d, op, type := ty, pos, after, guard := none } :: rest) Q al H := by
  intro a w hst
  refine wpList_plain rfl fun K hK => ?_
  unfold Oper.wp
  have := hr a w hst
  rw [show execOp a.eval { dst := some d, op, type := ty, pos, after, guard := none } = execOp a.eval { dst := none, op, type := ty, pos := "", after := #[], guard := none } from rfl, this]
  exact hK _ _ (k _ _ (hst.put (by simpa using hd) v))

theorem wpList_guarded {o : Oper} {a : Act} {w : World} (hw : Region.wanted o (yielded ops.toArray a.tmps) = true)
    (h : wpList P ops.toArray Q ({ o with guard := none } :: rest) a w) : wpList P ops.toArray Q (o :: rest) a w := by
  unfold wpList at h ⊢
  rw [hw]
  obtain ⟨d1, op1, ty1, pos1, after1, g1⟩ := o
  simp only [Region.wanted, if_true] at h ⊢
  exact h

/-- A guard that says yes. -/
theorem ol_g {dst : Option Tmp} {j dj : Nat} {want c : Bool} (hj : gd ops j = some dj) (hl : look al dj = some (.bool c)) (hc : c = want)
    (k : OL P N B w0 ops ({ dst, op, type := ty, pos, after, guard := none } :: rest) Q al H) :
    OL P N B w0 ops ({ dst, op, type := ty, pos, after, guard := some (j, want) } :: rest) Q al H := by
  intro a w hst
  refine wpList_guarded (by rw [wanted_of hst.regs rfl hj hl, hc]; simp) (k a w hst)
/-- A guard that says no. -/
theorem ol_s {j dj : Nat} {want c : Bool} (hj : gd ops j = some dj) (hl : look al dj = some (.bool c)) (hc : c = !want) (hd : Nat.blt d N.n = true)
    (k : OL P N B w0 ops rest Q ((d, undef) :: al) H) :
    OL P N B w0 ops ({ dst := some d, op, type := ty, pos, after, guard := some (j, want) } :: rest) Q al H := by
  intro a w hst
  refine wpList_skip (by rw [wanted_of hst.regs rfl hj hl, hc]; cases want <;> rfl) ?_
  exact k _ _ (hst.put (by simpa using hd) undef)
theorem wanted_undef {l : List Oper} {o : Oper} {j dj : Nat} {want : Bool} {a : Act} (hr : Regs N al a) (hg : o.guard = some (j, want)) (hj : gd l j = some dj) (hl : look al dj = some undef) :
    Region.wanted o (yielded l.toArray a.tmps) = false := by
  rw [gd_eq] at hj
  have h1 : yielded l.toArray a.tmps j = none := by
    simp only [yielded, hj, Option.bind_some, hr.slot _ _ hl, undef]
  simp only [Region.wanted, hg, h1]
  rfl
/-- A guard that was passed over itself. -/
theorem ol_u {j dj : Nat} {want : Bool} (hj : gd ops j = some dj) (hl : look al dj = some undef) (hd : Nat.blt d N.n = true)
    (k : OL P N B w0 ops rest Q ((d, undef) :: al) H) :
    OL P N B w0 ops ({ dst := some d, op, type := ty, pos, after, guard := some (j, want) } :: rest) Q al H := by
  intro a w hst
  refine wpList_skip (wanted_undef hst.regs rfl hj hl) ?_
  exact k _ _ (hst.put (by simpa using hd) undef)
/-- Two ways, by a Bool that a slot holds. -/
theorem ol_split {l : List Oper} {d : Nat} {c : Bool} (hl : look al d = some (.bool c)) (ht : c = true → OL P N B w0 ops l Q al H) (hf : c = false → OL P N B w0 ops l Q al H) : OL P N B w0 ops l Q al H := by
  cases hc : c
  · exact hf hc
  · exact ht hc
/-- The ways meet inside a list of operations. -/
theorem OL.sub {l : List Oper} {al' : AL} {H' : HL} (h : OL P N B w0 ops l Q al' H') (hs : Sub al' al) (hh : SubH H' H) : OL P N B w0 ops l Q al H :=
  fun a w hst => h a w (hst.sub hs hh)

/-! #### values -/
theorem r_move {x : Operand} (h : ev al x = some v) : Runs P N B w0 (.move x) ty al H v := fun a w hst => by
  simp [execOp, hst.regs.eval h]
theorem r_assign {x : Operand} (h : ev al x = some v) : Runs P N B w0 (.assign x) ty al H v := fun a w hst => by
  simp [execOp, hst.regs.eval h]
theorem r_pickT {c x y : Operand} {b : Bool} (hc : ev al c = some (.bool b)) (hb : b = true) (h : ev al x = some v) : Runs P N B w0 (.pick c x y) ty al H v := fun a w hst => by
  simp [execOp, hst.regs.eval h, hst.regs.eval hc, asBool, hb]
theorem r_pickF {c x y : Operand} {b : Bool} (hc : ev al c = some (.bool b)) (hb : b = false) (h : ev al y = some v) : Runs P N B w0 (.pick c x y) ty al H v := fun a w hst => by
  simp [execOp, hst.regs.eval h, hst.regs.eval hc, asBool, hb]
theorem r_not {t : TypeId} {x : Operand} {b : Bool} (h : ev al x = some (.bool b)) : Runs P N B w0 (.unOp .not t x) ty al H (.bool (!b)) := fun a w hst => by
  simp [execOp, hst.regs.eval h, Op.unary]
def lget : List Value → Nat → Option Value
  | [], _ => none
  | v :: _, 0 => some v
  | _ :: r, n + 1 => lget r n
theorem lget_eq : ∀ (l : List Value) (i : Nat), lget l i = l[i]?
  | [], i => by simp [lget]
  | v :: r, 0 => by simp [lget]
  | v :: r, n + 1 => by simp [lget, lget_eq r n]
theorem r_extract {t : Operand} {i : Nat} {vs : List Value} (h : ev al t = some (.tuple vs.toArray)) (hi : lget vs i = some v) : Runs P N B w0 (.extract t i) ty al H v := fun a w hst => by
  rw [lget_eq] at hi
  simp [execOp, hst.regs.eval h, Instr.extract, hi]

section ints
variable {x y : Operand} {t t' : TypeId} {m n : Int} {kd : IntKind}
theorem r_add (hx : ev al x = some (.int .i64 m)) (hy : ev al y = some (.int .i64 n)) (hb : -9223372036854775808 ≤ m + n ∧ m + n ≤ 9223372036854775807) :
    Runs P N B w0 (.binOp .add t x y t') ty al H (.int .i64 (m + n)) := fun a w hst => by
  have : IntKind.i64.wrap (m + n) = m + n := IntWalk.i64_in _ (by omega)
  simp [execOp, hst.regs.eval hx, hst.regs.eval hy, eqGuard_add, binOp_add, Op.intArith, this]
theorem r_sub (hx : ev al x = some (.int .i64 m)) (hy : ev al y = some (.int .i64 n)) (hb : -9223372036854775808 ≤ m - n ∧ m - n ≤ 9223372036854775807) :
    Runs P N B w0 (.binOp .sub t x y t') ty al H (.int .i64 (m - n)) := fun a w hst => by
  have : IntKind.i64.wrap (m - n) = m - n := IntWalk.i64_in _ (by omega)
  simp [execOp, hst.regs.eval hx, hst.regs.eval hy, eqGuard_sub, binOp_sub, Op.intArith, this]
theorem r_mul (hx : ev al x = some (.int .i64 m)) (hy : ev al y = some (.int .i64 n)) (hb : -9223372036854775808 ≤ m * n ∧ m * n ≤ 9223372036854775807) :
    Runs P N B w0 (.binOp .mul t x y t') ty al H (.int .i64 (m * n)) := fun a w hst => by
  have : IntKind.i64.wrap (m * n) = m * n := IntWalk.i64_in _ (by omega)
  simp [execOp, hst.regs.eval hx, hst.regs.eval hy, eqGuard_mul, binOp_mul, Op.intArith, this]
theorem r_lss (hx : ev al x = some (.int kd m)) (hy : ev al y = some (.int kd n)) : Runs P N B w0 (.binOp .lss t x y t') ty al H (.bool (decide (m < n))) := fun a w hst => by
  simp [execOp, hst.regs.eval hx, hst.regs.eval hy, binOp_lss, eqGuard_at_int]
theorem r_leq (hx : ev al x = some (.int kd m)) (hy : ev al y = some (.int kd n)) : Runs P N B w0 (.binOp .leq t x y t') ty al H (.bool (decide (m ≤ n))) := fun a w hst => by
  simp [execOp, hst.regs.eval hx, hst.regs.eval hy, binOp_leq, eqGuard_at_int]
theorem r_gtr (hx : ev al x = some (.int kd m)) (hy : ev al y = some (.int kd n)) : Runs P N B w0 (.binOp .gtr t x y t') ty al H (.bool (decide (n < m))) := fun a w hst => by
  simp [execOp, hst.regs.eval hx, hst.regs.eval hy, binOp_gtr, eqGuard_at_int]
theorem r_geq (hx : ev al x = some (.int kd m)) (hy : ev al y = some (.int kd n)) : Runs P N B w0 (.binOp .geq t x y t') ty al H (.bool (decide (n ≤ m))) := fun a w hst => by
  simp [execOp, hst.regs.eval hx, hst.regs.eval hy, binOp_geq, eqGuard_at_int]
theorem r_eql (hx : ev al x = some (.int kd m)) (hy : ev al y = some (.int kd n)) : Runs P N B w0 (.binOp .eql t x y t') ty al H (.bool (decide (m = n))) := fun a w hst => by
  simp [execOp, hst.regs.eval hx, hst.regs.eval hy, binOp_eql, eqGuard_at_int]
  rfl
theorem r_neq (hx : ev al x = some (.int kd m)) (hy : ev al y = some (.int kd n)) : Runs P N B w0 (.binOp .neq t x y t') ty al H (.bool (decide (m ≠ n))) := fun a w hst => by
  simp [execOp, hst.regs.eval hx, hst.regs.eval hy, binOp_neq, eqGuard_at_int]
  by_cases h : m = n <;> simp [h]
end ints

/-! #### memory -/
theorem blk_cell {b o : Nat} {cl : List (Nat × Value)} {T : TypeId} {w : World} {u : Value} (h : (Ent.blk b cl T).ok B w) (ho : look cl o = some u) : w.cell? ⟨b, o, none⟩ = some u := by
  obtain ⟨_, cur, h2, h3⟩ := h
  simp [World.cell?, h2, h3 o u ho]

/-- A type of one cell. -/
def Scal (P : Program) (t : TypeId) : Prop := (∃ d, P.underlying t = some d ∧ (∀ fs, d ≠ .struct fs) ∧ (∀ n e, d ≠ .array n e))
def scalB (P : Program) (t : TypeId) : Bool := match P.underlying t with | some (.struct _) | some (.array _ _) | none => false | _ => true
theorem Scal.of {t : TypeId} (h : scalB P t = true) : Scal P t := by
  unfold scalB at h
  split at h
  · exact absurd h (by simp)
  · exact absurd h (by simp)
  · exact absurd h (by simp)
  rename_i h1 h2 h3
  cases hu : P.underlying t with
  | none => exact absurd hu h3
  | some d => exact ⟨d, hu, fun fs e => h1 fs (by rw [hu, e]), fun n e' e => h2 n e' (by rw [hu, e])⟩
/-- A struct or an array of n cells. -/
def Aggr (P : Program) (t : TypeId) (n : Nat) : Prop := (∃ i, P.info? t = some i ∧ i.size = n) ∧ ∃ d, P.underlying t = some d ∧ ((∃ fs, d = .struct fs) ∨ ∃ n e, d = .array n e)
def aggrB (P : Program) (t : TypeId) (n : Nat) : Bool := (match P.info? t with | some i => Nat.beq i.size n | none => false) && (match P.underlying t with | some (.struct _) | some (.array _ _) => true | _ => false)
theorem Aggr.of {t : TypeId} {n : Nat} (h : aggrB P t n = true) : Aggr P t n := by
  unfold aggrB at h
  rw [Bool.and_eq_true] at h
  refine ⟨?_, ?_⟩
  · have h1 := h.1
    split at h1
    · rename_i i hi; exact ⟨i, hi, Nat.eq_of_beq_eq_true h1⟩
    · exact absurd h1 (by simp)
  · have h2 := h.2
    split at h2
    · rename_i fs hu; exact ⟨_, hu, .inl ⟨_, rfl⟩⟩
    · rename_i n e hu; exact ⟨_, hu, .inr ⟨_, _, rfl⟩⟩
    · exact absurd h2 (by simp)
/-- The size of a type, in cells. -/
def Size (P : Program) (t : TypeId) (n : Nat) : Prop := ∃ i, P.info? t = some i ∧ i.size = n
def sizeB (P : Program) (t : TypeId) (n : Nat) : Bool := match P.info? t with | some i => Nat.beq i.size n | none => false
theorem Size.of {t : TypeId} {n : Nat} (h : sizeB P t n = true) : Size P t n := by
  unfold sizeB at h
  split at h
  · rename_i i hi; exact ⟨i, hi, Nat.eq_of_beq_eq_true h⟩
  · exact absurd h (by simp)
theorem run_sizeOf {t : TypeId} {n : Nat} (h : Size P t n) (w : World) : (sizeOf t).run P w = .ok n w := by
  obtain ⟨i, hi, rfl⟩ := h
  simp [sizeOf, typeInfo, hi]

theorem run_loadVar_one {t : TypeId} (hT : Scal P t) {w : World} {x : Addr} {u : Value} (hc : w.cell? x = some u) : (loadVar t x).run P w = .ok u w := by
  obtain ⟨d, hu, h1, h2⟩ := hT
  have : (isAgg t).run P w = .ok false w := by
    simp only [isAgg, Sem.run_bind, run_underlying hu, Result.andThen_ok]
    cases d <;> first | rfl | exact absurd rfl (h1 _) | exact absurd rfl (h2 _ _)
  simp [loadVar, this, load, Sem.run, hc]

theorem run_loadCellsFrom (x : Addr) (w : World) : ∀ (us : List Value) (i : Nat) (acc : Array Value), (∀ j u, us[j]? = some u → w.cell? (x.add (i + j)) = some u) →
    (loadCellsFrom x i us.length acc).run P w = .ok (acc ++ us.toArray) w
  | [], i, acc, _ => by simp [loadCellsFrom]
  | u :: us, i, acc, h => by
    have h0 : w.cell? (x.add i) = some u := by simpa using h 0 u rfl
    have hr := run_loadCellsFrom x w us (i + 1) (acc.push u) (fun j u' hj => by
      have := h (j + 1) u' (by simpa using hj)
      rwa [show i + (j + 1) = i + 1 + j from by omega] at this)
    simp only [List.length_cons, loadCellsFrom, Sem.run_bind, load, Sem.run, h0, Result.andThen_ok, hr]
    simp

theorem run_loadVar_agg {t : TypeId} {us : List Value} (hT : Aggr P t us.length) {w : World} {x : Addr} (hc : ∀ j u, us[j]? = some u → w.cell? (x.add j) = some u) :
    (loadVar t x).run P w = .ok (.agg us.toArray) w := by
  obtain ⟨⟨i, hi, hsz⟩, d, hu, hd⟩ := hT
  have : (isAgg t).run P w = .ok true w := by
    simp only [isAgg, Sem.run_bind, run_underlying hu, Result.andThen_ok]
    rcases hd with ⟨fs, rfl⟩ | ⟨n, e, rfl⟩ <;> rfl
  have hl := run_loadCellsFrom (P := P) x w us 0 #[] (fun j u hj => by simpa using hc j u hj)
  simp [loadVar, this, run_sizeOf (P := P) ⟨i, hi, hsz⟩, loadCells, hl]

def looks (cl : List (Nat × Value)) : Nat → Nat → Option (List Value)
  | _, 0 => some []
  | o, n + 1 => match look cl o, looks cl (o + 1) n with | some u, some us => some (u :: us) | _, _ => none
theorem looks_get {cl : List (Nat × Value)} : ∀ {n o : Nat} {us : List Value}, looks cl o n = some us → us.length = n ∧ ∀ j u, us[j]? = some u → look cl (o + j) = some u
  | 0, o, us, h => by simp only [looks, Option.some.injEq] at h; subst h; exact ⟨rfl, fun j u hj => by simp at hj⟩
  | n + 1, o, us, h => by
    unfold looks at h
    split at h
    · rename_i u us' h1 h2
      cases h
      obtain ⟨h3, h4⟩ := looks_get h2
      refine ⟨by simp [h3], fun j u' hj => ?_⟩
      cases j with
      | zero => simp at hj; subst hj; simpa using h1
      | succ j => have := h4 j u' (by simpa using hj); rwa [show o + 1 + j = o + (j + 1) from by omega] at this
    · exact absurd h (by simp)

theorem add_none (b o n : Nat) : (⟨b, o, none⟩ : Addr).add n = ⟨b, o + n, none⟩ := by unfold Addr.add; split <;> simp_all

theorem r_ld {ad : Operand} {b off id : Nat} {cl : List (Nat × Value)} {T t : TypeId} (hp : ev al ad = some (.pointer (some ⟨b, off, none⟩))) (hH : look H id = some (.blk b cl T))
    (hc : look cl off = some v) (hT : Scal P t) : Runs P N B w0 (.load t ad) ty al H v := fun a w hst => by
  have := run_loadVar_one (P := P) hT (blk_cell (hst.sat.ok _ _ hH) hc)
  simp [execOp, hst.regs.eval hp, Instr.loadAt, Instr.sureAddr, this]
theorem r_lda {ad : Operand} {b off id n : Nat} {cl : List (Nat × Value)} {T t : TypeId} {us : List Value} (hp : ev al ad = some (.pointer (some ⟨b, off, none⟩))) (hH : look H id = some (.blk b cl T))
    (hc : looks cl off n = some us) (hT : Aggr P t n) : Runs P N B w0 (.load t ad) ty al H (.agg us.toArray) := fun a w hst => by
  obtain ⟨h1, h2⟩ := looks_get hc
  have := run_loadVar_agg (P := P) (us := us) (by rw [h1]; exact hT) (w := w) (x := ⟨b, off, none⟩) (fun j u hj => by rw [add_none]; exact blk_cell (hst.sat.ok _ _ hH) (h2 j u hj))
  simp [execOp, hst.regs.eval hp, Instr.loadAt, Instr.sureAddr, this]
/-- What a place reads as, in a world. -/
def Loads (P : Program) (w : World) (t : TypeId) (p : Option Addr) (v : Value) : Prop := ∃ x, p = some x ∧ (loadVar t x).run P w = .ok v w
theorem r_ldw {ad : Operand} {p : Option Addr} {t : TypeId} (hp : ev al ad = some (.pointer p)) (hl : ∀ w, Below B w0 w → Sat B w H → B ≤ w.heap.size → Loads P w t p v) : Runs P N B w0 (.load t ad) ty al H v := fun a w hst => by
  obtain ⟨x, rfl, hx⟩ := hl w hst.below hst.sat hst.base
  simp [execOp, hst.regs.eval hp, Instr.loadAt, Instr.sureAddr, hx]

/-- A field of one cell or more: its place in the struct. -/
def Fld (P : Program) (s : TypeId) (f o : Nat) : Prop := ∃ fs x n, P.underlying s = some (.struct fs) ∧ fs[f]? = some x ∧ x.offset = o ∧ Size P x.type (n + 1)
def fldB (P : Program) (s : TypeId) (f o : Nat) : Bool := match P.underlying s with
  | some (.struct fs) => (match fs[f]? with | some x => Nat.beq x.offset o && (match P.info? x.type with | some i => Nat.blt 0 i.size | none => false) | none => false)
  | _ => false
theorem Fld.of {s : TypeId} {f o : Nat} (h : fldB P s f o = true) : Fld P s f o := by
  unfold fldB at h
  split at h
  · rename_i fs hu
    split at h
    · rename_i x hx
      rw [Bool.and_eq_true] at h
      obtain ⟨h1, h2⟩ := h
      split at h2
      · rename_i i hi
        have : 0 < i.size := by simpa using h2
        exact ⟨fs, x, i.size - 1, hu, hx, Nat.eq_of_beq_eq_true h1, i, hi, by omega⟩
      · exact absurd h2 (by simp)
    · exact absurd h (by simp)
  · exact absurd h (by simp)
theorem run_fieldAt {s : TypeId} {f o : Nat} (hf : Fld P s f o) (x : Addr) (w : World) : (Instr.fieldAt s (.pointer (some x)) f).run P w = .ok (.pointer (some (x.add o))) w := by
  obtain ⟨fs, g, n, h1, h2, rfl, h4⟩ := hf
  simp [Instr.fieldAt, run_underlying h1, h2, Instr.sureAddr, fieldPlace, run_sizeOf h4]
theorem r_fa {x : Operand} {s : TypeId} {f o b off o' : Nat} (hp : ev al x = some (.pointer (some ⟨b, off, none⟩))) (hf : Fld P s f o) (ho : off + o = o') : Runs P N B w0 (.fieldAddr s x f) ty al H (.pointer (some ⟨b, o', none⟩)) := fun a w hst => by
  have := run_fieldAt (P := P) hf ⟨b, off, none⟩ w
  simp [execOp, hst.regs.eval hp, this, add_none, ho]
theorem r_faw {x : Operand} {s : TypeId} {f o : Nat} {p : Option Addr} (hp : ev al x = some (.pointer p)) (hne : p.isSome = true) (hf : Fld P s f o) : Runs P N B w0 (.fieldAddr s x f) ty al H (.pointer (p.map (·.add o))) := fun a w hst => by
  cases p with
  | none => cases hne
  | some z =>
    have := run_fieldAt (P := P) hf z w
    simp [execOp, hst.regs.eval hp, this]

/-- A slice type and its elements' size. -/
def Slc (P : Program) (t : TypeId) (size : Nat) : Prop := ∃ e, P.underlying t = some (.slice e) ∧ Size P e size
def slcB (P : Program) (t : TypeId) (size : Nat) : Bool := match P.underlying t with | some (.slice e) => sizeB P e size | _ => false
theorem Slc.of {t : TypeId} {n : Nat} (h : slcB P t n = true) : Slc P t n := by
  unfold slcB at h
  split at h
  · rename_i e hu; exact ⟨e, hu, Size.of h⟩
  · exact absurd h (by simp)
theorem r_ix {s i : Operand} {t : TypeId} {p : Option Addr} {n cap size : Nat} {kd : IntKind} {iv : Int} (hs : ev al s = some (.slice p n cap)) (hi : ev al i = some (.int kd iv)) (hT : Slc P t size) (hne : p.isSome = true)
    (h0 : 0 ≤ iv ∧ iv < n) : Runs P N B w0 (.indexAddr t s i) ty al H (.pointer (p.map (·.add (iv.toNat * size)))) := fun a w hst => by
  obtain ⟨e, hu, hz⟩ := hT
  cases p with
  | none => cases hne
  | some z => simp [execOp, hst.regs.eval hs, hst.regs.eval hi, Instr.indexAt, asIntOf, run_underlying hu, h0, run_sizeOf hz]
/-- An array type: how many, and each one's size. -/
def Arr (P : Program) (t : TypeId) (n size : Nat) : Prop := ∃ e, P.underlying t = some (.array n e) ∧ Size P e size
def arrB (P : Program) (t : TypeId) (n size : Nat) : Bool := (match P.underlying t with | some (.array m e) => Nat.beq m n && (match P.info? e with | some i => Nat.beq i.size size | none => false) | _ => false)
theorem Arr.of {P : Program} {t : TypeId} {n size : Nat} (h : arrB P t n size = true) : Arr P t n size := by
  unfold arrB at h
  split at h
  · rename_i m e hu
    rw [Bool.and_eq_true] at h
    obtain ⟨h1, h2⟩ := h
    split at h2
    · rename_i i hi
      have := Nat.eq_of_beq_eq_true h1
      subst this
      exact ⟨e, hu, i, hi, Nat.eq_of_beq_eq_true h2⟩
    · cases h2
  · cases h
theorem r_len {s : Operand} {t : TypeId} {p : Option Addr} {n cap size : Nat} (hs : ev al s = some (.slice p n cap)) (hT : Slc P t size) :
    Runs P N B w0 (.call { callee := .builtin .len, args := #[s], argTypes := #[t] }) ty al H (.int .i64 n) := fun a w hst => by
  obtain ⟨e, hu, hz⟩ := hT
  simp [BigFrame.execOp_builtin, BigFrame.builtin_len, hst.regs.eval hs, Builtin.len_, run_underlying hu, goInt]
theorem r_max {x y : Operand} {tys : Array TypeId} {m n : Int} (hx : ev al x = some (.int .i64 m)) (hy : ev al y = some (.int .i64 n)) :
    Runs P N B w0 (.call { callee := .builtin .max, args := #[x, y], argTypes := tys }) ty al H (.int .i64 (max m n)) := fun a w hst => by
  have : (if n > m then n else m) = max m n := by rw [Int.max_def]; split <;> split <;> omega
  simp [BigFrame.execOp_builtin, BigFrame.builtin_max, hst.regs.eval hx, hst.regs.eval hy, Builtin.max_, Builtin.max2, ← this]
def evp (al : AL) : List (Nat × Operand) → Option (List (Nat × Value))
  | [] => some []
  | (i, x) :: r => match ev al x, evp al r with | some v, some vs => some ((i, v) :: vs) | _, _ => none
theorem evp_eval {a : Act} (h : Regs N al a) : ∀ {xs : List (Nat × Operand)} {vs : List (Nat × Value)}, evp al xs = some vs → xs.map (fun p => (p.1, a.eval p.2)) = vs
  | [], vs, hx => by simp only [evp, Option.some.injEq] at hx; subst hx; rfl
  | (i, x) :: r, vs, hx => by
    unfold evp at hx
    split at hx
    · rename_i v vs' h1 h2; cases hx; simp [h.eval h1, evp_eval h h2]
    · exact absurd hx (by simp)
def Str (P : Program) (t : TypeId) : Prop := P.underlying t = some .string
def evs (al : AL) : List Operand → Option (List Value)
  | [] => some []
  | x :: r => match ev al x, evs al r with | some v, some vs => some (v :: vs) | _, _ => none
theorem Regs.evals {a : Act} (h : Regs N al a) : ∀ {xs : List Operand} {vs : List Value}, evs al xs = some vs → xs.map a.eval = vs
  | [], vs, hx => by simp only [evs, Option.some.injEq] at hx; subst hx; rfl
  | x :: r, vs, hx => by
    unfold evs at hx
    split at hx
    · rename_i v vs' h1 h2; cases hx; simp [h.eval h1, h.evals h2]
    · exact absurd hx (by simp)
theorem r_func {g : FuncId} {caps : List Operand} {cv : List Value} (hc : evs al caps = some cv) : Runs P N B w0 (.makeFunc (.func g) #[] caps.toArray) ty al H (.func (.func g) #[] cv.toArray) := fun a w hst => by
  have := hst.regs.evals hc
  simp [execOp, Instr.makeFunc, this]

/-- A new block, and what it holds. -/
theorem St.newBlk {a : Act} {w : World} (h : St N B w0 al H a w) (id : Nat) {cur : Array Value} {cl : List (Nat × Value)} (T : TypeId) (hc : ∀ o v, look cl o = some v → cur[o]? = some v) :
    St N B w0 al ((id, .blk w.heap.size cl T) :: H) a (w.alloc (.cells cur T)) :=
  h.step h.regs (h.below.alloc h.base _) (h.sat.new id ⟨h.base, cur, heap_alloc_new w _, hc⟩ (fun k hk => Below.heap_alloc w _ k hk) (fun b hb => by simp only [Ent.own, Option.some.injEq] at hb; omega)) (by have := h.base; simp; omega) (Kd.alloc w _)

def pairs : Nat → List Value → List (Nat × Value)
  | _, [] => []
  | o, v :: r => (o, v) :: pairs (o + 1) r
theorem look_pairs : ∀ {us : List Value} {o n : Nat} {v : Value}, look (pairs o us) n = some v → o ≤ n ∧ us[n - o]? = some v
  | [], o, n, v, h => by simp [pairs, look] at h
  | u :: r, o, n, v, h => by
    by_cases hk : o = n
    · subst hk; rw [pairs, look_cons_eq] at h; cases h; simp
    · rw [pairs, look_cons_ne _ _ hk] at h
      obtain ⟨h1, h2⟩ := look_pairs h
      refine ⟨by omega, ?_⟩
      rw [show n - o = (n - (o + 1)) + 1 from by omega]
      simpa using h2
theorem look_append {β : Type} {l m : List (Nat × β)} {n : Nat} : look (l ++ m) n = (match look l n with | some v => some v | none => look m n) := by
  induction l with
  | nil => simp [look]
  | cons x r ih =>
    obtain ⟨k, v⟩ := x
    by_cases hk : k = n
    · subst hk; rw [List.cons_append, look_cons_eq, look_cons_eq]
    · rw [List.cons_append, look_cons_ne _ _ hk, look_cons_ne _ _ hk, ih]

/-- The zero of a type, cell by cell. -/
def ZeroOf (P : Program) (t : TypeId) (us : List Value) : Prop := ∃ z, (P.info? t).bind (·.zero) = some z ∧ z.cells = us.toArray
theorem run_zero {t : TypeId} {us : List Value} (h : ZeroOf P t us) (w : World) : ∃ z, (zeroValue t).run P w = .ok z w ∧ z.cells = us.toArray := by
  obtain ⟨z, h1, h3⟩ := h
  cases hi : P.info? t with
  | none => simp [hi] at h1
  | some i => exact ⟨z, by rw [hi] at h1; simp at h1; simp [zeroValue, typeInfo, hi, h1], h3⟩
theorem newVar_run (t : TypeId) (v : Value) (w : World) : (newVar t v).run P w = .ok ⟨w.heap.size, 0, none⟩ (w.alloc (.cells v.cells t)) := by
  simp [newVar, newRow, newObj, Sem.run]

theorem ol_alloc {elem : TypeId} {us : List Value} (id : Nat) (hz : ZeroOf P elem us) (hd : Nat.blt d N.n = true)
    (k : ∀ b, OL P N B w0 ops rest Q ((d, .pointer (some ⟨b, 0, none⟩)) :: al) ((id, .blk b (pairs 0 us) elem) :: H)) :
    OL P N B w0 ops ({ dst := some d, op := .alloc elem, type := ty, pos, after, guard := none } :: rest) Q al H := by
  intro a w hst
  refine wpList_plain rfl fun K hK => ?_
  obtain ⟨z, h1, h2⟩ := run_zero hz w
  unfold Oper.wp
  simp only [execOp, Instr.alloc, Sem.run_bind, h1, Result.andThen_ok, newVar_run, Sem.run_pure, Oper.upon_value]
  refine hK _ _ (k w.heap.size _ _ ((hst.newBlk id elem ?_).put (by simpa using hd) _))
  intro o v ho
  have := look_pairs ho
  simpa [h2] using this.2

theorem ol_box {elem : TypeId} {x : Operand} (id : Nat) {us : List Value} (hx : ev al x = some v) (hv : v.cells = us.toArray) (hd : Nat.blt d N.n = true)
    (k : ∀ b, OL P N B w0 ops rest Q ((d, .pointer (some ⟨b, 0, none⟩)) :: al) ((id, .blk b (pairs 0 us) elem) :: H)) :
    OL P N B w0 ops ({ dst := some d, op := .box elem x, type := ty, pos, after, guard := none } :: rest) Q al H := by
  intro a w hst
  refine wpList_plain rfl fun K hK => ?_
  unfold Oper.wp
  simp only [execOp, Instr.box, Sem.run_bind, Result.andThen_ok, newVar_run, Sem.run_pure, Oper.upon_value, hst.regs.eval hx]
  refine hK _ _ (k w.heap.size _ _ ((hst.newBlk id elem ?_).put (by simpa using hd) _))
  intro o u ho
  have := look_pairs ho
  rw [hv]
  simpa using this.2

/-- Not the value of many cells. -/
def one : Value → Bool
  | .agg _ | .tuple _ => false
  | _ => true
theorem run_storeCells (b : Nat) (T : TypeId) : ∀ (us : List Value) (off i : Nat) (cur : Array Value) (w : World), w.heap[b]? = some (.cells cur T (0, 0)) → off + i + us.length ≤ cur.size → (∀ u ∈ us, one u = true) →
    ∃ cur', (storeCells ⟨b, off, none⟩ us i).run P w = .ok () { w with heap := w.heap.setIfInBounds b (.cells cur' T (0, 0)) } ∧ cur'.size = cur.size ∧
      ∀ n, cur'[n]? = if off + i ≤ n ∧ n < off + i + us.length then us[n - (off + i)]? else cur[n]?
  | [], off, i, cur, w, hb, _, _ => by
    refine ⟨cur, ?_, rfl, fun n => by rw [if_neg (by simp only [List.length_nil]; omega)]⟩
    simp only [storeCells, Sem.run_pure]
    congr 1
    have hlt := (Array.getElem?_eq_some_iff.1 hb).1
    have : w.heap.setIfInBounds b (.cells cur T (0, 0)) = w.heap := by
      apply Array.ext_getElem?
      intro n
      by_cases hn : b = n
      · subst hn; rw [hb]; simp [hlt]
      · rw [Array.getElem?_setIfInBounds_ne hn]
    rw [this]
  | u :: us, off, i, cur, w, hb, hsz, h1 => by
    have hlt := (Array.getElem?_eq_some_iff.1 hb).1
    simp only [List.length_cons] at hsz
    have hc : w.cell? ⟨b, off + i, none⟩ = some (cur[off + i]'(by omega)) := by simp [World.cell?, hb]
    have hf : w.frozen? ⟨b, off + i, none⟩ = false := by simp [World.frozen?, hb]
    have hu : one u = true := h1 u (by simp)
    have hset : w.setCell ⟨b, off + i, none⟩ u = { w with heap := w.heap.setIfInBounds b (.cells (cur.setIfInBounds (off + i) u) T (0, 0)) } := by
      simp only [World.setCell]
      congr 1
      apply Array.ext_getElem?
      intro n
      by_cases hn : b = n
      · subst hn; rw [Array.getElem?_modify, if_pos rfl, hb, Array.getElem?_setIfInBounds_self_of_lt hlt]; rfl
      · rw [Array.getElem?_setIfInBounds_ne hn, Array.getElem?_modify, if_neg hn]
    obtain ⟨cur', h2, h3, h4⟩ := run_storeCells b T us off (i + 1) (cur.setIfInBounds (off + i) u) { w with heap := w.heap.setIfInBounds b (.cells (cur.setIfInBounds (off + i) u) T (0, 0)) } (by simp [hlt]) (by simp; omega) (fun x hx => h1 x (by simp [hx]))
    refine ⟨cur', ?_, by simpa using h3, fun n => ?_⟩
    · have hst : (store ((⟨b, off, none⟩ : Addr).add i) u).run P w = .ok () { w with heap := w.heap.setIfInBounds b (.cells (cur.setIfInBounds (off + i) u) T (0, 0)) } := by
        rw [add_none, ← hset]
        unfold store
        cases u <;> first | (simp [one] at hu; done) | simp [Sem.run, hc, hf]
      simp only [storeCells, Sem.run_bind, hst, Result.andThen_ok, h2]
      congr 1
      simp
    · rw [h4 n]
      by_cases hn : n = off + i
      · subst hn
        rw [if_neg (by omega), if_pos (by simp), Array.getElem?_setIfInBounds_self_of_lt (by omega)]
        simp
      · by_cases hr : off + (i + 1) ≤ n ∧ n < off + (i + 1) + us.length
        · rw [if_pos hr, if_pos (by simp; omega), show n - (off + i) = (n - (off + (i + 1))) + 1 from by omega]
          simp
        · rw [if_neg hr, if_neg (by simp; omega)]
          rw [Array.getElem?_setIfInBounds_ne (by omega)]

theorem look_pairs_in : ∀ {us : List Value} {o n : Nat}, o ≤ n → n < o + us.length → look (pairs o us) n = us[n - o]?
  | [], o, n, h1, h2 => by simp at h2; omega
  | u :: r, o, n, h1, h2 => by
    by_cases hk : o = n
    · subst hk; rw [pairs, look_cons_eq]; simp
    · simp only [List.length_cons] at h2
      rw [pairs, look_cons_ne _ _ hk, look_pairs_in (by omega) (by omega), show n - o = (n - (o + 1)) + 1 from by omega]
      simp

/-- The blocks behind a store. -/
theorem setBlk_other (w : World) (b k : Nat) (o : Obj) (h : k ≠ b) : ({ w with heap := w.heap.setIfInBounds b o } : World).heap[k]? = w.heap[k]? := by
  simp only
  rw [Array.getElem?_setIfInBounds_ne (Ne.symm h)]
theorem Below.setBlk {C : Nat} {w1 w : World} (h : Below C w1 w) {b : Nat} (hb : C ≤ b) (o : Obj) : Below C w1 { w with heap := w.heap.setIfInBounds b o } :=
  h.trans ⟨rfl, rfl, rfl, by simp, fun k hk => setBlk_other w b k o (by omega)⟩

theorem run_storeVar_blk {b off id : Nat} {cl : List (Nat × Value)} {T t : TypeId} {us : List Value} {w : World} {v : Value} (hv : v.cells.toList = us)
    (hok : (Ent.blk b cl T).ok B w) (hT : Size P t us.length) (hold : (looks cl off us.length).isSome = true) (hone : ∀ u ∈ us, one u = true) (hpos : 0 < us.length) :
    ∃ cur', (storeVar t ⟨b, off, none⟩ v).run P w = .ok () { w with heap := w.heap.setIfInBounds b (.cells cur' T (0, 0)) } ∧
      (∀ o u, look (pairs off us ++ cl) o = some u → cur'[o]? = some u) := by
  obtain ⟨hB, cur, h2, h3⟩ := hok
  obtain ⟨os, hos⟩ := Option.isSome_iff_exists.1 hold
  obtain ⟨hl1, hl2⟩ := looks_get hos
  have hlast : off + (us.length - 1) < cur.size := by
    have : os[us.length - 1]? = some (os[us.length - 1]'(by omega)) := List.getElem?_eq_getElem _
    have := h3 _ _ (hl2 _ _ this)
    exact (Array.getElem?_eq_some_iff.1 this).1
  obtain ⟨cur', r1, r2, r3⟩ := run_storeCells (P := P) b T us off 0 cur w h2 (by omega) hone
  refine ⟨cur', ?_, fun o u ho => ?_⟩
  · have hsz : v.cells.size = us.length := by rw [← hv]; simp
    simp [storeVar, run_sizeOf hT, hsz, hv, r1]
  · rw [r3 o]
    simp only [Nat.add_zero]
    by_cases hr : off ≤ o ∧ o < off + us.length
    · rw [if_pos hr, ← look_pairs_in hr.1 hr.2]
      rw [look_append] at ho
      rw [look_pairs_in hr.1 hr.2] at ho ⊢
      have : us[o - off]? = some (us[o - off]'(by omega)) := List.getElem?_eq_getElem _
      rw [this] at ho ⊢
      exact ho
    · rw [if_neg hr]
      rw [look_append] at ho
      cases hp : look (pairs off us) o with
      | none => rw [hp] at ho; exact h3 o u ho
      | some x =>
        have := look_pairs hp
        have h5 := (List.getElem?_eq_some_iff.1 this.2).1
        omega

theorem ol_store {ad x : Operand} {b off id : Nat} {cl : List (Nat × Value)} {T t : TypeId} {us : List Value} (hp : ev al ad = some (.pointer (some ⟨b, off, none⟩))) (hH : look H id = some (.blk b cl T))
    (hx : ev al x = some v) (hv : v.cells = us.toArray) (hT : Size P t us.length) (hold : (looks cl off us.length).isSome = true) (hone : us.all one = true) (hpos : 0 < us.length)
    (k : OL P N B w0 ops rest Q al ((id, .blk b (pairs off us ++ cl) T) :: H)) :
    OL P N B w0 ops ({ dst := none, op := .store t ad x, type := ty, pos, after, guard := none } :: rest) Q al H := by
  intro a w hst
  refine wpList_plain rfl fun K hK => ?_
  have hok := hst.sat.ok _ _ hH
  obtain ⟨cur', h1, h2⟩ := run_storeVar_blk (P := P) (id := id) (us := us) (v := v) (by rw [hv]) hok hT hold (List.all_eq_true.1 hone) hpos
  unfold Oper.wp
  simp only [execOp, Instr.storeAt, Instr.sureAddr, hst.regs.eval hp, hst.regs.eval hx, Sem.run_bind, Sem.run_pure, Result.andThen_ok, h1, Oper.upon_skip]
  refine hK _ _ (k _ _ (hst.step hst.regs (Below.setBlk hst.below hok.1 _) ?_ (by simpa using hst.base) (Kd.one b (fun k _ hk => setBlk_other w b k _ hk) (fun o ho => .inl (by obtain ⟨_, cur, hc, _⟩ := hok; rw [hc] at ho; cases ho; rfl)))))
  have hlt := (Ent.own_lt hok rfl).2
  refine hst.sat.turn hH (e' := .blk b (pairs off us ++ cl) T) ⟨hok.1, cur', by simp [hlt], h2⟩ (fun k _ hk => setBlk_other w b k _ (fun e => hk (by simp [Ent.own, e]))) (fun b' hb' => .inl hb')

/-! #### calls -/
/-- A function with a text. -/
def Callable (P : Program) (g : FuncId) : Prop := ∃ fn, P.funcs[g]? = some fn ∧ (fn.name == "runtime.NumGoroutine") = false ∧ fn.body.isNone = false
def callB (P : Program) (g : FuncId) : Bool := match P.funcs[g]? with | some fn => !(fn.name == "runtime.NumGoroutine") && !fn.body.isNone | none => false
theorem Callable.of {g : FuncId} (h : callB P g = true) : Callable P g := by
  unfold callB at h
  split at h
  · rename_i fn hf
    rw [Bool.and_eq_true] at h
    exact ⟨fn, hf, by simpa using h.1, by simpa using h.2⟩
  · exact absurd h (by simp)

/-- What a call leaves: a value, blocks, and what goes on. -/
def After (P : Program) (N : Fr) (B : Nat) (w0 : World) (w : World) (ops rest : List Oper) (Q : Exit → Act → World → Prop) (al : AL) (d : Option Nat) (e : Ending) (w' : World) : Prop :=
  ∃ v H', e = .returned v ∧ Below B w0 w' ∧ Sat B w' H' ∧ B ≤ w'.heap.size ∧ Kd N.c w w' ∧ OL P N B w0 ops rest Q (match d with | some d => (d, v) :: al | none => al) H'

theorem ol_call {f : Operand} {args : List Operand} {tys : Array TypeId} {g : FuncId} {cv vs : List Value} (hf : ev al f = some (.func (.func g) #[] cv.toArray)) (ha : evs al args = some vs)
    (hg : Callable P g) (hd : Nat.blt d N.n = true)
    (hc : ∀ w, Below B w0 w → Sat B w H → B ≤ w.heap.size → Calls P g (vs ++ cv).toArray w (After P N B w0 w ops rest Q al (some d))) :
    OL P N B w0 ops ({ dst := some d, op := .call { callee := .value f, args := args.toArray, argTypes := tys }, type := ty, pos, after, guard := none } :: rest) Q al H := by
  intro a w hst
  refine wpList_plain rfl fun K hK => ?_
  obtain ⟨fn, h1, h2, h3⟩ := hg
  have hcall : (callFunc g (vs ++ cv).toArray).run P w = .ok (.enter g (vs ++ cv).toArray) w := by
    have hn : ¬ (fn.name = "runtime.NumGoroutine") := by simpa using h2
    have hb : ¬ (fn.body = none) := by intro e; rw [e] at h3; simp at h3
    simp [callFunc, program, Sem.run, h1, hn, hb]
  have hrun : (execOp a.eval { dst := some d, op := .call { callee := .value f, args := args.toArray, argTypes := tys }, type := ty, pos, after, guard := none }).run P w = .ok (.enter g (vs ++ cv).toArray) w := by
    have := hst.regs.evals ha
    simp [execOp, resolve, hst.regs.eval hf, Deferred.ofValue, invoke, this, hcall]
  unfold Oper.wp
  rw [hrun, Oper.upon_enter]
  refine (hc w hst.below hst.sat hst.base).mono ?_
  rintro e w' ⟨v, H', rfl, h4, h5, h6, h8, h7⟩
  exact hK _ _ (h7 _ _ (hst.step (hst.regs.put (by simpa using hd) v) h4 h5 h6 h8))

/-- A callee that touches nothing that was there. -/
theorem After.below {e : Ending} {w w' : World} {v : Value} {d : Nat} (he : e = .returned v) (hw : Below B w0 w) (hs : Sat B w H) (hb : B ≤ w.heap.size) (hbl : Below w.heap.size w w')
    (k : OL P N B w0 ops rest Q ((d, v) :: al) H) : After P N B w0 w ops rest Q al (some d) e w' :=
  ⟨v, H, he, hw.trans (hbl.mono hb), hs.below (C := B) hbl, Nat.le_trans hb hbl.size, Kd.of_below hbl, k⟩

/-! #### the end -/
/-- A result. -/
def RV (P : Program) (al : AL) (H : HL) : ResultVar → Value → Prop
  | .tmp t, v => look al t = some v
  | .cell s T, v => ∃ b off id cl T', look al s = some (.pointer (some ⟨b, off, none⟩)) ∧ look H id = some (.blk b cl T') ∧ ((Scal P T ∧ look cl off = some v) ∨ ∃ n us, Aggr P T n ∧ looks cl off n = some us ∧ v = .agg us.toArray)
theorem rv_c {s b off id n : Nat} {T T' : TypeId} {cl : List (Nat × Value)} {us : List Value} (hp : look al s = some (.pointer (some ⟨b, off, none⟩))) (hH : look H id = some (.blk b cl T')) (hT : Aggr P T n) (hc : looks cl off n = some us) :
    RV P al H (.cell s T) (.agg us.toArray) := ⟨b, off, id, cl, T', hp, hH, .inr ⟨n, us, hT, hc, rfl⟩⟩
def rvS (tmps : Array Value) (r : ResultVar) : Sem Value := match r with | .tmp t => pure (tmps.getD t undef) | .cell s T => do loadVar T (← asAddr (tmps.getD s undef))
theorem results_rvS (fn : Func) (tmps : Array Value) : results fn tmps = (do let vs ← fn.results.mapM (rvS tmps); pure (if h : vs.size = 1 then vs[0] else .tuple vs)) := rfl
theorem RV.run {a : Act} {w : World} (hst : St N B w0 al H a w) {r : ResultVar} {v : Value} (h : RV P al H r v) :
    (rvS a.tmps r).run P w = .ok v w := by
  unfold rvS
  cases r with
  | tmp t =>
    have := hst.regs.slot t v h
    simp [Array.getD_eq_getD_getElem?, this]
  | cell s T =>
    obtain ⟨b, off, id, cl, T', h1, h2, h3⟩ := h
    have h4 := hst.regs.slot s _ h1
    have hg : a.tmps.getD s undef = .pointer (some ⟨b, off, none⟩) := by simp [Array.getD_eq_getD_getElem?, h4]
    rcases h3 with ⟨hT, hc⟩ | ⟨n, us, hT, hc, rfl⟩
    · have := run_loadVar_one (P := P) hT (blk_cell (hst.sat.ok _ _ h2) hc)
      simp [hg, asAddr, this]
    · obtain ⟨h5, h6⟩ := looks_get hc
      have := run_loadVar_agg (P := P) (us := us) (by rw [h5]; exact hT) (w := w) (x := ⟨b, off, none⟩) (fun j u hj => by rw [add_none]; exact blk_cell (hst.sat.ok _ _ h2) (h6 j u hj))
      simp [hg, asAddr, this]

/-- A way out, back to the function's own end. -/
theorem QP.of {Q' : Exit → Act → World → Prop} {e : Exit} (h : QP N B w0 Q' e al H) (hQ : ∀ a w, Q' e a w → Q e a w) : QP N B w0 Q e al H := fun a w hst => hQ a w (h a w hst)

/-! #### a region that draws its order, and only reads -/
def Cl (N : Fr) (B : Nat) (w0 : World) (H : HL) : World → Prop := fun w => Below B w0 w ∧ Sat B w H ∧ B ≤ w.heap.size ∧ (N.y = false → Kd N.c w0 w) ∧ MarkOk w0 N.ds w
theorem Cl.st {a : Act} {w : World} (h : Cl N B w0 H w) (hr : Regs N al a) : St N B w0 al H a w := ⟨hr, h.1, h.2.1, h.2.2.1, h.2.2.2.1, h.2.2.2.2⟩
theorem St.cl {a : Act} {w : World} (h : St N B w0 al H a w) : Cl N B w0 H w := ⟨h.below, h.sat, h.base, h.kd, h.marks⟩
theorem St.drew {a : Act} {w : World} (h : St N B w0 al H a w) : St N B w0 al H a { w with drawn := w.drawn + 1 } := ⟨h.regs, h.below.drew, h.sat.below' (fun k _ => rfl), h.base, fun hy => (h.kd hy).trans (fun _ _ h _ _ => h), h.marks.kd (C := N.c) (fun _ _ h _ _ => h)⟩
def QL (P : Program) (N : Fr) (B : Nat) (w0 : World) (ops l : List Oper) (Qa : Act → Prop) (al : AL) (H : HL) : Prop := ∀ a, Regs N al a → wpQuiet P ops.toArray (Cl N B w0 H) Qa l a
theorem wp_regq {id : Nat} {l : List Oper} (hm : P.follows .mixedOrders = true) (hB : Region.lexB .any l.toArray = true)
    (h : QL P N B w0 l l (fun a => ∀ w, Cl N B w0 H w → Q .normal a w) al H) : WP P N B w0 (.region id l.toArray true) Q al H := by
  intro a w hst
  exact d_quiet (C := Cl N B w0 H) hm hB hst.drew.cl (by simpa using h a hst.regs)
theorem ql_nil {ops : List Oper} (h : QP N B w0 Q .normal al H) : QL P N B w0 ops [] (fun a => ∀ w, Cl N B w0 H w → Q .normal a w) al H :=
  fun a hr => wpQuiet_nil fun w hw => h a w (hw.st hr)
theorem ql_r {Qa : Act → Prop} (hr : Runs P N B w0 op ty al H v) (hd : Nat.blt d N.n = true) (k : QL P N B w0 ops rest Qa ((d, v) :: al) H) :
    QL P N B w0 ops ({ dst := some d, op, type := ty, pos, after, guard := none } :: rest) Qa al H := by
  intro a hreg
  refine wpQuiet_step fun K hK => ?_
  rw [if_pos (by rfl)]
  refine ⟨v, fun w hw => ?_, hK _ (k _ (hreg.put (by simpa using hd) v))⟩
  unfold Oper.quietAt
  rw [show execOp a.eval { dst := some d, op, type := ty, pos, after, guard := none } = execOp a.eval { dst := none, op, type := ty, pos := "", after := #[], guard := none } from rfl, hr a w (hw.st hreg)]
  exact ⟨rfl, rfl⟩
theorem ql_g {Qa : Act → Prop} {dst : Option Tmp} {j dj : Nat} {want c : Bool} (hj : gd ops j = some dj) (hl : look al dj = some (.bool c)) (hc : c = want)
    (k : QL P N B w0 ops ({ dst, op, type := ty, pos, after, guard := none } :: rest) Qa al H) :
    QL P N B w0 ops ({ dst, op, type := ty, pos, after, guard := some (j, want) } :: rest) Qa al H := by
  intro a hreg
  have hw := wanted_of (o := { dst, op, type := ty, pos, after, guard := some (j, want) }) hreg rfl hj hl
  have := k a hreg
  unfold wpQuiet at this ⊢
  rw [hw, hc]
  simp only [beq_self_eq_true, if_true, Region.wanted] at this ⊢
  exact this
theorem ql_s {Qa : Act → Prop} {j dj : Nat} {want c : Bool} (hj : gd ops j = some dj) (hl : look al dj = some (.bool c)) (hc : c = !want) (hd : Nat.blt d N.n = true)
    (k : QL P N B w0 ops rest Qa ((d, undef) :: al) H) :
    QL P N B w0 ops ({ dst := some d, op, type := ty, pos, after, guard := some (j, want) } :: rest) Qa al H := by
  intro a hreg
  have hw := wanted_of (o := { dst := some d, op, type := ty, pos, after, guard := some (j, want) }) hreg rfl hj hl
  refine wpQuiet_step fun K hK => ?_
  rw [if_neg (by rw [hw, hc]; cases want <;> simp)]
  exact hK _ (k _ (hreg.put (by simpa using hd) undef))
theorem ql_u {Qa : Act → Prop} {j dj : Nat} {want : Bool} (hj : gd ops j = some dj) (hl : look al dj = some undef) (hd : Nat.blt d N.n = true)
    (k : QL P N B w0 ops rest Qa ((d, undef) :: al) H) :
    QL P N B w0 ops ({ dst := some d, op, type := ty, pos, after, guard := some (j, want) } :: rest) Qa al H := by
  intro a hreg
  have hw := wanted_undef (o := { dst := some d, op, type := ty, pos, after, guard := some (j, want) }) hreg rfl hj hl
  refine wpQuiet_step fun K hK => ?_
  rw [if_neg (by rw [hw]; simp)]
  exact hK _ (k _ (hreg.put (by simpa using hd) undef))
theorem ql_split {Qa : Act → Prop} {l : List Oper} {d : Nat} {c : Bool} (hl : look al d = some (.bool c)) (ht : c = true → QL P N B w0 ops l Qa al H) (hf : c = false → QL P N B w0 ops l Qa al H) : QL P N B w0 ops l Qa al H := by
  cases hc : c
  · exact hf hc
  · exact ht hc
/-! #### the results as a whole; into a function with its end behind a name -/
def RVs (P : Program) (al : AL) (H : HL) (rs : Array ResultVar) (v : Value) : Prop :=
  (rs = #[] ∧ v = .tuple #[]) ∨ (∃ r, rs = #[r] ∧ RV P al H r v) ∨ (∃ r1 r2 v1 v2, rs = #[r1, r2] ∧ RV P al H r1 v1 ∧ RV P al H r2 v2 ∧ v = .tuple #[v1, v2]) ∨
  (∃ r1 r2 r3 v1 v2 v3, rs = #[r1, r2, r3] ∧ RV P al H r1 v1 ∧ RV P al H r2 v2 ∧ RV P al H r3 v3 ∧ v = .tuple #[v1, v2, v3]) ∨
  (∃ r1 r2 r3 r4 v1 v2 v3 v4, rs = #[r1, r2, r3, r4] ∧ RV P al H r1 v1 ∧ RV P al H r2 v2 ∧ RV P al H r3 v3 ∧ RV P al H r4 v4 ∧ v = .tuple #[v1, v2, v3, v4])
theorem rv_t {t : Tmp} (h : look al t = some v) : RV P al H (.tmp t) v := h
theorem rvs0 : RVs P al H #[] (.tuple #[]) := .inl ⟨rfl, rfl⟩
theorem rvs1 {r : ResultVar} (h : RV P al H r v) : RVs P al H #[r] v := .inr (.inl ⟨r, rfl, h⟩)
theorem rvs2 {r1 r2 : ResultVar} {v1 v2 : Value} (h1 : RV P al H r1 v1) (h2 : RV P al H r2 v2) : RVs P al H #[r1, r2] (.tuple #[v1, v2]) := .inr (.inr (.inl ⟨r1, r2, v1, v2, rfl, h1, h2, rfl⟩))
theorem rvs3 {r1 r2 r3 : ResultVar} {v1 v2 v3 : Value} (h1 : RV P al H r1 v1) (h2 : RV P al H r2 v2) (h3 : RV P al H r3 v3) : RVs P al H #[r1, r2, r3] (.tuple #[v1, v2, v3]) :=
  .inr (.inr (.inr (.inl ⟨r1, r2, r3, v1, v2, v3, rfl, h1, h2, h3, rfl⟩)))
/-- The end of a function: what it returns meets R. -/
theorem leavesM_nil {F : Fence} {n : Nat} {fn : Func} {tmps : Array Value} {R : Ending → World → Prop} {v : Value} {w : World} (h1 : (results fn tmps).run P w = .ok v w) (h2 : R (.returned v) w) : LeavesInM F n P fn tmps R [] .returning w := ⟨v, h1, h2⟩
/-- The marks are taken up; what a walk knows holds behind that, too. -/
theorem run_take {D0 : Nat} {w : World} (h : w.heap[D0]? = some (.deferred (some []))) : (Instr.takeDeferred D0).run P w = .ok [] (w.putObj D0 (.deferred none)) := run_takeDeferred h
theorem leave_marks {fn : Func} {R : Ending → World → Prop} {tmps : Array Value} {v : Value} : ∀ (ds : List Nat) (w : World), Below B w0 w → Sat B w H → B ≤ w.heap.size → B ≤ w0.heap.size → Kd N.c w0 w → MarkOk w0 ds w →
    (∀ w', Below B w0 w' → Sat B w' H → B ≤ w'.heap.size → Kd N.c w0 w' → (results fn tmps).run P w' = .ok v w' ∧ R (.returned v) w') → LeavesInM Fence.wide 0 P fn tmps R (ds.map mkMark) .returning w
  | [], w, h1, h2, h3, hB0, h4, h5, hR => by
    obtain ⟨q1, q2⟩ := hR w h1 h2 h3 h4
    exact leavesM_nil q1 q2
  | d :: ds, w, h1, h2, h3, hB0, h4, h5, hR => by
    have hd := h5.2 d (by simp)
    have hn := List.nodup_cons.1 h5.1
    have hoth : ∀ k, k ≠ d → (w.putObj d (.deferred none)).heap[k]? = w.heap[k]? := fun k hk => World.putObj_heap_other hk
    refine ⟨by simp, .inl ⟨d, _, rfl, run_take hd.2, ?_⟩⟩
    refine leave_marks ds _ ?_ ?_ ?_ hB0 ?_ ⟨hn.2, fun k hk => ⟨(h5.2 k (by simp [hk])).1, ?_⟩⟩ hR
    · exact h1.grown (grownBy_putObj' w d _) h3 (fun k e => by cases e; omega) (Nat.le_refl _)
    · refine ⟨fun i e he => Ent.ok_same (h2.ok i e he) fun b hb => hoth b fun hbd => ?_, h2.apart⟩
      have := Ent.own_known (h2.ok i e he) hb (hbd ▸ hd.2)
      cases this
    · have := (grownBy_putObj' w d (.deferred none)).size; omega
    · intro k o hk hc hm
      have hkd : k ≠ d := fun e => by have := (Array.getElem?_eq_some_iff.1 hk).1; omega
      rw [hoth k hkd]; exact h4 k o hk hc hm
    · rw [hoth k fun e => hn.1 (e ▸ hk)]; exact (h5.2 k (by simp [hk])).2
def Ends (P : Program) (N : Fr) (B : Nat) (w0 : World) (rs : Array ResultVar) (R : Ending → World → Prop) (Q : Exit → Act → World → Prop) : Prop :=
  ∀ ds e al H v, (e = .ret ∨ e = .normal) → RVs P al H rs v → (∀ w, Below B w0 w → Sat B w H → B ≤ w.heap.size → Kd N.c w0 w → R (.returned v) w) → QP (N.at ds) B w0 Q e al H
theorem Ends.ret {N : Fr} {N' : Fr} {rs : Array ResultVar} {R : Ending → World → Prop} {Q0 : Exit → Act → World → Prop} (h : Ends P N' B w0 rs R Q0) (hv : RVs P al H rs v) (hQ : ∀ a w, Q0 .ret a w → Q .ret a w)
    (hR : ∀ w, Below B w0 w → Sat B w H → B ≤ w.heap.size → Kd N'.c w0 w → R (.returned v) w) (hN : N'.at N.ds = N := by rfl) : WP P N B w0 .ret Q al H := hN ▸ wp_ret' (QP.of (h _ _ _ _ _ (.inl rfl) hv hR) hQ)
theorem Ends.fall {N : Fr} {N' : Fr} {rs : Array ResultVar} {R : Ending → World → Prop} {Q0 : Exit → Act → World → Prop} (h : Ends P N' B w0 rs R Q0) (hv : RVs P al H rs v) (hQ : ∀ a w, Q0 .normal a w → Q .normal a w)
    (hR : ∀ w, Below B w0 w → Sat B w H → B ≤ w.heap.size → Kd N'.c w0 w → R (.returned v) w) (hN : N'.at N.ds = N := by rfl) : QP N B w0 Q .normal al H := hN ▸ QP.of (h _ _ _ _ _ (.inr rfl) hv hR) hQ
theorem results_of {fn : Func} {rs : Array ResultVar} (hrs : fn.results = rs) {a : Act} {w : World} (hst : St N B w0 al H a w) (hv : RVs P al H rs v) : (results fn a.tmps).run P w = .ok v w := by
  rcases hv with ⟨h0, rfl⟩ | ⟨r, h0, h1⟩ | ⟨r1, r2, v1, v2, h0, h1, h2, rfl⟩ | ⟨r1, r2, r3, v1, v2, v3, h0, h1, h2, h3, rfl⟩ | ⟨r1, r2, r3, r4, v1, v2, v3, v4, h0, h1, h2, h3, h4, rfl⟩ <;> subst h0
  · simp [results, hrs]
  · have := h1.run hst
    simp [results_rvS, hrs, this]
  · have q1 := h1.run hst
    have q2 := h2.run hst
    simp [results_rvS, hrs, q1, q2]
  · have q1 := h1.run hst
    have q2 := h2.run hst
    have q3 := h3.run hst
    simp [results_rvS, hrs, q1, q2, q3]
  · have q1 := h1.run hst
    have q2 := h2.run hst
    have q3 := h3.run hst
    have q4 := h4.run hst
    simp [results_rvS, hrs, q1, q2, q3, q4]

theorem enterQ {N : Nat} {C : Nat → Prop} {f : FuncId} {fn : Func} {c : Code} {args : List Value} {w : World} {R : Ending → World → Prop} (hf : P.funcs[f]? = some fn) (hb : fn.body = some c) (hn : fn.ntmps = N) (hl : Nat.ble args.length N = true)
    (hB : B ≤ w.heap.size) (hs : Sat B w H) (h : ∀ Q, Ends P ⟨N, C, [], false⟩ B w fn.results R Q → WP P ⟨N, C, [], false⟩ B w c Q (pairs 0 args) H) : Calls P f args.toArray w R := by
  refine callsIn_wide.1 (callsIn_of_wp_marks (F := Fence.wide) (n := 0) hf hb trivial (wpIn_wide.2 (D.wp _ _ _ _ _ (h (bodyPostM Fence.wide 0 P fn R) ?_ _ _ ⟨⟨rfl, ?_, fun n v hv => ?_⟩, Below.refl _ _, hs, hB, fun _ => Kd.refl _ _, MarkOk.nil _ _⟩))) rfl)
  · intro ds e al H v he hv hR a w' hst
    have key : LeavesInM Fence.wide 0 P fn a.tmps R a.defers .returning w' := by
      rw [hst.regs.defers]
      refine leave_marks (N := ⟨N, C, [], false⟩) ds w' hst.below hst.sat hst.base hB (hst.kd rfl) hst.marks fun w1 q1 q2 q3 q4 => ⟨?_, hR w1 q1 q2 q3 q4⟩
      refine results_of (N := ⟨a.tmps.size, C, [], false⟩) (w0 := w) (B := B) (al := al) (H := H) rfl (a := { tmps := a.tmps, defers := [] }) ⟨⟨rfl, rfl, fun n v h => hst.regs.slot n v h⟩, q1, q2, q3, fun _ => q4, MarkOk.nil _ _⟩ hv
    rcases he with rfl | rfl <;> exact key
  · have : args.length ≤ N := by simpa using hl
    simp [hn]; omega
  · have := look_pairs hv
    simp only [Nat.sub_zero] at this
    have h2 := (List.getElem?_eq_some_iff.1 this.2).1
    rw [Array.getElem?_append_left (by simpa using h2)]
    simpa using this.2

theorem sub_nil {β : Type} {m : List (Nat × β)} : Sub [] m := trivial
theorem sub_cons {β : Type} {m r : List (Nat × β)} {k : Nat} {v : β} (h : look m k = some v) (hr : Sub r m) : Sub ((k, v) :: r) m := ⟨h, hr⟩
theorem Ent.le_refl (e : Ent) : e.le e := by
  cases e with
  | blk b cl T => exact ⟨rfl, rfl, fun _ _ h => h⟩
  | row => exact rfl
  | mp => exact rfl
  | ob => exact rfl
  | gone => trivial
theorem subH_nil {m : HL} : SubH [] m := trivial
theorem subH_same {r m : HL} {k : Nat} {e : Ent} (h : look m k = some e) (hr : SubH r m) : SubH ((k, e) :: r) m := ⟨⟨e, h, Ent.le_refl e⟩, hr⟩
theorem subH_blk {r m : HL} {k b : Nat} {cl cl' : List (Nat × Value)} {T : TypeId} (h : look m k = some (.blk b cl' T)) (hs : Sub cl cl') (hr : SubH r m) : SubH ((k, .blk b cl T) :: r) m := ⟨⟨_, h, rfl, rfl, hs.out⟩, hr⟩
theorem sub_app {β : Type} {l m n : List (Nat × β)} (h1 : Sub l n) (h2 : Sub m n) : Sub (l ++ m) n := by
  induction l with
  | nil => exact h2
  | cons x r ih => obtain ⟨k, v⟩ := x; exact ⟨h1.1, ih h1.2⟩
theorem subH_app {l m n : HL} (h1 : SubH l n) (h2 : SubH m n) : SubH (l ++ m) n := by
  induction l with
  | nil => exact h2
  | cons x r ih => obtain ⟨k, v⟩ := x; exact ⟨h1.1, ih h1.2⟩

/-- A loop: some slots and blocks hold what the state of the round says, the others what they held. -/
theorem wp_loopM {c : Code} {σ : Type} (I : σ → Prop) (M : σ → AL) (L : AL) (G : σ → HL) (G0 : HL) (μ : σ → Nat) (s0 : σ) (h0 : I s0) (hs : Sub (M s0) al) (hL : Sub L al) (hh : SubH (G s0) H) (hh0 : SubH G0 H)
    (round : ∀ s, I s → ∀ K : Act → World → Prop, (∀ s' al' H', I s' → μ s' < μ s → Sub (M s') al' → Sub L al' → SubH (G s') H' → SubH G0 H' → KP N B w0 K al' H') → WP P N B w0 c (Exit.then K Q) (M s ++ L) (G s ++ G0)) :
    WP P N B w0 (.loop c) Q al H :=
  wp_loop' I (fun s => M s ++ L) (fun s => G s ++ G0) μ s0 h0 (sub_app hs hL) (subH_app hh hh0) (fun s hI K hK => round s hI K fun s' al' H' h1 h2 h3 h4 h5 h6 => (hK s' h1 h2).sub (sub_app h3 h4) (subH_app h5 h6))

/-! #### slices as lists -/
/-- How the elements of a slice lie in its cells. -/
structure Enc (α : Type) where
  size : Nat
  cells : α → List Value
  val : α → Value
  len : ∀ x, (cells x).length = size
  ones : ∀ x, ∀ u ∈ cells x, one u = true
  pos : 0 < size
  vc : ∀ x, (val x).cells.toList = cells x
def Enc.enc {α : Type} (E : Enc α) (xs : List α) : List Value := xs.flatMap E.cells
theorem Enc.enc_len {α : Type} (E : Enc α) (xs : List α) : (E.enc xs).length = xs.length * E.size := by
  induction xs with
  | nil => simp [Enc.enc]
  | cons x r ih =>
    have : E.enc (x :: r) = E.cells x ++ E.enc r := rfl
    rw [this, List.length_append, ih, E.len, List.length_cons, Nat.add_mul]; omega
theorem Enc.enc_append {α : Type} (E : Enc α) (xs ys : List α) : E.enc (xs ++ ys) = E.enc xs ++ E.enc ys := by simp [Enc.enc]
theorem Enc.enc_get {α : Type} (E : Enc α) : ∀ (xs : List α) (i : Nat) (x : α), xs[i]? = some x → ∀ j u, (E.cells x)[j]? = some u → (E.enc xs)[i * E.size + j]? = some u
  | [], i, x, h, j, u, _ => by simp at h
  | y :: r, 0, x, h, j, u, hu => by
    simp at h; subst h
    have hj := (List.getElem?_eq_some_iff.1 hu).1
    rw [show E.enc (y :: r) = E.cells y ++ E.enc r from rfl, List.getElem?_append_left (by omega)]
    simpa using hu
  | y :: r, i + 1, x, h, j, u, hu => by
    rw [show E.enc (y :: r) = E.cells y ++ E.enc r from rfl, List.getElem?_append_right (by rw [E.len, Nat.add_mul]; omega), E.len]
    rw [show (i + 1) * E.size + j - E.size = i * E.size + j from by rw [Nat.add_mul]; omega]
    exact Enc.enc_get E r i x (by simpa using h) j u hu
theorem Enc.ones_enc {α : Type} (E : Enc α) (xs : List α) : ∀ u ∈ E.enc xs, one u = true := by
  intro u hu
  obtain ⟨x, _, hx⟩ := List.mem_flatMap.1 hu
  exact E.ones x u hx

/-- A slice that reads as a list; its cells lie below B. -/
structure Rd {α : Type} (E : Enc α) (B : Nat) (w : World) (a : Option Addr) (n cap : Nat) (xs : List α) : Prop where
  len : xs.length = n
  fit : n ≤ 9223372036854775807
  room : n ≤ cap ∧ cap ≤ 9223372036854775807
  cell : ∀ i x, xs[i]? = some x → ∃ b off, a = some ⟨b, off, none⟩ ∧ b < B ∧ ∀ j u, (E.cells x)[j]? = some u → w.cell? ⟨b, off + i * E.size + j, none⟩ = some u
section
variable {α : Type} {E : Enc α} {a : Option Addr} {n cap : Nat} {xs : List α}
theorem Rd.below {C : Nat} {w w' : World} (h : Rd E C w a n cap xs) (hb : Below C w w') : Rd E C w' a n cap xs :=
  ⟨h.len, h.fit, h.room, fun i x hx => by
    obtain ⟨b, off, h1, h2, h3⟩ := h.cell i x hx
    exact ⟨b, off, h1, h2, fun j u hu => by rw [hb.cell (p := ⟨b, off + i * E.size + j, none⟩) h2]; exact h3 j u hu⟩⟩
theorem Rd.mono {C D : Nat} {w : World} (h : Rd E C w a n cap xs) (hd : C ≤ D) : Rd E D w a n cap xs :=
  ⟨h.len, h.fit, h.room, fun i x hx => by obtain ⟨b, off, h1, h2, h3⟩ := h.cell i x hx; exact ⟨b, off, h1, by omega, h3⟩⟩
/-- Handed to a callee, in the world of the call. -/
theorem Rd.at {w : World} (h : Rd E B w0 a n cap xs) (hb : Below B w0 w) (hB : B ≤ w.heap.size) : Rd E w.heap.size w a n cap xs := (h.below hb).mono hB
theorem Rd.get {C : Nat} {w : World} (h : Rd E C w a n cap xs) {i : Nat} (hi : i < n) : ∃ x, xs[i]? = some x := ⟨xs[i]'(by have := h.len; omega), by simp⟩
theorem Rd.isSome {C : Nat} {w : World} (h : Rd E C w a n cap xs) (hn : 0 < n) : a.isSome = true := by
  obtain ⟨x, hx⟩ := h.get hn
  obtain ⟨b, off, rfl, _⟩ := h.cell 0 x hx
  rfl
theorem Rd.nil {C : Nat} {w : World} : Rd E C w a 0 0 [] := ⟨rfl, by omega, by omega, fun i x h => by simp at h⟩

/-- A type that is loaded as E's values. -/
def Ty (P : Program) (t : TypeId) (E : Enc α) : Prop := (Scal P t ∧ ∀ x, E.cells x = [E.val x]) ∨ (Aggr P t E.size ∧ ∀ x, E.val x = .agg (E.cells x).toArray)
theorem Rd.loads {w : World} {t : TypeId} {x : α} {i : Nat} (h : Rd E B w0 a n cap xs) (hT : Ty P t E) (hx : xs[i]? = some x) (hb : Below B w0 w) : Loads P w t (a.map (·.add (i * E.size))) (E.val x) := by
  obtain ⟨b, off, rfl, h2, h3⟩ := (h.below hb).cell i x hx
  refine ⟨_, rfl, ?_⟩
  show (loadVar t ((⟨b, off, none⟩ : Addr).add (i * E.size))).run P w = _
  rw [add_none]
  rcases hT with ⟨hs, hc⟩ | ⟨hs, hv⟩
  · exact run_loadVar_one hs (by simpa using h3 0 (E.val x) (by rw [hc]; rfl))
  · rw [hv]
    exact run_loadVar_agg (by rw [E.len]; exact hs) (fun j u hj => by rw [add_none]; exact h3 j u hj)
theorem Rd.loadsF {w : World} {t : TypeId} {x : α} {i o : Nat} {u : Value} (h : Rd E B w0 a n cap xs) (hT : Scal P t) (hx : xs[i]? = some x) (hb : Below B w0 w) (hu : (E.cells x)[o]? = some u) :
    Loads P w t ((a.map (·.add (i * E.size))).map (·.add o)) u := by
  obtain ⟨b, off, rfl, h2, h3⟩ := (h.below hb).cell i x hx
  refine ⟨_, rfl, ?_⟩
  simp only [add_none]
  exact run_loadVar_one hT (h3 o u hu)
theorem ix_some {iv : Int} {sz : Nat} (h : Rd E B w0 a n cap xs) (h0 : 0 ≤ iv ∧ iv < n) : (a.map (·.add (iv.toNat * sz))).isSome = true := by
  have := h.isSome (by omega)
  cases a <;> simp_all
theorem ol_ixr {s i : Operand} {t : TypeId} {kd : IntKind} {iv : Int} (hl : Rd E B w0 a n cap xs) (hs : ev al s = some (.slice a n cap)) (hi : ev al i = some (.int kd iv)) (hT : Slc P t E.size) (h0 : 0 ≤ iv ∧ iv < n) (hd : Nat.blt d N.n = true)
    (k : ∀ x, xs[iv.toNat]? = some x → OL P N B w0 ops rest Q ((d, .pointer (a.map (·.add (iv.toNat * E.size)))) :: al) H) :
    OL P N B w0 ops ({ dst := some d, op := .indexAddr t s i, type := ty, pos, after, guard := none } :: rest) Q al H := by
  obtain ⟨x, hx⟩ := hl.get (i := iv.toNat) (by omega)
  exact ol_r (r_ix hs hi hT (hl.isSome (by omega)) h0) hd (k x hx)
theorem ql_ixr {Qa : Act → Prop} {s i : Operand} {t : TypeId} {kd : IntKind} {iv : Int} (hl : Rd E B w0 a n cap xs) (hs : ev al s = some (.slice a n cap)) (hi : ev al i = some (.int kd iv)) (hT : Slc P t E.size) (h0 : 0 ≤ iv ∧ iv < n) (hd : Nat.blt d N.n = true)
    (k : ∀ x, xs[iv.toNat]? = some x → QL P N B w0 ops rest Qa ((d, .pointer (a.map (·.add (iv.toNat * E.size)))) :: al) H) :
    QL P N B w0 ops ({ dst := some d, op := .indexAddr t s i, type := ty, pos, after, guard := none } :: rest) Qa al H := by
  obtain ⟨x, hx⟩ := hl.get (i := iv.toNat) (by omega)
  exact ql_r (r_ix hs hi hT (hl.isSome (by omega)) h0) hd (k x hx)
/-- A row of the call's own reads as a list. -/
theorem Sat.rd {w : World} {id : Nat} {e : TypeId} {size : Nat} (h : Sat B w H) (hH : look H id = some (.row a n cap (E.enc xs) e size)) (hs : size = E.size) : Rd E w.heap.size w a n cap xs := by
  subst hs
  obtain ⟨h1, h2⟩ := (h.ok _ _ hH : w.ownsRow B e E.size (.slice a n cap) n (E.enc xs))
  have hl : xs.length = n := by
    rw [E.enc_len] at h1
    exact Nat.eq_of_mul_eq_mul_right E.pos h1
  have hfit : n ≤ 9223372036854775807 := by
    rcases h2 with ⟨hv, hn⟩ | ⟨g, cap', cur, hv, hb, hg, q1, q2, _, htake⟩
    · omega
    · cases hv; unfold maxLen at q2; omega
  have hroom : n ≤ cap ∧ cap ≤ 9223372036854775807 := by
    rcases h2 with ⟨hv, hn⟩ | ⟨g, cap', cur, hv, hb, hg, q1, q2, _, htake⟩
    · cases hv; omega
    · cases hv; unfold maxLen at q2; omega
  refine ⟨hl, hfit, hroom, fun i x hx => ?_⟩
  rcases h2 with ⟨hv, hn⟩ | ⟨g, cap', cur, hv, hb, hg, _, _, _, htake⟩
  · have := (List.getElem?_eq_some_iff.1 hx).1
    omega
  · cases hv
    refine ⟨g, 0, rfl, (Array.getElem?_eq_some_iff.1 hg).1, fun j u hu => ?_⟩
    have h3 := E.enc_get xs i x hx j u hu
    rw [← htake, List.getElem?_take] at h3
    split at h3
    · simpa [World.cell?, hg] using h3
    · cases h3
end

/-! #### rows of the call's own: append, a literal of one element -/
def RowT (P : Program) (t e : TypeId) (size bytes : Nat) : Prop :=
  P.underlying t = some (.slice e) ∧ ∃ i z, P.info? e = some i ∧ i.zero = some z ∧ i.size = size ∧ i.bytes = bytes ∧ z.cells.size = size ∧ 0 < size
def rowB (P : Program) (t e : TypeId) (size bytes : Nat) : Bool := (match P.underlying t with | some (.slice e') => Nat.beq e' e | _ => false) &&
  (match P.info? e with | some i => Nat.beq i.size size && Nat.beq i.bytes bytes && Nat.blt 0 size && (match i.zero with | some z => Nat.beq z.cells.size size | none => false) | none => false)
theorem RowT.of {t e : TypeId} {size bytes : Nat} (h : rowB P t e size bytes = true) : RowT P t e size bytes := by
  unfold rowB at h
  rw [Bool.and_eq_true] at h
  obtain ⟨h1, h2⟩ := h
  split at h1
  · rename_i e' hu
    split at h2
    · rename_i i hi
      rw [Bool.and_eq_true, Bool.and_eq_true, Bool.and_eq_true] at h2
      obtain ⟨⟨⟨h3, h4⟩, h5⟩, h6⟩ := h2
      split at h6
      · rename_i z hz
        have : e' = e := Nat.eq_of_beq_eq_true h1
        subst this
        exact ⟨hu, i, z, hi, hz, Nat.eq_of_beq_eq_true h3, Nat.eq_of_beq_eq_true h4, Nat.eq_of_beq_eq_true h6, by simpa using h5⟩
      · exact absurd h6 (by simp)
    · exact absurd h2 (by simp)
  · exact absurd h1 (by simp)

theorem oneCell_of {u : Value} (h : one u = true) : u.oneCell' = true := by cases u <;> first | rfl | (simp [one] at h)

theorem run_append_row {w : World} {a : Option Addr} {n cap : Nat} {xs : List Value} {t ty e : TypeId} {size bytes : Nat} (hT : RowT P t e size bytes) (h : w.ownsRow B e size (.slice a n cap) n xs)
    (ad : Addr) (m c : Nat) (news : List Value) (hl : news.length = m * size) (hnews : ∀ j u, news[j]? = some u → w.cell? (ad.add j) = some u) (h1 : ∀ u ∈ news, one u = true)
    (h63 : n + m ≤ maxLen) (hbytes : (n + m) * bytes ≤ 140737488355328) (hB : B ≤ w.heap.size) :
    ∃ a' cap' w', (Builtin.append_ #[t, t] ty #[.slice a n cap, .slice (some ad) m c]).run P w = .ok (.slice a' (n + m) cap') w' ∧ w'.ownsRow B e size (.slice a' (n + m) cap') (n + m) (xs ++ news) ∧
      w.grownBy w' (a.map (·.block)) ∧ ∀ b, a'.map (·.block) = some b → a.map (·.block) = some b ∨ w.heap.size ≤ b := by
  obtain ⟨hu, i, z, hi, hz, hsz, hby, hzs, hpos⟩ := hT
  obtain ⟨v', w', hr, ho, hg, hn⟩ := run_append_own (P := P) w B t ty e i z size bytes hu hi hz hsz hby hzs hpos (.slice a n cap) n xs h ad m c news hl hnews (fun u hu => oneCell_of (h1 u hu)) h63 hbytes hB
  have hform : ∃ a' cap', v' = .slice a' (n + m) cap' := by
    rcases ho.2 with ⟨rfl, h0⟩ | ⟨g, cap', cur, rfl, _⟩
    · exact ⟨none, 0, by rw [h0]⟩
    · exact ⟨_, _, rfl⟩
  obtain ⟨a', cap', rfl⟩ := hform
  have hob : (Value.slice a n cap).ownBlock = a.map (·.block) := by cases a <;> rfl
  rw [hob] at hg
  refine ⟨a', cap', w', hr, ho, hg, fun b hb => ?_⟩
  have h63' : ((n + m : Nat) : Int) ≤ 9223372036854775807 := by simp only [maxLen] at h63; omega
  rcases h.2 with ⟨hv, h0⟩ | ⟨g, cap0, cur, hv, hbg, hgg, hnc, hcm, hcs, htake⟩
  · cases hv
    by_cases hm : m = 0
    · have := hn.2 ⟨rfl, hm⟩
      simp only [Value.slice.injEq] at this
      rw [this.1] at hb
      simp at hb
    · have hr2 := run_append_nil (P := P) w t ty e i z hu hi hz ad m c news (by rw [hsz]; exact hl) hnews (by omega) (by omega) (by rw [hby]; simp only [Nat.zero_add] at hbytes; omega)
      rw [hr2] at hr
      simp only [Result.ok.injEq, Value.slice.injEq] at hr
      rw [← hr.1.1] at hb
      right
      simp at hb
      omega
  · cases hv
    by_cases hroom : n + m ≤ cap
    · have hfit : n * i.size + news.length ≤ cur.size := by rw [hl, hcs, hsz, ← Nat.add_mul]; exact Nat.mul_le_mul_right _ hroom
      have hr2 := run_append_room (P := P) w t ty e i hu hi g n cap cur hgg ad m c news (by rw [hsz]; exact hl) hnews (fun u hu => oneCell_of (h1 u hu)) hroom hfit
      rw [hr2] at hr
      simp only [Result.ok.injEq, Value.slice.injEq] at hr
      rw [← hr.1.1] at hb
      left
      simpa using hb
    · have holds : ∀ j u, xs[j]? = some u → w.cell? ((⟨g, 0, none⟩ : Addr).add j) = some u := h.cells (g := g) rfl
      have hr2 := run_append_grow (P := P) w t ty e i z hu hi hz ⟨g, 0, none⟩ n cap xs (by rw [hsz]; exact h.1) holds ad m c news (by rw [hsz]; exact hl) hnews (by omega) h63' (by rw [hby]; exact growslice_fits (by omega) hbytes)
      rw [hr2] at hr
      simp only [Result.ok.injEq, Value.slice.injEq] at hr
      rw [← hr.1.1] at hb
      right
      simp at hb
      omega

theorem ol_append {s x : Operand} {id n cap m c : Nat} {a ad : Option Addr} {xs news : List Value} {t e : TypeId} {size bytes : Nat} (hs : ev al s = some (.slice a n cap)) (hr : look H id = some (.row a n cap xs e size))
    (hx : ev al x = some (.slice ad m c)) (hT : RowT P t e size bytes) (hl : news.length = m * size) (h1 : ∀ u ∈ news, one u = true)
    (hnews : ∀ w, Below B w0 w → Sat B w H → B ≤ w.heap.size → ∃ p, ad = some p ∧ ∀ j u, news[j]? = some u → w.cell? (p.add j) = some u)
    (hb : n + m ≤ 9223372036854775807 ∧ (n + m) * bytes ≤ 140737488355328) (hd : Nat.blt d N.n = true)
    (k : ∀ a' cap', OL P N B w0 ops rest Q ((d, .slice a' (n + m) cap') :: al) ((id, .row a' (n + m) cap' (xs ++ news) e size) :: H)) :
    OL P N B w0 ops ({ dst := some d, op := .call { callee := .builtin .append, args := #[s, x], argTypes := #[t, t] }, type := ty, pos, after, guard := none } :: rest) Q al H := by
  intro a0 w hst
  refine wpList_plain rfl fun K hK => ?_
  obtain ⟨p, rfl, hp⟩ := hnews w hst.below hst.sat hst.base
  have hok : w.ownsRow B e size (.slice a n cap) n xs := hst.sat.ok _ _ hr
  obtain ⟨a', cap', w', q1, q2, q3, q4⟩ := run_append_row (P := P) (ty := ty) hT hok p m c news hl hp h1 (by unfold maxLen; omega) hb.2 hst.base
  have hrun : (execOp a0.eval { dst := some d, op := .call { callee := .builtin .append, args := #[s, x], argTypes := #[t, t] }, type := ty, pos, after, guard := none }).run P w = .ok (.value (.slice a' (n + m) cap')) w' := by
    simp [BigFrame.execOp_builtin, BigFrame.builtin_append, hst.regs.eval hs, hst.regs.eval hx, q1]
  unfold Oper.wp
  rw [hrun, Oper.upon_value]
  have hown : ∀ b, a.map (·.block) = some b → B ≤ b := fun b hb => (Ent.own_lt (e := .row a n cap xs e size) hok hb).1
  refine hK _ _ (k a' cap' _ _ (hst.step (hst.regs.put (by simpa using hd) _) (hst.below.grown q3 hst.base hown (run_drawn _ _ _ _ q1)) ?_ (Nat.le_trans hst.base q3.size) ?_))
  rotate_left
  · cases a with
    | none => exact fun k o hk _ _ => (q3.block k (Array.getElem?_eq_some_iff.1 hk).1 (by simp)).trans hk
    | some x =>
      refine Kd.one x.block (fun k hk hne => q3.block k hk (fun e => hne (show x.block = k by simpa using e.symm).symm)) (fun o ho => .inl ?_)
      rcases hok.2 with ⟨h2, _⟩ | ⟨g, cap', cur, hv, hb, hg, rest⟩
      · cases h2
      · cases hv; rw [hg] at ho; cases ho; rfl
  refine hst.sat.set2 id (e := .row a' (n + m) cap' (xs ++ news) e size) q2 (fun j f hj hf k hk => ?_) (fun j f hj hf b hb hfb => ?_)
  · exact q3.block k (Ent.own_lt (hst.sat.ok j f hf) hk).2 fun e => hst.sat.apart id j _ f (Ne.symm hj) hr hf k e.symm hk
  · rcases q4 b hb with h3 | h3
    · exact hst.sat.apart id j _ f (Ne.symm hj) hr hf b h3 hfb
    · have := (Ent.own_lt (hst.sat.ok j f hf) hfb).2
      omega

theorem foldl_set : ∀ (l : List Value) (k : Nat) (cs : Array Value), k + l.length ≤ cs.size → ∀ n, ((l.zipIdx k).foldl (fun cs (p : Value × Nat) => cs.setIfInBounds p.2 p.1) cs)[n]? = if k ≤ n ∧ n < k + l.length then l[n - k]? else cs[n]?
  | [], k, cs, _, n => by simp; omega
  | v :: r, k, cs, h, n => by
    simp only [List.length_cons] at h
    simp only [List.zipIdx_cons, List.foldl_cons]
    rw [foldl_set r (k + 1) (cs.setIfInBounds k v) (by simp; omega) n]
    by_cases hk : n = k
    · subst hk
      rw [if_neg (by omega), if_pos (by simp), Array.getElem?_setIfInBounds_self_of_lt (by omega)]
      simp
    · by_cases hr : k + 1 ≤ n ∧ n < k + 1 + r.length
      · rw [if_pos hr, if_pos (by simp; omega), show n - k = (n - (k + 1)) + 1 from by omega]
        simp
      · rw [if_neg hr, if_neg (by simp; omega), Array.getElem?_setIfInBounds_ne (by omega)]
theorem fill_one {size : Nat} {v : Value} {us : List Value} {zs : Array Value} (hv : v.cells.toList = us) (hz : zs.size = size) (hs : us.length = size) :
    Instr.fill (fun i => some (i * size, size)) zs [(0, v)] = some us.toArray := by
  have h1 : v.cells.size = size := by rw [← hs, ← hv]; simp
  have h2 : v.cells = us.toArray := by rw [← hv]
  simp only [Instr.fill, Nat.zero_mul, Nat.zero_add, h1]
  have h3 : (decide (size ≠ size) || decide (zs.size < size)) = false := by simp [hz]
  have h4 : (v.cells.zipIdx.foldl (fun cs (x : Value × Nat) => cs.setIfInBounds x.2 x.1) zs) = us.toArray := by
    rw [h2]
    apply Array.ext_getElem?
    intro n
    have := foldl_set us 0 zs (by omega) n
    rw [← Array.foldl_toList]
    simp only [Array.toList_zipIdx, Nat.zero_add] at this ⊢
    rw [this]
    by_cases hn : n < us.length
    · rw [if_pos ⟨by omega, hn⟩]; simp
    · rw [if_neg (by omega)]
      rw [Array.getElem?_eq_none (by omega)]
      simp; omega
  simpa [hz] using h4
theorem ol_bs1 {x : Operand} {t e : TypeId} {size bytes : Nat} {us : List Value} (id : Nat) (hx : ev al x = some v) (hv : v.cells = us.toArray) (hT : RowT P t e size bytes) (hs : us.length = size) (hsz : Nat.ble size 16777216 = true) (hd : Nat.blt d N.n = true)
    (k : ∀ a', OL P N B w0 ops rest Q ((d, .slice a' 1 1) :: al) ((id, .row a' 1 1 us e size) :: H)) :
    OL P N B w0 ops ({ dst := some d, op := .buildSlice t 1 #[(0, x)], type := ty, pos, after, guard := none } :: rest) Q al H := by
  intro a w hst
  refine wpList_plain rfl fun K hK => ?_
  obtain ⟨hu, i, z, hi, hz, hsz', hby, hzs, hpos⟩ := hT
  have hsz2 : size ≤ 16777216 := by simpa using hsz
  have hfill := fill_one (zs := (Array.range (1 * size)).map (z.cells[· % z.cells.size]!)) (v := v) (us := us) (by rw [hv]) (by simp) hs
  have hrun : (execOp a.eval { dst := some d, op := .buildSlice t 1 #[(0, x)], type := ty, pos, after, guard := none }).run P w = .ok (.value (.slice (some ⟨w.heap.size, 0, none⟩) 1 1)) (w.alloc (.cells us.toArray e)) := by
    have hz1 : ¬ (16777216 < size) := by omega
    have hz2 : size ≠ 0 := by omega
    have hsr := run_sizeOf (P := P) (t := e) (n := size) ⟨i, hi, hsz'⟩ w
    have hfill' : Instr.fill (fun i => some (i * size, size)) ((Array.range size).map (z.cells[· % z.cells.size]!)) [(0, v)] = some us.toArray := by simpa using hfill
    simp only [execOp, Instr.buildSlice, Sem.run_bind, run_underlying hu, Result.andThen_ok, hsr, hst.regs.eval hx, List.map_toArray, List.map_cons, List.map_nil, Nat.one_mul]
    rw [if_neg (by omega)]
    simp [hz2, zeroValue, typeInfo, hi, hz, hfill', newRow, newObj, Sem.run]
  unfold Oper.wp
  rw [hrun, Oper.upon_value]
  refine hK _ _ (k _ _ _ (hst.step (hst.regs.put (by simpa using hd) _) (hst.below.alloc hst.base _) ?_ (by have := hst.base; simp; omega) (Kd.alloc w _)))
  refine hst.sat.new id (e := .row (some ⟨w.heap.size, 0, none⟩) 1 1 us e size) ?_ (fun k hk => Below.heap_alloc w _ k hk) (fun b hb => by simp [Ent.own] at hb; omega)
  exact ⟨by rw [hs]; simp, .inr ⟨w.heap.size, 1, us.toArray, rfl, hst.base, heap_alloc_new w _, Nat.le_refl _, by unfold maxLen; omega, by simp [hs], by rw [List.take_of_length_le (by simp [hs])]⟩⟩

theorem ol_append1 {s x : Operand} {id id2 n cap : Nat} {a a2 : Option Addr} {xs us : List Value} {t e : TypeId} {size bytes : Nat} (hs : ev al s = some (.slice a n cap)) (hr : look H id = some (.row a n cap xs e size))
    (hx : ev al x = some (.slice a2 1 1)) (hr2 : look H id2 = some (.row a2 1 1 us e size)) (h1 : us.all one = true) (hT : RowT P t e size bytes)
    (hb : n + 1 ≤ 9223372036854775807 ∧ (n + 1) * bytes ≤ 140737488355328) (hd : Nat.blt d N.n = true)
    (k : ∀ a' cap', OL P N B w0 ops rest Q ((d, .slice a' (n + 1) cap') :: al) ((id, .row a' (n + 1) cap' (xs ++ us) e size) :: H)) :
    OL P N B w0 ops ({ dst := some d, op := .call { callee := .builtin .append, args := #[s, x], argTypes := #[t, t] }, type := ty, pos, after, guard := none } :: rest) Q al H := by
  intro a0 w hst
  have hok : w.ownsRow B e size (.slice a2 1 1) 1 us := hst.sat.ok _ _ hr2
  refine ol_append (news := us) hs hr hx hT hok.1 (List.all_eq_true.1 h1) ?_ hb hd k a0 w hst
  intro w1 hb1 hs1 hB1
  have hok1 : w1.ownsRow B e size (.slice a2 1 1) 1 us := hs1.ok _ _ hr2
  rcases hok1.2 with ⟨_, h⟩ | ⟨g, c, cur, hv, hbg, hg, _, _, _, htake⟩
  · cases h
  · cases hv
    refine ⟨_, rfl, fun j u hj => ?_⟩
    rw [add_none]
    rw [← htake, List.getElem?_take] at hj
    split at hj
    · simpa [World.cell?, hg] using hj
    · cases hj

theorem r_build {t : TypeId} {parts : List (Nat × Operand)} {pv : List (Nat × Value)} (hp : evp al parts = some pv) (hb : ∀ w, (Instr.build t pv.toArray).run P w = .ok v w) : Runs P N B w0 (.build t parts.toArray) ty al H v := fun a w hst => by
  have := evp_eval hst.regs hp
  simp [execOp, this, hb w]
theorem r_lens {s : Operand} {t : TypeId} {st : ByteArray} (hs : ev al s = some (.string st)) (hT : Str P t) :
    Runs P N B w0 (.call { callee := .builtin .len, args := #[s], argTypes := #[t] }) ty al H (.int .i64 st.size) := fun a w hst => by
  simp [BigFrame.execOp_builtin, BigFrame.builtin_len, hst.regs.eval hs, Builtin.len_, run_underlying hT, goInt]
section ints2
variable {x y : Operand} {t t' : TypeId} {m n : Int}
theorem r_bneq {b c : Bool} (hx : ev al x = some (.bool b)) (hy : ev al y = some (.bool c)) (hT : P.underlying t = some .bool) : Runs P N B w0 (.binOp .neq t x y t') ty al H (.bool (!(b == c))) := fun a w hst => by
  have h : (Op.equalIn Op.maxDepth t (.bool b) (.bool c)).run P w = .ok (b == c) w := by
    rw [show Op.maxDepth = 9999 + 1 from rfl, Op.equalIn]
    simp only [Sem.run_bind, run_underlying hT, Result.andThen_ok]
    rfl
  simp [execOp, hst.regs.eval hx, hst.regs.eval hy, binOp, Op.equal, eqGuard_at_bool, h]
end ints2

theorem subH_row {r m : HL} {k n cap : Nat} {a : Option Addr} {xs ys : List Value} {e : TypeId} {size : Nat} (h : look m k = some (.row a n cap ys e size)) (hx : xs = ys) (hr : SubH r m) : SubH ((k, .row a n cap xs e size) :: r) m := by
  subst hx; exact subH_same h hr
theorem ol_nilrow {l : List Oper} (id : Nat) (e : TypeId) (size : Nat) (k : OL P N B w0 ops l Q al ((id, .row none 0 0 [] e size) :: H)) : OL P N B w0 ops l Q al H :=
  fun a w hst => k a w (hst.step hst.regs hst.below (hst.sat.nilRow id e size) hst.base (Kd.refl _ _))
theorem ownsRow_mono {w : World} {C D : Nat} {e : TypeId} {size n : Nat} {v : Value} {xs : List Value} (h : w.ownsRow D e size v n xs) (hc : C ≤ D) : w.ownsRow C e size v n xs := by
  obtain ⟨h1, h2⟩ := h
  refine ⟨h1, ?_⟩
  rcases h2 with h2 | ⟨g, cap, cur, hv, hb, rest⟩
  · exact .inl h2
  · exact .inr ⟨g, cap, cur, hv, Nat.le_trans hc hb, rest⟩

/-- A call's new slice. -/
def Fresh {α : Type} (E : Enc α) (e : TypeId) (w w' : World) (a : Option Addr) (n cap : Nat) (ys : List α) : Prop := Below w.heap.size w w' ∧ w'.ownsRow w.heap.size e E.size (.slice a n cap) n (E.enc ys)
theorem Fresh.nil {α : Type} {E : Enc α} {e : TypeId} {w w' : World} (h : Below w.heap.size w w') : Fresh E e w w' none 0 0 [] := ⟨h, World.ownsRow_nil _ _ _ _⟩
theorem Fresh.len {α : Type} {E : Enc α} {e : TypeId} {w w' : World} {a : Option Addr} {n cap : Nat} {ys : List α} (h : Fresh E e w w' a n cap ys) : ys.length = n := by
  have h1 := h.2.1
  rw [E.enc_len] at h1
  exact Nat.eq_of_mul_eq_mul_right E.pos h1
theorem Sat.fresh {w w' : World} {α : Type} {E : Enc α} {t : TypeId} {a : Option Addr} {n cap : Nat} {ys : List α} (hs : Sat B w H) (hB : B ≤ w.heap.size) (id : Nat) (hf : Fresh E t w w' a n cap ys) : Sat B w' ((id, .row a n cap (E.enc ys) t E.size) :: H) :=
  hs.new id (e := .row a n cap (E.enc ys) t E.size) (ownsRow_mono hf.2 hB) (fun k hk => hf.1.block k hk) (fun b hb => (Ent.own_lt (e := .row a n cap (E.enc ys) t E.size) (B := w.heap.size) hf.2 hb).1)
theorem After.fresh {e : Ending} {w w' : World} {v : Value} {d id : Nat} {α : Type} {E : Enc α} {t : TypeId} {a : Option Addr} {n cap : Nat} {ys : List α} (he : e = .returned v) (hw : Below B w0 w) (hs : Sat B w H) (hb : B ≤ w.heap.size)
    (hf : Fresh E t w w' a n cap ys) (k : OL P N B w0 ops rest Q ((d, v) :: al) ((id, .row a n cap (E.enc ys) t E.size) :: H)) : After P N B w0 w ops rest Q al (some d) e w' :=
  ⟨v, _, he, hw.trans (hf.1.mono hb), hs.fresh (B := B) hb id hf, Nat.le_trans hb hf.1.size, Kd.of_below hf.1, k⟩

theorem BigFrame_range0 : Array.range 0 = #[] := rfl
theorem ol_bs0 {t e : TypeId} {size bytes : Nat} (id : Nat) (hT : RowT P t e size bytes) (hd : Nat.blt d N.n = true)
    (k : ∀ b, OL P N B w0 ops rest Q ((d, .slice (some ⟨b, 0, none⟩) 0 0) :: al) ((id, .row (some ⟨b, 0, none⟩) 0 0 [] e size) :: H)) :
    OL P N B w0 ops ({ dst := some d, op := .buildSlice t 0 #[], type := ty, pos, after, guard := none } :: rest) Q al H := by
  intro a w hst
  refine wpList_plain rfl fun K hK => ?_
  obtain ⟨hu, i, z, hi, hz, hsz', hby, hzs, hpos⟩ := hT
  have hrun : (execOp a.eval { dst := some d, op := .buildSlice t 0 #[], type := ty, pos, after, guard := none }).run P w = .ok (.value (.slice (some ⟨w.heap.size, 0, none⟩) 0 0)) (w.alloc (.cells #[] e)) := by
    have hsr := run_sizeOf (P := P) (t := e) (n := size) ⟨i, hi, hsz'⟩ w
    simp [execOp, Instr.buildSlice, run_underlying hu, hsr, newRow, newObj, Sem.run, Instr.fill, BigFrame_range0]
  unfold Oper.wp
  rw [hrun, Oper.upon_value]
  refine hK _ _ (k w.heap.size _ _ (hst.step (hst.regs.put (by simpa using hd) _) (hst.below.alloc hst.base _) ?_ (by have := hst.base; simp; omega) (Kd.alloc w _)))
  refine hst.sat.new id (e := .row (some ⟨w.heap.size, 0, none⟩) 0 0 [] e size) ?_ (fun k hk => Below.heap_alloc w _ k hk) (fun b hb => by simp [Ent.own] at hb; omega)
  exact ⟨by simp, .inr ⟨w.heap.size, 0, #[], rfl, hst.base, heap_alloc_new w _, Nat.le_refl _, by unfold maxLen; omega, by simp, by simp⟩⟩
/-- A literal of some elements of one cell. -/
theorem ol_bsN {t e : TypeId} {bytes len : Nat} {parts : List (Nat × Operand)} {pv : List (Nat × Value)} (id : Nat) (hp : evp al parts = some pv) (hT : RowT P t e 1 bytes) (hl : Nat.beq pv.length len = true) (hsm : Nat.ble len 9223372036854775807 = true)
    (hrun : ∀ w, (Instr.buildSlice t len pv.toArray).run P w = .ok (.slice (some ⟨w.heap.size, 0, none⟩) len len) (w.alloc (.cells (pv.map (·.2)).toArray e))) (hd : Nat.blt d N.n = true)
    (k : ∀ a', OL P N B w0 ops rest Q ((d, .slice a' len len) :: al) ((id, .row a' len len (pv.map (·.2)) e 1) :: H)) :
    OL P N B w0 ops ({ dst := some d, op := .buildSlice t len parts.toArray, type := ty, pos, after, guard := none } :: rest) Q al H := by
  intro a w hst
  refine wpList_plain rfl fun K hK => ?_
  have hl' : pv.length = len := Nat.eq_of_beq_eq_true hl
  have hsm' : len ≤ 9223372036854775807 := by simpa using hsm
  have hev := evp_eval hst.regs hp
  have hrun' : (execOp a.eval { dst := some d, op := .buildSlice t len parts.toArray, type := ty, pos, after, guard := none }).run P w = .ok (.value (.slice (some ⟨w.heap.size, 0, none⟩) len len)) (w.alloc (.cells (pv.map (·.2)).toArray e)) := by
    simp only [execOp, List.map_toArray, hev, Sem.run_bind, hrun w, Result.andThen_ok, Sem.run_pure]
  unfold Oper.wp
  rw [hrun', Oper.upon_value]
  refine hK _ _ (k _ _ _ (hst.step (hst.regs.put (by simpa using hd) _) (hst.below.alloc hst.base _) ?_ (by have := hst.base; simp; omega) (Kd.alloc w _)))
  refine hst.sat.new id (e := .row (some ⟨w.heap.size, 0, none⟩) len len (pv.map (·.2)) e 1) ?_ (fun k hk => Below.heap_alloc w _ k hk) (fun b hb => by simp [Ent.own] at hb; omega)
  exact ⟨by simp [hl'], .inr ⟨w.heap.size, len, (pv.map (·.2)).toArray, rfl, hst.base, heap_alloc_new w _, Nat.le_refl _, by unfold maxLen; omega, by simp [hl'], by rw [List.take_of_length_le (by simp [hl'])]⟩⟩

section own
variable {α : Type} {E : Enc α} {a : Option Addr} {n cap : Nat} {xs : List α}
theorem Enc.enc_inv (E : Enc α) : ∀ (xs : List α) (j : Nat) (u : Value), (E.enc xs)[j]? = some u → ∃ i x r, j = i * E.size + r ∧ xs[i]? = some x ∧ (E.cells x)[r]? = some u
  | [], j, u, h => by simp [Enc.enc] at h
  | y :: ys, j, u, h => by
    rw [show E.enc (y :: ys) = E.cells y ++ E.enc ys from rfl] at h
    by_cases hj : j < (E.cells y).length
    · rw [List.getElem?_append_left hj] at h
      exact ⟨0, y, j, by simp, rfl, h⟩
    · rw [List.getElem?_append_right (by omega), E.len] at h
      rw [E.len] at hj
      obtain ⟨i, x, r, h1, h2, h3⟩ := Enc.enc_inv E ys _ u h
      exact ⟨i + 1, x, r, by rw [Nat.add_mul]; omega, by simpa using h2, h3⟩
theorem Rd.flat {C : Nat} {w : World} (h : Rd E C w a n cap xs) {p : Addr} (ha : a = some p) : ∀ j u, (E.enc xs)[j]? = some u → w.cell? (p.add j) = some u := by
  intro j u hj
  obtain ⟨i, x, r, rfl, h2, h3⟩ := E.enc_inv xs j u hj
  obtain ⟨b, off, h4, h5, h6⟩ := h.cell i x h2
  rw [ha] at h4
  cases h4
  rw [add_none, ← Nat.add_assoc]
  exact h6 r u h3
/-- A place in a row of the call's own. -/
theorem ol_ixo {s i : Operand} {t e : TypeId} {id size : Nat} {kd : IntKind} {iv : Int} (E : Enc α) (xs : List α) (hs : ev al s = some (.slice a n cap)) (hH : look H id = some (.row a n cap (E.enc xs) e size)) (hz : size = E.size) (hi : ev al i = some (.int kd iv)) (hT : Slc P t E.size)
    (h0 : 0 ≤ iv ∧ iv < n) (hd : Nat.blt d N.n = true)
    (k : ∀ x, xs[iv.toNat]? = some x → OL P N B w0 ops rest Q ((d, .pointer (a.map (·.add (iv.toNat * E.size)))) :: al) H) :
    OL P N B w0 ops ({ dst := some d, op := .indexAddr t s i, type := ty, pos, after, guard := none } :: rest) Q al H := by
  intro a0 w hst
  have hr := hst.sat.rd hH hz
  obtain ⟨x, hx⟩ := hr.get (i := iv.toNat) (by omega)
  exact ol_r (r_ix hs hi hT (hr.isSome (by omega)) h0) hd (k x hx) a0 w hst
theorem r_ixo {s i : Operand} {t e : TypeId} {id size : Nat} {kd : IntKind} {iv : Int} (E : Enc α) (xs : List α) (hs : ev al s = some (.slice a n cap)) (hH : look H id = some (.row a n cap (E.enc xs) e size)) (hz : size = E.size) (hi : ev al i = some (.int kd iv)) (hT : Slc P t E.size)
    (h0 : 0 ≤ iv ∧ iv < n) : Runs P N B w0 (.indexAddr t s i) ty al H (.pointer (a.map (·.add (iv.toNat * E.size)))) := fun a0 w hst =>
  r_ix hs hi hT ((hst.sat.rd hH hz).isSome (by omega)) h0 a0 w hst
theorem ld_own {w : World} {t e : TypeId} {id size i : Nat} {x : α} (hs : Sat B w H) (hH : look H id = some (.row a n cap (E.enc xs) e size)) (hz : size = E.size) (hT : Ty P t E) (hx : xs[i]? = some x) : Loads P w t (a.map (·.add (i * E.size))) (E.val x) :=
  (hs.rd hH hz).loads hT hx (Below.refl _ _)
theorem Enc.enc_set (E : Enc α) : ∀ (xs : List α) (i : Nat) (y : α) (j : Nat), i < xs.length → (E.enc (xs.set i y))[j]? = if i * E.size ≤ j ∧ j < i * E.size + E.size then (E.cells y)[j - i * E.size]? else (E.enc xs)[j]?
  | [], i, y, j, h => by simp at h
  | x :: r, 0, y, j, _ => by
    rw [List.set_cons_zero, show E.enc (y :: r) = E.cells y ++ E.enc r from rfl, show E.enc (x :: r) = E.cells x ++ E.enc r from rfl]
    by_cases hj : j < E.size
    · rw [if_pos (by omega), List.getElem?_append_left (by rw [E.len]; exact hj)]; simp
    · rw [if_neg (by omega), List.getElem?_append_right (by rw [E.len]; omega), List.getElem?_append_right (by rw [E.len]; omega), E.len, E.len]
  | x :: r, i + 1, y, j, h => by
    rw [List.set_cons_succ, show E.enc (x :: r.set i y) = E.cells x ++ E.enc (r.set i y) from rfl, show E.enc (x :: r) = E.cells x ++ E.enc r from rfl]
    have hi : (i + 1) * E.size = i * E.size + E.size := by rw [Nat.add_mul]; omega
    by_cases hj : j < E.size
    · rw [if_neg (by omega), List.getElem?_append_left (by rw [E.len]; exact hj), List.getElem?_append_left (by rw [E.len]; exact hj)]
    · rw [List.getElem?_append_right (by rw [E.len]; omega), List.getElem?_append_right (by rw [E.len]; omega), E.len, Enc.enc_set E r i y (j - E.size) (by simpa using h), hi]
      by_cases hr : i * E.size ≤ j - E.size ∧ j - E.size < i * E.size + E.size
      · rw [if_pos hr, if_pos (by omega), show j - E.size - i * E.size = j - (i * E.size + E.size) from by omega]
      · rw [if_neg hr, if_neg (by omega)]
/-- A store into a row of the call's own. -/
theorem ol_storeRow {ad x : Operand} {t e : TypeId} {id size : Nat} {iv : Int} (E : Enc α) (xs : List α) (y : α) (hp : ev al ad = some (.pointer (a.map (·.add (iv.toNat * E.size))))) (hH : look H id = some (.row a n cap (E.enc xs) e size)) (hz : size = E.size)
    (hx : ev al x = some (E.val y)) (hT : Size P t E.size) (h0 : 0 ≤ iv ∧ iv < n)
    (k : OL P N B w0 ops rest Q al ((id, .row a n cap (E.enc (xs.set iv.toNat y)) e size) :: H)) :
    OL P N B w0 ops ({ dst := none, op := .store t ad x, type := ty, pos, after, guard := none } :: rest) Q al H := by
  subst hz
  intro a0 w hst
  refine wpList_plain rfl fun K hK => ?_
  have hok : w.ownsRow B e E.size (.slice a n cap) n (E.enc xs) := hst.sat.ok _ _ hH
  have hlen : xs.length = n := (hst.sat.rd hH rfl).len
  obtain ⟨h1, h2⟩ := hok
  rcases h2 with ⟨hv, hn⟩ | ⟨g, cap', cur, hv, hb, hg, hnc, hcm, hcs, htake⟩
  · omega
  cases hv
  have hlt := (Array.getElem?_eq_some_iff.1 hg).1
  have hmul : iv.toNat * E.size + E.size ≤ n * E.size := by
    have : iv.toNat + 1 ≤ n := by omega
    have := Nat.mul_le_mul_right E.size this
    rw [Nat.add_mul] at this; omega
  have hcapm : n * E.size ≤ cap * E.size := Nat.mul_le_mul_right _ hnc
  obtain ⟨cur', r1, r2, r3⟩ := run_storeCells (P := P) g e (E.cells y) (iv.toNat * E.size) 0 cur w hg (by rw [E.len]; omega) (E.ones y)
  have hsz : (E.val y).cells.size = E.size := by have := congrArg List.length (E.vc y); rw [E.len] at this; simpa using this
  have hst' : (storeVar t ⟨g, iv.toNat * E.size, none⟩ (E.val y)).run P w = .ok () { w with heap := w.heap.setIfInBounds g (.cells cur' e (0, 0)) } := by
    simp only [storeVar, Sem.run_bind, run_sizeOf hT, Result.andThen_ok, hsz, E.vc, r1, ne_eq, not_true_eq_false, if_false]
  have hpe : a0.eval ad = .pointer (some ⟨g, iv.toNat * E.size, none⟩) := by
    rw [hst.regs.eval hp]; simp [add_none]
  unfold Oper.wp
  simp only [execOp, Instr.storeAt, Instr.sureAddr, hpe, hst.regs.eval hx, Sem.run_bind, Sem.run_pure, Result.andThen_ok, hst', Oper.upon_skip]
  refine hK _ _ (k _ _ (hst.step hst.regs (Below.setBlk hst.below hb _) ?_ (by simpa using hst.base) (Kd.one g (fun k _ hk => setBlk_other w g k _ hk) (fun o ho => .inl (by rw [hg] at ho; cases ho; rfl)))))
  refine hst.sat.turn hH (e' := .row (some ⟨g, 0, none⟩) n cap (E.enc (xs.set iv.toNat y)) e E.size) ?_ (fun k _ hk => setBlk_other w g k _ (fun e => hk (by simp [Ent.own, e]))) (fun b' hb' => .inl hb')
  refine ⟨by rw [E.enc_len, List.length_set, hlen], .inr ⟨g, cap, cur', rfl, hb, by simp [hlt], hnc, hcm, by rw [r2, hcs], ?_⟩⟩
  apply List.ext_getElem?
  intro j
  rw [E.enc_set xs _ y j (by omega), List.getElem?_take]
  have h3 := r3 j
  simp only [Nat.add_zero, E.len] at h3
  by_cases hj : j < n * E.size
  · rw [if_pos hj, Array.getElem?_toList, h3]
    by_cases hr : iv.toNat * E.size ≤ j ∧ j < iv.toNat * E.size + E.size
    · rw [if_pos hr, if_pos hr]
    · rw [if_neg hr, if_neg hr, ← htake, List.getElem?_take, if_pos hj, Array.getElem?_toList]
  · rw [if_neg hj, if_neg (by omega), List.getElem?_eq_none (by rw [h1]; omega)]
end own
theorem r_snil {x y : Operand} {t t' : TypeId} {a : Option Addr} {n cap size : Nat} (hx : ev al x = some (.slice a n cap)) (hy : ev al y = some (.slice none 0 0)) (hT : Slc P t size) :
    Runs P N B w0 (.binOp .eql t x y t') ty al H (.bool a.isNone) := fun a0 w hst => by
  obtain ⟨e, hu, _⟩ := hT
  have h : (Op.equalIn Op.maxDepth t (.slice a n cap) (.slice none 0 0)).run P w = .ok a.isNone w := by
    rw [show Op.maxDepth = 9999 + 1 from rfl, Op.equalIn]
    simp only [Sem.run_bind, run_underlying hu, Result.andThen_ok]
    cases a <;> rfl
  simp [execOp, hst.regs.eval hx, hst.regs.eval hy, binOp, Op.equal, eqGuard_at_slice, h]

/-! #### conversions, shifts -/
/-! #### blocks of others that are only read -/
def Blk (C : Nat) (w : World) (b : Nat) (cl : List (Nat × Value)) : Prop := b < C ∧ ∀ o u, look cl o = some u → w.cell? ⟨b, o, none⟩ = some u
theorem Blk.below {C b : Nat} {w w' : World} {cl : List (Nat × Value)} (h : Blk C w b cl) (hb : Below C w w') : Blk C w' b cl := ⟨h.1, fun o u ho => by rw [hb.cell (p := ⟨b, o, none⟩) h.1]; exact h.2 o u ho⟩
theorem Blk.mono {C D b : Nat} {w : World} {cl : List (Nat × Value)} (h : Blk C w b cl) (hd : C ≤ D) : Blk D w b cl := ⟨by have := h.1; omega, h.2⟩
theorem Blk.at {b : Nat} {w : World} {cl : List (Nat × Value)} (h : Blk B w0 b cl) (hb : Below B w0 w) (hB : B ≤ w.heap.size) : Blk w.heap.size w b cl := (h.below hb).mono hB
theorem Sat.blk {w : World} {id b : Nat} {cl : List (Nat × Value)} {T : TypeId} (h : Sat B w H) (hH : look H id = some (.blk b cl T)) : Blk w.heap.size w b cl :=
  ⟨(Ent.own_lt (h.ok _ _ hH) rfl).2, fun o u ho => blk_cell (h.ok _ _ hH) ho⟩
theorem Blk.loads {b o : Nat} {w : World} {cl : List (Nat × Value)} {t : TypeId} {u : Value} (h : Blk B w0 b cl) (hb : Below B w0 w) (hT : Scal P t) (ho : look cl o = some u) : Loads P w t (some ⟨b, o, none⟩) u :=
  ⟨_, rfl, run_loadVar_one hT ((h.below hb).2 o u ho)⟩
end
end
end Go.Proofs.Ytafkojlccknicaa.Hx

/-
  Closed facts of this translation, by program (facts.py): of types and functions, by number.
-/


namespace Go.Proofs.Ytafkojlccknicaa
open Go Hx
set_option linter.unusedVariables false

theorem sc3 : Scal Try.prog 3 := Scal.of (by kernel_rfl)
theorem sc4 : Scal Try.prog 4 := Scal.of (by kernel_rfl)
theorem sc9 : Scal Try.prog 9 := Scal.of (by kernel_rfl)
theorem sc22 : Scal Try.prog 22 := Scal.of (by kernel_rfl)
theorem sc38 : Scal Try.prog 38 := Scal.of (by kernel_rfl)
theorem sc49 : Scal Try.prog 49 := Scal.of (by kernel_rfl)
theorem sc81 : Scal Try.prog 81 := Scal.of (by kernel_rfl)
theorem ag24 : Aggr Try.prog 24 4 := Aggr.of (by kernel_rfl)
theorem ag83 : Aggr Try.prog 83 4 := Aggr.of (by kernel_rfl)
theorem ag92 : Aggr Try.prog 92 4 := Aggr.of (by kernel_rfl)
theorem sz3 : Size Try.prog 3 1 := Size.of (by kernel_rfl)
theorem sz4 : Size Try.prog 4 1 := Size.of (by kernel_rfl)
theorem sz9 : Size Try.prog 9 1 := Size.of (by kernel_rfl)
theorem sz24 : Size Try.prog 24 4 := Size.of (by kernel_rfl)
theorem sz49 : Size Try.prog 49 1 := Size.of (by kernel_rfl)
theorem sz83 : Size Try.prog 83 4 := Size.of (by kernel_rfl)
theorem sz92 : Size Try.prog 92 4 := Size.of (by kernel_rfl)
theorem sl22 : Slc Try.prog 22 1 := Slc.of (by kernel_rfl)
theorem rw22 : RowT Try.prog 22 3 1 8 := RowT.of (by kernel_rfl)
theorem sl38 : Slc Try.prog 38 4 := Slc.of (by kernel_rfl)
theorem rw38 : RowT Try.prog 38 24 4 32 := RowT.of (by kernel_rfl)
theorem sl49 : Slc Try.prog 49 1 := Slc.of (by kernel_rfl)
theorem rw49 : RowT Try.prog 49 9 1 16 := RowT.of (by kernel_rfl)
theorem sl74 : Slc Try.prog 74 4 := Slc.of (by kernel_rfl)
theorem sl90 : Slc Try.prog 90 4 := Slc.of (by kernel_rfl)
theorem rw90 : RowT Try.prog 90 92 4 40 := RowT.of (by kernel_rfl)
theorem fl24_0 : Fld Try.prog 24 0 0 := Fld.of (by kernel_rfl)
theorem fl24_1 : Fld Try.prog 24 1 1 := Fld.of (by kernel_rfl)
theorem fl24_2 : Fld Try.prog 24 2 2 := Fld.of (by kernel_rfl)
theorem fl24_3 : Fld Try.prog 24 3 3 := Fld.of (by kernel_rfl)
theorem fl83_0 : Fld Try.prog 83 0 0 := Fld.of (by kernel_rfl)
theorem fl83_1 : Fld Try.prog 83 1 1 := Fld.of (by kernel_rfl)
theorem fl83_2 : Fld Try.prog 83 2 2 := Fld.of (by kernel_rfl)
theorem fl83_3 : Fld Try.prog 83 3 3 := Fld.of (by kernel_rfl)
theorem fl92_1 : Fld Try.prog 92 1 1 := Fld.of (by kernel_rfl)
theorem fl92_3 : Fld Try.prog 92 3 3 := Fld.of (by kernel_rfl)
theorem fl128_0 : Fld Try.prog 128 0 0 := Fld.of (by kernel_rfl)
theorem fl128_1 : Fld Try.prog 128 1 1 := Fld.of (by kernel_rfl)
theorem fl130_0 : Fld Try.prog 130 0 0 := Fld.of (by kernel_rfl)
theorem fl130_1 : Fld Try.prog 130 1 1 := Fld.of (by kernel_rfl)
theorem fl130_2 : Fld Try.prog 130 2 2 := Fld.of (by kernel_rfl)
theorem z3 : ZeroOf Try.prog 3 [.int .i64 0] := ⟨.int .i64 0, by kernel_rfl, by kernel_rfl⟩
theorem z22 : ZeroOf Try.prog 22 [.slice none 0 0] := ⟨.slice none 0 0, by kernel_rfl, by kernel_rfl⟩
theorem z24 : ZeroOf Try.prog 24 [.int .i64 0, .int .i64 0, .int .i64 0, .bool false] := ⟨.agg #[.int .i64 0, .int .i64 0, .int .i64 0, .bool false], by kernel_rfl, by kernel_rfl⟩
theorem z55 : ZeroOf Try.prog 55 [.int .i64 0, .int .i64 0, .int .i64 0, .int .i64 0, .int .i64 0, .int .i64 0, .int .i64 0, .int .i64 0, .int .i64 0, .int .i64 0] := ⟨.agg #[.int .i64 0, .int .i64 0, .int .i64 0, .int .i64 0, .int .i64 0, .int .i64 0, .int .i64 0, .int .i64 0, .int .i64 0, .int .i64 0], by kernel_rfl, by kernel_rfl⟩
theorem z83 : ZeroOf Try.prog 83 [.int .i64 0, .string ⟨#[]⟩, .int .i64 0, .slice none 0 0] := ⟨.agg #[.int .i64 0, .string ⟨#[]⟩, .int .i64 0, .slice none 0 0], by kernel_rfl, by kernel_rfl⟩
theorem z92 : ZeroOf Try.prog 92 [.int .i64 0, .int .i64 0, .int .i64 0, .string ⟨#[]⟩] := ⟨.agg #[.int .i64 0, .int .i64 0, .int .i64 0, .string ⟨#[]⟩], by kernel_rfl, by kernel_rfl⟩
theorem cb14 : Callable Try.prog 14 := Callable.of (by kernel_rfl)
theorem cb16 : Callable Try.prog 16 := Callable.of (by kernel_rfl)
theorem cb20 : Callable Try.prog 20 := Callable.of (by kernel_rfl)
theorem cb26 : Callable Try.prog 26 := Callable.of (by kernel_rfl)
theorem cb33 : Callable Try.prog 33 := Callable.of (by kernel_rfl)
theorem cb34 : Callable Try.prog 34 := Callable.of (by kernel_rfl)
theorem cb52 : Callable Try.prog 52 := Callable.of (by kernel_rfl)
theorem cb53 : Callable Try.prog 53 := Callable.of (by kernel_rfl)
theorem cb54 : Callable Try.prog 54 := Callable.of (by kernel_rfl)
theorem cb55 : Callable Try.prog 55 := Callable.of (by kernel_rfl)
theorem cb56 : Callable Try.prog 56 := Callable.of (by kernel_rfl)
theorem cb57 : Callable Try.prog 57 := Callable.of (by kernel_rfl)
theorem cb58 : Callable Try.prog 58 := Callable.of (by kernel_rfl)
theorem cb59 : Callable Try.prog 59 := Callable.of (by kernel_rfl)
theorem cb60 : Callable Try.prog 60 := Callable.of (by kernel_rfl)
theorem cb61 : Callable Try.prog 61 := Callable.of (by kernel_rfl)
theorem cb62 : Callable Try.prog 62 := Callable.of (by kernel_rfl)
theorem cb63 : Callable Try.prog 63 := Callable.of (by kernel_rfl)
theorem cb64 : Callable Try.prog 64 := Callable.of (by kernel_rfl)
theorem cb65 : Callable Try.prog 65 := Callable.of (by kernel_rfl)
theorem cb66 : Callable Try.prog 66 := Callable.of (by kernel_rfl)
theorem cb67 : Callable Try.prog 67 := Callable.of (by kernel_rfl)
theorem cb68 : Callable Try.prog 68 := Callable.of (by kernel_rfl)
theorem cb69 : Callable Try.prog 69 := Callable.of (by kernel_rfl)
theorem cb70 : Callable Try.prog 70 := Callable.of (by kernel_rfl)
theorem cb76 : Callable Try.prog 76 := Callable.of (by kernel_rfl)
theorem cb95 : Callable Try.prog 95 := Callable.of (by kernel_rfl)
theorem cb98 : Callable Try.prog 98 := Callable.of (by kernel_rfl)
theorem cb101 : Callable Try.prog 101 := Callable.of (by kernel_rfl)
theorem cb102 : Callable Try.prog 102 := Callable.of (by kernel_rfl)
theorem cb103 : Callable Try.prog 103 := Callable.of (by kernel_rfl)
theorem cb104 : Callable Try.prog 104 := Callable.of (by kernel_rfl)
theorem cb105 : Callable Try.prog 105 := Callable.of (by kernel_rfl)
theorem cb106 : Callable Try.prog 106 := Callable.of (by kernel_rfl)
theorem cb107 : Callable Try.prog 107 := Callable.of (by kernel_rfl)
theorem cb108 : Callable Try.prog 108 := Callable.of (by kernel_rfl)
theorem cb109 : Callable Try.prog 109 := Callable.of (by kernel_rfl)
theorem cb110 : Callable Try.prog 110 := Callable.of (by kernel_rfl)
theorem cb112 : Callable Try.prog 112 := Callable.of (by kernel_rfl)
theorem cb113 : Callable Try.prog 113 := Callable.of (by kernel_rfl)
theorem cb134 : Callable Try.prog 134 := Callable.of (by kernel_rfl)
theorem cb135 : Callable Try.prog 135 := Callable.of (by kernel_rfl)
theorem cb136 : Callable Try.prog 136 := Callable.of (by kernel_rfl)
theorem bd24  (w : World) : (Instr.build 24 #[]).run Try.prog w = .ok (.agg #[.int .i64 0, .int .i64 0, .int .i64 0, .bool false]) w := by kernel_rfl
theorem bd24_0 (x0 : Int) (w : World) : (Instr.build 24 #[(0, .int .i64 x0)]).run Try.prog w = .ok (.agg #[.int .i64 x0, .int .i64 0, .int .i64 0, .bool false]) w := by kernel_rfl
theorem bd24_0_1_2_3 (x0 : Int) (x1 : Int) (x2 : Int) (x3 : Bool) (w : World) : (Instr.build 24 #[(0, .int .i64 x0), (1, .int .i64 x1), (2, .int .i64 x2), (3, .bool x3)]).run Try.prog w = .ok (.agg #[.int .i64 x0, .int .i64 x1, .int .i64 x2, .bool x3]) w := by kernel_rfl
theorem bd92  (w : World) : (Instr.build 92 #[]).run Try.prog w = .ok (.agg #[.int .i64 0, .int .i64 0, .int .i64 0, .string ⟨#[]⟩]) w := by kernel_rfl
theorem bd92_0_1_2_3 (x0 : Int) (x1 : Int) (x2 : Int) (x3 : ByteArray) (w : World) : (Instr.build 92 #[(0, .int .i64 x0), (1, .int .i64 x1), (2, .int .i64 x2), (3, .string x3)]).run Try.prog w = .ok (.agg #[.int .i64 x0, .int .i64 x1, .int .i64 x2, .string x3]) w := by kernel_rfl
theorem bd128_0_1 (a0 : Option Addr) (n0 c0 : Nat) (r1 : Option Nat) (w : World) : (Instr.build 128 #[(0, .slice a0 n0 c0), (1, .map r1)]).run Try.prog w = .ok (.agg #[.slice a0 n0 c0, .map r1]) w := by kernel_rfl
theorem bd130_0_2 (a0 : Option Addr) (n0 c0 : Nat) (r2 : Option Nat) (w : World) : (Instr.build 130 #[(0, .slice a0 n0 c0), (2, .map r2)]).run Try.prog w = .ok (.agg #[.slice a0 n0 c0, .slice none 0 0, .map r2]) w := by kernel_rfl
theorem st9 : Str Try.prog 9 := by unfold Str; kernel_rfl
end Go.Proofs.Ytafkojlccknicaa

/-
  More rules of the logic: regions that draw their order and end in writes; structs compared.
-/


namespace Go.Proofs.Ytafkojlccknicaa.Hx
open Go Go.RowKit
set_option linter.unusedVariables false
set_option linter.unusedSimpArgs false
set_option linter.unusedSectionVars false

section
variable {P : Program} {N : Fr} {B : Nat} {w0 : World} {Q : Exit → Act → World → Prop} {al : AL} {H : HL}

/-- The head of a region that draws: operations that only read; 'tail' is carried out behind them, in its order. -/
def SL (P : Program) (N : Fr) (B : Nat) (w0 : World) (ops l tail : List Oper) (Q : Exit → Act → World → Prop) (al : AL) (H : HL) : Prop :=
  ∀ a w, St N B w0 al H a w → wpStill P ops.toArray w (fun a' => wpList P ops.toArray Q tail a' w) l a
section
variable {ops rest tail : List Oper} {d : Nat} {op : Op} {ty : TypeId} {pos : String} {after : Array Edge} {v : Value}
section
variable {α : Type} {E : Enc α} {a : Option Addr} {n cap : Nat} {xs : List α}
end
/-- Two structs, compared. -/
theorem r_eqs {x y : Operand} {t t' : TypeId} {us vs : Array Value} {b : Bool} (hx : ev al x = some (.agg us)) (hy : ev al y = some (.agg vs)) (hm : P.eqGuardType P.depth t = false)
    (he : ∀ w, (Op.equalIn 10000 t (.agg us) (.agg vs)).run P w = .ok b w) : Runs P N B w0 (.binOp .eql t x y t') ty al H (.bool b) := fun a w hst => by
  have h1 := run_eqGuard_agg (P := P) w .eql t x y us vs hm
  have h2 := run_eql_struct (P := P) w t us vs
  rw [he w] at h2
  simp only [execOp, hst.regs.eval hx, hst.regs.eval hy, Sem.run_bind, h1, Result.andThen_ok, h2, Sem.run_pure]
theorem r_nes {x y : Operand} {t t' : TypeId} {us vs : Array Value} {b : Bool} (hx : ev al x = some (.agg us)) (hy : ev al y = some (.agg vs)) (hm : P.eqGuardType P.depth t = false)
    (he : ∀ w, (Op.equalIn 10000 t (.agg us) (.agg vs)).run P w = .ok b w) : Runs P N B w0 (.binOp .neq t x y t') ty al H (.bool (!b)) := fun a w hst => by
  have h1 := run_eqGuard_agg (P := P) w .neq t x y us vs hm
  have h2 := run_neq_struct (P := P) w t us vs
  rw [he w] at h2
  simp only [execOp, hst.regs.eval hx, hst.regs.eval hy, Sem.run_bind, h1, Result.andThen_ok, h2, Sem.run_pure]
end

/-! #### structs of plain fields, compared -/
def eqV : Value → Value → Bool
  | .int _ a, .int _ b => decide (a = b)
  | .bool a, .bool b => a == b
  | .string a, .string b => a == b
  | _, _ => false
def eqs : List Value → List Value → Bool
  | [], _ => true
  | u :: us, v :: vs => eqV u v && eqs us vs
  | _ :: _, [] => false
/-- The fields from number i on lie one behind the other, a cell each, and the values fit them. -/
def okF (P : Program) : List Field → Nat → List Value → List Value → Bool
  | [], _, [], [] => true
  | f :: fs, i, u :: us, v :: vs => !(f.name == "_") && Nat.beq f.offset i &&
      (match P.underlying f.type, u, v with | some (.int _), .int k1 _, .int k2 _ => decide (k1 = k2) | some .bool, .bool _, .bool _ => true | some .string, .string _, .string _ => true | _, _, _ => false) && okF P fs (i + 1) us vs
  | _, _, _, _ => false
/-- A type of one cell. -/
def DescS (P : Program) (t : TypeId) : Prop := ∃ dd, P.underlying t = some dd ∧ (match dd with | .int _ | .bool | .string => true | _ => false) = true
def okS (P : Program) (t : TypeId) (us vs : List Value) : Bool := match P.underlying t with | some (.struct fs) => okF P fs.toList 0 us vs | _ => false
theorem run_eqFields {d : Nat} {xs ys : Array Value} {w : World} : ∀ {fs : List Field} {i : Nat} {us vs : List Value}, okF P fs i us vs = true → (∀ j u, us[j]? = some u → xs[i + j]? = some u) → (∀ j v, vs[j]? = some v → ys[i + j]? = some v) →
    (Op.eqFields (d + 1) xs ys fs).run P w = .ok (eqs us vs) w
  | [], i, us, vs, h, h1, h2 => by
    cases us with
    | nil => simp [Op.eqFields, eqs]
    | cons u us => cases vs <;> simp [okF] at h
  | f :: fs, i, [], vs, h, _, _ => by cases vs <;> simp [okF] at h
  | f :: fs, i, u :: us, [], h, _, _ => by simp [okF] at h
  | f :: fs, i, u :: us, v :: vs, h, h1, h2 => by
    unfold okF at h
    rw [Bool.and_eq_true, Bool.and_eq_true, Bool.and_eq_true] at h
    obtain ⟨⟨⟨q1, q2⟩, q3⟩, q4⟩ := h
    have hoff : f.offset = i := Nat.eq_of_beq_eq_true q2
    have hu : xs[i]? = some u := by simpa using h1 0 u rfl
    have hv : ys[i]? = some v := by simpa using h2 0 v rfl
    have hname : f.name ≠ "_" := by simpa using q1
    have ih := run_eqFields (d := d) (w := w) q4 (fun j u' hj => by have := h1 (j + 1) u' (by simpa using hj); rwa [show i + (j + 1) = i + 1 + j from by omega] at this)
      (fun j v' hj => by have := h2 (j + 1) v' (by simpa using hj); rwa [show i + (j + 1) = i + 1 + j from by omega] at this)
    have hpart : ∀ (ds : DescS P f.type), (part f.type xs f.offset).run P w = .ok u w ∧ (part f.type ys f.offset).run P w = .ok v w := by
      intro ds
      obtain ⟨dd, hdd, hp⟩ := ds
      have hagg : (isAgg f.type).run P w = .ok false w := by
        simp only [isAgg, Sem.run_bind, run_underlying hdd, Result.andThen_ok]
        cases dd <;> first | rfl | (simp at hp)
      rw [hoff]
      constructor <;> simp [part, hagg, hu, hv]
    have key : ∃ dd, P.underlying f.type = some dd ∧ (part f.type xs f.offset).run P w = .ok u w ∧ (part f.type ys f.offset).run P w = .ok v w ∧ (Op.equalIn (d + 1) f.type u v).run P w = .ok (eqV u v) w := by
      split at q3
      · rename_i k k1 a k2 b hdd
        have hk : k1 = k2 := by simpa using q3
        subst hk
        obtain ⟨p1, p2⟩ := hpart ⟨_, hdd, rfl⟩
        exact ⟨_, hdd, p1, p2, by rw [run_equalIn_int w d f.type k1 k a b hdd]; rfl⟩
      · rename_i a b hdd
        obtain ⟨p1, p2⟩ := hpart ⟨_, hdd, rfl⟩
        exact ⟨_, hdd, p1, p2, run_equalIn_bool' w d f.type a b hdd⟩
      · rename_i a b hdd
        obtain ⟨p1, p2⟩ := hpart ⟨_, hdd, rfl⟩
        refine ⟨_, hdd, p1, p2, ?_⟩
        simp [Op.equalIn, run_underlying hdd, eqV]
      · simp at q3
    obtain ⟨dd, hdd, p1, p2, p3⟩ := key
    unfold Op.eqFields
    rw [if_pos hname]
    simp only [Sem.run_bind, p1, p2, p3, Result.andThen_ok]
    cases hb : eqV u v with
    | false => simp [eqs, hb]
    | true => simp [eqs, hb, ih]
theorem run_eqs {t : TypeId} {us vs : List Value} (h : okS P t us vs = true) (hp : P.stoodInHeld t = false) (w : World) : (Op.equalIn 10000 t (.agg us.toArray) (.agg vs.toArray)).run P w = .ok (eqs us vs) w := by
  unfold okS at h
  split at h
  · rename_i fs hu
    have hf : P.fieldsOf t = fs := by simp [Program.fieldsOf, hu]
    rw [show (10000 : Nat) = 9999 + 1 from rfl, run_equalIn_struct w 9999 t _ _ (by rw [hf]; exact hu) hp, hf]
    exact run_eqFields (d := 9998) h (fun j u hj => by simpa using hj) (fun j u hj => by simpa using hj)
  · simp at h
end
end Go.Proofs.Ytafkojlccknicaa.Hx

/-
  How the elements of the slices lie in memory.
-/


namespace Go.Proofs.Ytafkojlccknicaa
open Go Hx
set_option linter.unusedVariables false

def encI : Enc Int := { size := 1, cells := fun x => [.int .i64 x], val := fun x => .int .i64 x, len := fun _ => rfl, ones := fun _ u h => by simp at h; subst h; rfl, pos := by decide, vc := fun _ => rfl }
theorem ty3 : Ty Try.prog 3 encI := .inl ⟨sc3, fun _ => rfl⟩
end Go.Proofs.Ytafkojlccknicaa

/-
  From the readings of the arguments to the lists of the walks: slices of integers.
-/










namespace Go.Proofs.Ytafkojlccknicaa
open Go Hx Go.ChangeShapes Go.WideShapes Go.ChangeAt Go.RowKit
set_option linter.unusedVariables false
set_option maxRecDepth 8000

theorem lift_own : ownKnob Try.prog.godebug = none := by kernel_rfl
theorem lift_laid : laidOutB Try.prog = true := by kernel_rfl

theorem rd_ints {W : World} {x : Addr} {len cap : Nat} {zs : List Int} (hl : len ≤ cap) (hm : cap ≤ maxLen) (hz : zs.length = cap) (hcell : ∀ i, i < zs.length → W.cell? (x.add i) = some (.int .i64 (zs.getD i 0))) :
    Rd encI W.heap.size W (some x) len cap (zs.take len) := by
  refine ⟨by simp; omega, by unfold maxLen at hm; omega, ⟨hl, by unfold maxLen at hm; omega⟩, fun i y hy => ?_⟩
  have hi : i < len := by
    have := (List.getElem?_eq_some_iff.1 hy).1
    simp at this; omega
  have h0 := hcell 0 (by omega)
  have hx0 : x.add 0 = x := by simp [Addr.add]
  rw [hx0] at h0
  obtain ⟨b, off, spot⟩ := x
  have hspot : spot = none := by simpa using World.cell?_spot h0
  subst hspot
  refine ⟨b, off, rfl, World.block_lt_of_cell? W _ h0, fun j u hu => ?_⟩
  have hj : j = 0 ∧ u = .int .i64 y := by
    cases j with
    | zero => simp [encI] at hu; exact ⟨rfl, hu.symm⟩
    | succ j => simp [encI] at hu
  obtain ⟨rfl, rfl⟩ := hj
  have hc := hcell i (by omega)
  rw [add_none] at hc
  show W.cell? ⟨b, off + i * 1 + 0, none⟩ = _
  rw [Nat.mul_one, Nat.add_zero, hc]
  have : zs.getD i 0 = y := by
    rw [List.getElem?_take, if_pos hi] at hy
    simp [List.getD_eq_getElem?_getD, hy]
  rw [this]

/-- A slice of integers among the arguments, opened. -/
theorem open_intsR {H : Type} {enc : TypeId × Value → H} {W : World} {base : Nat} {t e : TypeId} {v : Value} {d : DataW H} {p : List MemPlace} (ht : Try.prog.underlying t = some (.slice e)) (he : Try.prog.underlying e = some (.int .i64)) (hc : Try.prog.cellsOf e = 1)
    (hv : ∃ a len cap, v = .slice a len cap) (h : ∃ fuel, DataW.trod enc Try.prog W base (fun _ => true) true fuel t v.cells.toList = some (d, p)) :
    ∃ a n cap xs, v = .slice a n cap ∧ Rd encI W.heap.size W a n cap xs := by
  obtain ⟨a0, len0, cap0, rfl⟩ := hv
  obtain ⟨fuel, hf⟩ := h
  rcases open_ints ht he hc hf with ⟨hcs, _⟩ | ⟨x, l, c, zs, hcs, _, hl, hm, hz, _, hcell, hwz⟩
  · simp [Value.cells] at hcs
    obtain ⟨rfl, rfl, rfl⟩ := hcs
    exact ⟨none, 0, 0, [], rfl, Rd.nil⟩
  · simp [Value.cells] at hcs
    obtain ⟨rfl, rfl, rfl⟩ := hcs
    exact ⟨_, _, _, _, rfl, rd_ints hl hm (by simpa using hz) hcell⟩

/-! #### cells of structs, opened down to their one-cell parts -/
def goF (P : Program) (fl : TypeId → Option (List TypeId)) : List Field → Nat → Option (List TypeId)
  | [], _ => some []
  | f :: r, off => if f.offset = off then (fl f.type).bind fun a => if a.length = P.cellsOf f.type then (goF P fl r (off + a.length)).map (a ++ ·) else none else none
def flatL (P : Program) : Nat → TypeId → Option (List TypeId)
  | 0, _ => none
  | n + 1, t => match P.underlying t with
    | some (.struct fs) => (goF P (flatL P n) fs.toList 0).bind fun a => if a.length = P.cellsOf t then some a else none
    | some (.array ..) => none
    | some _ => if P.cellsOf t = 1 then some [t] else none
    | none => none
section
variable {H : Type} {enc : TypeId × Value → H} {P : Program} {W : World} {base : Nat} {sp : Nat → Bool} {held : Bool}
def Leaf (enc : TypeId × Value → H) (P : Program) (W : World) (base : Nat) (sp : Nat → Bool) (held : Bool) (t : TypeId) (v : Value) (q : List MemPlace) : Prop :=
  ∃ n d p, DataW.trod enc P W base sp held n t [v] = some (d, p) ∧ ∀ x ∈ p, x ∈ q
theorem trod_cells_other {t : TypeId} {n : Nat} {cs : List Value} {x : DataW H × List MemPlace} (h : DataW.trod enc P W base sp held n t cs = some x) (hs : ∀ fs, P.underlying t ≠ some (.struct fs)) (ha : ∀ m e, P.underlying t ≠ some (.array m e)) : cs.length = 1 := by
  cases n with
  | zero => simp [DataW.trod] at h
  | succ n =>
    unfold DataW.trod at h
    split at h <;> first | rfl | (simp at h; done) | (exact absurd (by assumption) (hs _)) | (exact absurd (by assumption) (ha _ _))
theorem goF_leaves {fl : TypeId → Option (List TypeId)} {cs : List Value} {n : Nat} {q : List MemPlace}
    (hfl : ∀ (t : TypeId) (ts : List TypeId) (cs : List Value) (x : DataW H × List MemPlace), fl t = some ts → DataW.trod enc P W base sp held n t cs = some x → (∀ (i : Nat) (t : TypeId) (v : Value), ts[i]? = some t → cs[i]? = some v → Leaf enc P W base sp held t v x.2)) :
    ∀ (fs : List Field) (xs : List (DataW H × List MemPlace)) (off : Nat) (ts : List TypeId), goF P fl fs off = some ts → xs.length = fs.length → (∀ x ∈ xs, ∀ y ∈ x.2, y ∈ q) →
      (∀ (i : Nat) (f : Field), fs[i]? = some f → DataW.trod enc P W base sp held n f.type ((cs.drop f.offset).take (P.cellsOf f.type)) = xs[i]?) →
      ∀ (i : Nat) (t : TypeId) (v : Value), ts[i]? = some t → cs[off + i]? = some v → Leaf enc P W base sp held t v q
  | [], xs, off, ts, hg, _, _, _, i, t, v, ht, _ => by
    simp [goF] at hg; subst hg; simp at ht
  | f :: r, xs, off, ts, hg, hl, hq, hx, i, t, v, ht, hv => by
    unfold goF at hg
    split at hg
    · rename_i hoff
      obtain ⟨a, ha, hg⟩ := Option.bind_eq_some_iff.1 hg
      split at hg
      · rename_i hal
        obtain ⟨b, hb, rfl⟩ := Option.map_eq_some_iff.1 hg
        match xs, hl with
        | x0 :: xr, hl =>
          by_cases hi : i < a.length
          · have h0 := hx 0 f rfl
            rw [show (x0 :: xr)[0]? = some x0 from rfl] at h0
            obtain ⟨m, d, p, h1, h2⟩ := hfl _ _ _ _ ha h0 i t v (by rwa [List.getElem?_append_left hi] at ht) (by rw [List.getElem?_take_of_lt (by omega), List.getElem?_drop, hoff]; exact hv)
            exact ⟨m, d, p, h1, fun y hy => hq x0 (by simp) y (h2 y hy)⟩
          · refine goF_leaves hfl r xr (off + a.length) b hb (by simpa using hl) (fun x hx' => hq x (by simp [hx'])) (fun j g hj => by have := hx (j + 1) g (by simpa using hj); simpa using this) (i - a.length) t v ?_ ?_
            · rwa [List.getElem?_append_right (by omega)] at ht
            · rw [show off + a.length + (i - a.length) = off + i by omega]; exact hv
      · simp at hg
    · simp at hg
theorem leaves : ∀ (f : Nat) {n : Nat} {t : TypeId} {ts : List TypeId} {cs : List Value} {x : DataW H × List MemPlace}, flatL P f t = some ts → DataW.trod enc P W base sp held n t cs = some x →
    cs.length = ts.length ∧ ∀ (i : Nat) (t : TypeId) (v : Value), ts[i]? = some t → cs[i]? = some v → Leaf enc P W base sp held t v x.2
  | 0, n, t, ts, cs, x, hf, _ => by simp [flatL] at hf
  | f + 1, n, t, ts, cs, x, hf, h => by
    unfold flatL at hf
    split at hf
    · rename_i fs hu
      obtain ⟨a, ha, hf⟩ := Option.bind_eq_some_iff.1 hf
      split at hf
      · rename_i hal
        cases hf
        obtain ⟨xs, m, rfl, rfl, hlen, hxl, hx⟩ := DataW.trod_struct hu h
        refine ⟨by omega, fun i t v ht hv => ?_⟩
        refine goF_leaves (n := m) (cs := cs) (fun t ts cs x h1 h2 => (leaves f h1 h2).2) fs.toList xs 0 _ ha (by simpa using hxl) (fun x hx' y hy => List.mem_flatMap.2 ⟨x, hx', hy⟩) (fun i g hg => hx i g (by simpa using hg)) i t v ht (by simpa using hv)
      · simp at hf
    · simp at hf
    · rename_i d hd1 hd2 hu
      split at hf
      · cases hf
        have h1 := trod_cells_other h (fun fs hc => by rw [hu] at hc; cases hc; exact hd1 _ rfl) (fun m e hc => by rw [hu] at hc; cases hc; exact hd2 _ _ rfl)
        refine ⟨h1, fun i t v ht hv => ?_⟩
        match cs, h1 with
        | [c], _ =>
          cases i with
          | zero => simp at ht hv; subst ht; subst hv; exact ⟨n, x.1, x.2, h, fun y hy => hy⟩
          | succ i => simp at ht
      · simp at hf
    · simp at hf
theorem Leaf.int {t : TypeId} {v : Value} {q : List MemPlace} {k : IntKind} (ht : P.underlying t = some (.int k)) (h : Leaf enc P W base sp held t v q) : ∃ n, v = .int k n ∧ (Lit.int k n).wf = true := by
  obtain ⟨n, d, p, h, _⟩ := h
  obtain ⟨n, h1, _, h2⟩ := DataW.trod_int ht h
  simp at h1
  exact ⟨n, h1, h2⟩
theorem Leaf.bool {t : TypeId} {v : Value} {q : List MemPlace} (ht : P.underlying t = some .bool) (h : Leaf enc P W base sp held t v q) : ∃ n, v = .bool n := by
  obtain ⟨n, d, p, h, _⟩ := h
  obtain ⟨n, h1, _⟩ := DataW.trod_bool ht h
  simp at h1
  exact ⟨n, h1⟩
theorem Leaf.string {t : TypeId} {v : Value} {q : List MemPlace} (ht : P.underlying t = some .string) (h : Leaf enc P W base sp held t v q) : ∃ s, v = .string s ∧ s.size ≤ maxLen := by
  obtain ⟨n, d, p, h, _⟩ := h
  obtain ⟨s, h1, _, h2⟩ := DataW.trod_string ht h
  simp at h1
  exact ⟨s, h1, h2⟩
end
/-- A slice of whatever lies in cells, opened, if its elements can be. -/
theorem open_rowsP {α : Type} (E : Enc α) (p : α → Prop) {H : Type} {enc : TypeId × Value → H} {P : Program} {W : World} {base : Nat} {sp : Nat → Bool} {held : Bool} {fuel : Nat} {t e : TypeId} {cs : List Value} {x : DataW H × List MemPlace} (ht : P.underlying t = some (.slice e)) (hc : P.cellsOf e = E.size)
    (hE : ∀ n cs x, DataW.trod enc P W base sp held n e cs = some x → ∃ y : α, cs = E.cells y ∧ p y) (h : DataW.trod enc P W base sp held fuel t cs = some x) :
    ∃ a n cap xs, cs = [.slice a n cap] ∧ Rd E W.heap.size W a n cap xs ∧ ∀ y ∈ xs, p y := by
  rcases Go.Deep.open_slice ht h with ⟨hcs, _⟩ | ⟨a, len, cap, m, n, D, Pl, hcs, _, hl, hm, hmm, _, hx⟩
  · exact ⟨none, 0, 0, [], hcs, Rd.nil, fun y hy => by simp at hy⟩
  · have hlm : len ≤ m := by rw [hmm]; split <;> omega
    have key : ∀ k, k ≤ len → ∃ ys : List α, ys.length = k ∧ (∀ y ∈ ys, p y) ∧ ∀ (i : Nat) (y : α), ys[i]? = some y → W.cells? base (a.add (i * E.size)) E.size = some (E.cells y) := by
      intro k
      induction k with
      | zero => exact fun _ => ⟨[], rfl, fun y hy => by simp at hy, fun i y hy => by simp at hy⟩
      | succ k ih =>
        intro hk
        obtain ⟨ys, hy1, hyp, hy2⟩ := ih (by omega)
        obtain ⟨cs', h1, h2⟩ := hx k (by omega)
        obtain ⟨y, rfl, hpy⟩ := hE _ _ _ h2
        rw [hc] at h1
        refine ⟨ys ++ [y], by simp [hy1], fun z hz => (by rcases List.mem_append.1 hz with h | h; exact hyp _ h; simp at h; subst h; exact hpy), fun i z hz => ?_⟩
        by_cases hi : i < ys.length
        · rw [List.getElem?_append_left hi] at hz; exact hy2 i z hz
        · have hik : i = k := by have := (List.getElem?_eq_some_iff.1 hz).1; simp at this; omega
          subst hik
          rw [List.getElem?_append_right (by omega)] at hz
          simp [hy1] at hz
          subst hz; exact h1
    obtain ⟨ys, hy1, hyp, hy2⟩ := key len (Nat.le_refl _)
    refine ⟨some a, len, cap, ys, hcs, ⟨hy1, by unfold maxLen at hm; omega, ⟨hl, by unfold maxLen at hm; omega⟩, fun i y hy => ?_⟩, hyp⟩
    obtain ⟨_, h1, h2⟩ := World.cells?_some (hy2 i y hy)
    have hpos := E.pos
    have hi : i < ys.length := (List.getElem?_eq_some_iff.1 hy).1
    have g0 : ys[0]? = some (ys[0]'(by omega)) := List.getElem?_eq_getElem (by omega)
    obtain ⟨_, g1, g2⟩ := World.cells?_some (hy2 0 _ g0)
    have g3 := g2 0 hpos
    have ha0 : (a.add (0 * E.size)).add 0 = a := by simp [Addr.add]
    rw [ha0, List.getElem?_eq_getElem (by omega)] at g3
    obtain ⟨b, off, spot⟩ := a
    have hspot : spot = none := by simpa using World.cell?_spot g3
    subst hspot
    have hadd : ∀ k, (Addr.add ⟨b, off, none⟩ (i * E.size)).add k = ⟨b, off + i * E.size + k, none⟩ := fun k => by rw [add_none, add_none]
    refine ⟨b, off, rfl, World.block_lt_of_cell? W _ g3, fun j u hu => ?_⟩
    have hj : j < E.size := by rw [← h1]; exact (List.getElem?_eq_some_iff.1 hu).1
    have := h2 j hj
    rw [hadd, hu] at this
    exact this
/-- The same with nothing asked of the elements. -/
theorem open_rows {α : Type} (E : Enc α) {H : Type} {enc : TypeId × Value → H} {P : Program} {W : World} {base : Nat} {sp : Nat → Bool} {held : Bool} {fuel : Nat} {t e : TypeId} {cs : List Value} {x : DataW H × List MemPlace} (ht : P.underlying t = some (.slice e)) (hc : P.cellsOf e = E.size)
    (hE : ∀ n cs x, DataW.trod enc P W base sp held n e cs = some x → ∃ y : α, cs = E.cells y) (h : DataW.trod enc P W base sp held fuel t cs = some x) :
    ∃ a n cap xs, cs = [.slice a n cap] ∧ Rd E W.heap.size W a n cap xs := by
  obtain ⟨a, n, cap, xs, h1, h2, _⟩ := open_rowsP E (fun _ => True) ht hc (fun n cs x h => by obtain ⟨y, hy⟩ := hE n cs x h; exact ⟨y, hy, trivial⟩) h
  exact ⟨a, n, cap, xs, h1, h2⟩
end Go.Proofs.Ytafkojlccknicaa

/-
  How large a slice that is handed in can be.
-/


namespace Go.Proofs.Ytafkojlccknicaa
open Go Hx Go.ChangeShapes Go.WideShapes Go.ChangeAt Go.RowKit
set_option linter.unusedVariables false
section
variable {H : Type} {enc : TypeId × Value → H} {W : World} {base : Nat} {sp : Nat → Bool} {held : Bool}
theorem rows_size {n : Nat} {cs : List Value} {x : DataW H × List MemPlace} {t e : TypeId} {a : Option Addr} {k c : Nat} (hu : Try.prog.underlying t = some (.slice e)) (h : DataW.trod enc Try.prog W base sp held n t cs = some x) (hcs : cs = [.slice a k c]) (hw : ∀ m ∈ x.1.weights Try.prog t, m ≤ reachBytes) : k * Try.prog.bytesOf e ≤ reachBytes := by
  subst hcs
  rcases Go.Deep.open_slice hu h with ⟨hcs, _⟩ | ⟨a', len, cap, m, k', D, Pl, hcs, _, hl, hm, hmm, hx, _⟩
  · simp at hcs
    obtain ⟨_, rfl, _⟩ := hcs
    simp
  · obtain ⟨E, S, hE, hEl⟩ : ∃ E S, x.1 = DataW.slice E S ∧ E.length = len := ⟨_, _, by rw [hx], by simp⟩
    have h5 : (E.length + S.length) * Try.prog.bytesOf e ≤ reachBytes := hw _ (by
      rw [hE]
      simp only [DataW.weights, hu]
      exact List.mem_cons_self ..)
    simp at hcs
    obtain ⟨_, rfl, _⟩ := hcs
    exact Nat.le_trans (Nat.mul_le_mul_right _ (by omega)) h5
end
end Go.Proofs.Ytafkojlccknicaa

/-
  More rules of the logic: regions that draw their order, of whatever shape: an operation that yields the same in every world that keeps H0 is taken first; one that stands alone is carried out.
-/




namespace Go.Proofs.Ytafkojlccknicaa.Hx
open Go Go.RowKit
set_option linter.unusedVariables false
set_option linter.unusedSimpArgs false
set_option linter.unusedSectionVars false
section
variable {P : Program} {N : Fr} {B : Nat} {w0 : World} {Q : Exit → Act → World → Prop} {al : AL} {H : HL} {ops : Array Oper} {n : Nat} {listed : Array Bool} {Ss : List (Nat × HL)}
/-- As long as operation j has not come up, the entries of its stage hold. -/
def Stg (N : Fr) (B : Nat) (w0 : World) (Ss : List (Nat × HL)) (listed : Array Bool) (w : World) : Prop := ∀ p ∈ Ss, listed.getD p.1 false = false → Cl N B w0 p.2 w
/-- What has come up is closed under what it waits for. -/
def Shut (ops : Array Oper) (listed : Array Bool) : Prop := listed.size = ops.size ∧ ∀ j oj, ops[j]? = some oj → listed.getD j false = true → ∀ e ∈ oj.after, Region.binds .any e = true → listed.getD e.on false = true
theorem Shut.start (ops : Array Oper) : Shut ops (Array.replicate ops.size false) := ⟨by simp, fun j oj _ hl => by rw [getD_replicate_false] at hl; cases hl⟩
theorem Shut.set {i : Nat} (h : Shut ops listed) (hi : i ∈ Region.ready .any ops listed) : Shut ops (listed.setIfInBounds i true) := by
  obtain ⟨_, oi, hoi, hall⟩ := mem_ready.1 hi
  refine ⟨by simp [h.1], ?_⟩
  intro j oj hj hl e he hb
  by_cases hij : i = j
  · subst hij
    have : oj = oi := Option.some.inj (hj.symm.trans hoi)
    subst this
    exact getD_set_true (hall e he hb)
  · rw [getD_set_ne false hij] at hl
    exact getD_set_true (h.2 j oj hj hl e he hb)
theorem Stg.set {i : Nat} {w : World} (h : Stg N B w0 Ss listed w) : Stg N B w0 Ss (listed.setIfInBounds i true) w := fun p hp hl => by
  by_cases hi : i = p.1
  · subst hi
    cases h1 : listed.getD p.1 false with
    | true => have := getD_set_true (i := p.1) h1; rw [this] at hl; cases hl
    | false => exact h p hp h1
  · rw [getD_set_ne false hi] at hl; exact h p hp hl
theorem Stg.unset {i : Nat} {w : World} (h : Stg N B w0 Ss (listed.setIfInBounds i true) w) (hn : ∀ p ∈ Ss, p.1 ≠ i) : Stg N B w0 Ss listed w := fun p hp hl =>
  h p hp (by rw [getD_set_ne false (Ne.symm (hn p hp))]; exact hl)
/-- Whatever order is picked from here on; the stages hold behind every operation. -/
def AnyS (P : Program) (ops : Array Oper) (Q : Exit → Act → World → Prop) (N : Fr) (B : Nat) (w0 : World) (Ss : List (Nat × HL)) : Nat → Array Bool → Act → World → Prop
  | 0, listed, a, w => Region.ready .any ops listed = [] ∧ Q .normal a w
  | f + 1, listed, a, w => (Region.ready .any ops listed = [] → Q .normal a w) ∧
    ∀ i ∈ Region.ready .any ops listed, wpOp P ops Q i (fun a' w' => Stg N B w0 Ss (listed.setIfInBounds i true) w' ∧ AnyS P ops Q N B w0 Ss f (listed.setIfInBounds i true) a' w') a w
theorem AnyS.any {Q : Exit → Act → World → Prop} : ∀ (f : Nat) (listed : Array Bool) (a : Act) (w : World), AnyS P ops Q N B w0 Ss f listed a w → wpAny P .any ops Q f listed a w
  | 0, _, _, _, h => h
  | f + 1, _, _, _, h => ⟨h.1, fun i hi => wpOp_mono (fun a' w' h' => AnyS.any f _ a' w' h'.2) (h.2 i hi)⟩
/-- A world that may be there while i has not come up. -/
def While (ops : Array Oper) (N : Fr) (B : Nat) (w0 : World) (Ss : List (Nat × HL)) (i : Nat) (w : World) : Prop := ∃ listed, Shut ops listed ∧ listed.getD i true = false ∧ Stg N B w0 Ss listed w
theorem AnyS.first {Q : Exit → Act → World → Prop} {i : Nat} {oi : Oper} {v : Value} (hi : ops[i]? = some oi) (hsel : ∀ (j : Nat) (o : Oper) cs b, ops[j]? = some o → o.op ≠ .select cs b)
    (hQ : ∀ c a w, Q (.panic c) (a.put oi.dst v) w → Q (.panic c) a w) (hn : ∀ p ∈ Ss, p.1 ≠ i) :
    ∀ (f : Nat) (listed : Array Bool) (a : Act) (w : World),
      (∀ j oj, ops[j]? = some oj → j ≠ i → listed.getD j true = false → (∀ e ∈ oj.after, Region.binds .any e = true → e.on ≠ i) → oi.apart ops oj = true) →
      i ∈ Region.ready .any ops listed → Shut ops listed → YieldsIf P ops (While ops N B w0 Ss i) oi v a → Stg N B w0 Ss listed w →
      AnyS P ops Q N B w0 Ss f (listed.setIfInBounds i true) (a.put oi.dst v) w → AnyS P ops Q N B w0 Ss (f + 1) listed a w := by
  intro f
  induction f with
  | zero =>
    intro listed a w _ hr hsh hy hS h
    refine ⟨fun h0 => (by rw [h0] at hr; cases hr), fun j hj => ?_⟩
    by_cases hji : j = i
    · subst hji; exact hy.wpOp hi ⟨listed, hsh, (mem_ready.1 hr).1, hS⟩ ⟨hS.set, h⟩
    · have := ready_mono hj hji
      rw [h.1] at this
      cases this
  | succ f ih =>
    intro listed a w hfree hr hsh hy hS h
    refine ⟨fun h0 => (by rw [h0] at hr; cases hr), fun j hj => ?_⟩
    by_cases hji : j = i
    · subst hji; exact hy.wpOp hi ⟨listed, hsh, (mem_ready.1 hr).1, hS⟩ ⟨hS.set, h⟩
    · obtain ⟨hjun, oj, hoj, hall⟩ := mem_ready.1 hj
      have hiun := (mem_ready.1 hr).1
      have hnot : ∀ e ∈ oj.after, Region.binds .any e = true → e.on ≠ i := fun e he hb heq => by
        have h1 := hall e he hb
        rw [heq, getD_both hiun] at h1
        cases h1
      have h2 := wpOp_putIf hoj (hfree j oj hoj hji hjun hnot) (fun cs b => hsel i oi cs b hi) (fun cs b => hsel j oj cs b hoj) hQ hy (h.2 j (ready_mono hj hji))
      have hfree' : ∀ k ok, ops[k]? = some ok → k ≠ i → (listed.setIfInBounds j true).getD k true = false → (∀ e ∈ ok.after, Region.binds .any e = true → e.on ≠ i) → oi.apart ops ok = true := fun k ok hk hki hun hno => by
        by_cases hjk : j = k
        · subst hjk; exact hfree j ok hk hki hjun hno
        · rw [getD_set_ne true hjk] at hun; exact hfree k ok hk hki hun hno
      refine wpOp_mono (fun a' w' h3 => ?_) h2
      obtain ⟨h4, h5, h6⟩ := h3
      rw [Array.setIfInBounds_comm _ _ (Ne.symm hji)] at h5 h6
      have h7 := Stg.unset h5 hn
      exact ⟨h7, ih (listed.setIfInBounds j true) a' w' hfree' (ready_mono hr (Ne.symm hji)) (hsh.set hj) h4 h7 h6⟩
def AQ (P : Program) (N : Fr) (B : Nat) (w0 : World) (ops : Array Oper) (Q : Exit → Act → World → Prop) (Ss : List (Nat × HL)) (n : Nat) (listed : Array Bool) (al : AL) (H : HL) : Prop :=
  Shut ops listed → ∀ a w, St N B w0 al H a w → Stg N B w0 Ss listed w → AnyS P ops (NoPanic Q) N B w0 Ss n listed a w
/-- The stages that have not come up hold in H. -/
def Holds (listed : Array Bool) (H : HL) : List (Nat × HL) → Prop
  | [] => True
  | p :: r => (listed.getD p.1 false = true ∨ SubH p.2 H) ∧ Holds listed H r
theorem Holds.stg {a : Act} {w : World} (hst : St N B w0 al H a w) : ∀ {Ss : List (Nat × HL)}, Holds listed H Ss → Stg N B w0 Ss listed w
  | [], _ => fun p hp => by cases hp
  | q :: r, h => fun p hp hl => by
    rcases List.mem_cons.1 hp with rfl | hp
    · rcases h.1 with h1 | h1
      · rw [h1] at hl; cases hl
      · exact ⟨hst.below, hst.sat.sub h1, hst.base, hst.kd, hst.marks⟩
    · exact Holds.stg hst h.2 p hp hl
theorem wp_rega {id : Nat} {ops : Array Oper} (Ss : List (Nat × HL)) (hm : P.follows .mixedOrders = true) (hh : Holds (Array.replicate ops.size false) H Ss) (h : AQ P N B w0 ops Q Ss ops.size (Array.replicate ops.size false) al H) :
    WP P N B w0 (.region id ops true) Q al H := by
  intro a w hst
  exact d_any hm (wpAny_q NoPanic.imp _ _ _ _ (AnyS.any _ _ _ _ (h (Shut.start _) a _ hst.drew (Holds.stg hst.drew hh))))
theorem aq_done (hr : Region.ready .any ops listed = []) (h : QP N B w0 Q .normal al H) : AQ P N B w0 ops Q Ss n listed al H :=
  fun _ a w hst _ => by
    cases n with
    | zero => exact ⟨hr, h a w hst⟩
    | succ n => exact ⟨fun _ => h a w hst, by rw [hr]; simp⟩
/-- In every world that may be there while i has not come up, the stage j holds. -/
theorem While.cl {i j : Nat} {Hj : HL} {w : World} (h : While ops N B w0 Ss i w) (hm : (j, Hj) ∈ Ss) (hw : (Region.waitsFor .any ops j i || Nat.ble ops.size j) = true) : Cl N B w0 Hj w := by
  obtain ⟨l, h1, h2, h3⟩ := h
  refine h3 _ hm ?_
  rw [Bool.or_eq_true] at hw
  rcases hw with hw | hw
  · obtain ⟨oj, hj, e, he, hb, hon⟩ := Region.waitsFor_spec hw
    cases hl : l.getD j false with
    | false => rfl
    | true =>
      have := h1.2 j oj hj hl e he hb
      rw [hon, getD_both h2] at this
      cases this
  · have := Nat.le_of_ble_eq_true hw
    have h4 := h1.1
    rw [Array.getD_eq_getD_getElem?, Array.getElem?_eq_none (by omega)]; rfl
section
variable {d : Nat} {op : Op} {ty : TypeId} {pos : String} {after : Array Edge} {v : Value} {Hj : HL}
theorem aq_take (i j : Nat) {guard : Option (Nat × Bool)} (hi : ops[i]? = some { dst := some d, op, type := ty, pos, after, guard }) (hs : Region.noSelect ops = true) (hf : Region.free .any ops listed i = true) (hr : (Region.ready .any ops listed).contains i = true)
    (hm : (j, Hj) ∈ Ss) (hw : (Region.waitsFor .any ops j i || Nat.ble ops.size j) = true) (hn : (Ss.map (·.1)).contains i = false) (hd : Nat.blt d N.n = true)
    (hy : ∀ a, Regs N al a → YieldsIf P ops (Cl N B w0 Hj) { dst := some d, op, type := ty, pos, after, guard } v a) (k : AQ P N B w0 ops Q Ss n (listed.setIfInBounds i true) ((d, v) :: al) H) : AQ P N B w0 ops Q Ss (n + 1) listed al H := by
  intro hsh a w hst hS
  have hir : i ∈ Region.ready .any ops listed := by simpa using hr
  refine AnyS.first hi (Region.noSelect_spec hs) (fun c a w h => h) (fun p hp hpi => ?_) n listed a w (Region.free_spec hi hf) hir hsh ?_ hS (k (hsh.set hir) _ _ (hst.put (by simpa using hd) v) hS.set)
  · have : (Ss.map (·.1)).contains i = true := by simp; exact ⟨p.2, by rw [← hpi]; exact hp⟩
    rw [this] at hn; cases hn
  · rcases hy a hst.regs with ⟨h1, h2⟩ | h1
    · exact .inl ⟨h1, fun w1 hw1 => h2 w1 (hw1.cl hm hw)⟩
    · exact .inr h1
theorem aq_r (i j : Nat) (hi : ops[i]? = some { dst := some d, op, type := ty, pos, after, guard := none }) (hs : Region.noSelect ops = true) (hf : Region.free .any ops listed i = true) (hr : (Region.ready .any ops listed).contains i = true)
    (hm : (j, Hj) ∈ Ss) (hw : (Region.waitsFor .any ops j i || Nat.ble ops.size j) = true) (hn : (Ss.map (·.1)).contains i = false) (hd : Nat.blt d N.n = true)
    (hrun : Runs P N B w0 op ty al Hj v) (k : AQ P N B w0 ops Q Ss n (listed.setIfInBounds i true) ((d, v) :: al) H) : AQ P N B w0 ops Q Ss (n + 1) listed al H :=
  aq_take i j hi hs hf hr hm hw hn hd (fun a ha => .inl ⟨rfl, fun w1 h1 => hrun a w1 (h1.st ha)⟩) k
theorem aq_ixo {α : Type} {a : Option Addr} {m cap : Nat} {t : TypeId} {s ix : Operand} {kd : IntKind} {iv : Int} {e : TypeId} {id size : Nat} (i j : Nat) (hi : ops[i]? = some { dst := some d, op := .indexAddr t s ix, type := ty, pos, after, guard := none }) (hs : Region.noSelect ops = true) (hf : Region.free .any ops listed i = true) (hr : (Region.ready .any ops listed).contains i = true)
    (hm : (j, Hj) ∈ Ss) (hw : (Region.waitsFor .any ops j i || Nat.ble ops.size j) = true) (hn : (Ss.map (·.1)).contains i = false) (hd : Nat.blt d N.n = true)
    (E : Enc α) (xs : List α) (h1 : ev al s = some (.slice a m cap)) (hH : look Hj id = some (.row a m cap (E.enc xs) e size)) (hz : size = E.size) (h2 : ev al ix = some (.int kd iv)) (hT : Slc P t E.size) (h0 : 0 ≤ iv ∧ iv < m) (hlen : xs.length = m) 
    (k : ∀ x, xs[iv.toNat]? = some x → AQ P N B w0 ops Q Ss n (listed.setIfInBounds i true) ((d, .pointer (a.map (·.add (iv.toNat * E.size)))) :: al) H) : AQ P N B w0 ops Q Ss (n + 1) listed al H := by
  exact aq_r i j hi hs hf hr hm hw hn hd (r_ixo E xs h1 hH hz h2 hT h0) (k (xs[iv.toNat]'(by omega)) (by simp))
end
/-- One that stands alone, or one of several that may come up: it is carried out, and the stages are shown anew. -/
theorem aq_op {i : Nat} {o : Oper} (ho : ops[i]? = some o) (hsh : Shut ops (listed.setIfInBounds i true))
    (h : ∀ K, (∀ al' H', Holds (listed.setIfInBounds i true) H' Ss → AQ P N B w0 ops Q Ss n (listed.setIfInBounds i true) al' H' → KP N B w0 K al' H') → OL P N B w0 ops.toList [o] (Exit.then K (NoPanic Q)) al H) (a : Act) (w : World) (hst : St N B w0 al H a w) :
    wpOp P ops (NoPanic Q) i (fun a' w' => Stg N B w0 Ss (listed.setIfInBounds i true) w' ∧ AnyS P ops (NoPanic Q) N B w0 Ss n (listed.setIfInBounds i true) a' w') a w := by
  have h1 := h (fun a' w' => Stg N B w0 Ss (listed.setIfInBounds i true) w' ∧ AnyS P ops (NoPanic Q) N B w0 Ss n (listed.setIfInBounds i true) a' w')
    (fun al' H' hh hk a' w' hst' => ⟨Holds.stg hst' hh, hk hsh a' w' hst' (Holds.stg hst' hh)⟩) a w hst
  unfold wpOp
  rw [ho]
  simp only [Array.toArray_toList] at h1
  unfold wpList at h1
  dsimp only at h1 ⊢
  split
  · rename_i hw
    rw [if_pos hw] at h1
    rcases h1 with h1 | ⟨h1, h2⟩
    · refine .inl ?_
      have h2 := Oper.wp_mono (Q := Exit.then _ (NoPanic Q)) (fun a w (h : wpList P ops (Exit.then _ (NoPanic Q)) [] a w) => (h : Exit.then _ (NoPanic Q) .normal a w)) h1
      unfold Oper.wp at h2 ⊢
      generalize (execOp a.eval o).run P w = r at *
      cases r with
      | ok n w' => cases n <;> exact h2
      | halt x w' => cases x <;> exact h2
    · exact .inr ⟨h1, h2⟩
  · rename_i hw
    rw [if_neg hw] at h1
    exact h1
abbrev Next (P : Program) (N : Fr) (B : Nat) (w0 : World) (ops : Array Oper) (Q : Exit → Act → World → Prop) (Ss : List (Nat × HL)) (n : Nat) (listed : Array Bool) (al : AL) (H : HL) (i : Nat) (o : Oper) : Prop :=
  ∀ K, (∀ al' H', Holds (listed.setIfInBounds i true) H' Ss → AQ P N B w0 ops Q Ss n (listed.setIfInBounds i true) al' H' → KP N B w0 K al' H') → OL P N B w0 ops.toList [o] (Exit.then K (NoPanic Q)) al H
theorem aq_one {i : Nat} {o : Oper} (hr : Region.ready .any ops listed = [i]) (ho : ops[i]? = some o) (h : Next P N B w0 ops Q Ss n listed al H i o) : AQ P N B w0 ops Q Ss (n + 1) listed al H := by
  intro hsh a w hst hS
  refine ⟨fun h0 => (by rw [hr] at h0; cases h0), fun j hj => ?_⟩
  have hj' := hj
  rw [hr] at hj'
  have : j = i := by simpa using hj'
  subst this
  exact aq_op ho (hsh.set hj) h a w hst
theorem aq_two {i j : Nat} {o o' : Oper} (hr : Region.ready .any ops listed = [i, j]) (ho : ops[i]? = some o) (ho' : ops[j]? = some o')
    (h : Next P N B w0 ops Q Ss n listed al H i o) (h' : Next P N B w0 ops Q Ss n listed al H j o') : AQ P N B w0 ops Q Ss (n + 1) listed al H := by
  intro hsh a w hst hS
  refine ⟨fun h0 => (by rw [hr] at h0; cases h0), fun k hk => ?_⟩
  have hk' := hk
  rw [hr] at hk'
  rcases (by simpa using hk' : k = i ∨ k = j) with rfl | rfl
  · exact aq_op ho (hsh.set hk) h a w hst
  · exact aq_op ho' (hsh.set hk) h' a w hst
end

/-! #### what a call leaves -/
theorem Ent.ok_mono {B C : Nat} {w : World} {e : Ent} (h : e.ok C w) (hBC : B ≤ C) : e.ok B w := by
  cases e with
  | blk b cl T => exact ⟨Nat.le_trans hBC h.1, h.2⟩
  | row a n cap xs e size => exact ownsRow_mono h hBC
  | mp b es => exact ⟨Nat.le_trans hBC h.1, h.2⟩
  | ob b f => exact ⟨Nat.le_trans hBC h.1, h.2⟩
  | gone => trivial
/-- New blocks of a call, beside those that were. -/
theorem Sat.more {B : Nat} {w w' : World} {H H' : HL} (hs : Sat B w H) (hB : B ≤ w.heap.size) (hb : ∀ k, k < w.heap.size → w'.heap[k]? = w.heap[k]?) (h' : Sat w.heap.size w' H') : Sat B w' (H' ++ H) := by
  have hl : ∀ i, look (H' ++ H) i = (match look H' i with | some v => some v | none => look H i) := fun i => by rw [look_append]; cases look H' i <;> rfl
  refine ⟨fun i e he => ?_, fun i j e f hij hi hj b hbe hbf => ?_⟩
  · rw [hl] at he
    cases h1 : look H' i with
    | some v => rw [h1] at he; cases he; exact Ent.ok_mono (h'.ok i e h1) hB
    | none => rw [h1] at he; exact Ent.ok_same (hs.ok i e he) fun b hbb => hb b (Ent.own_lt (hs.ok i e he) hbb).2
  · rw [hl] at hi hj
    cases h1 : look H' i with
    | some v =>
      rw [h1] at hi; cases hi
      have b1 := (Ent.own_lt (h'.ok i e h1) hbe).1
      cases h2 : look H' j with
      | some u => rw [h2] at hj; cases hj; exact h'.apart i j e f hij h1 h2 b hbe hbf
      | none => rw [h2] at hj; have := (Ent.own_lt (hs.ok j f hj) hbf).2; omega
    | none =>
      rw [h1] at hi
      have b1 := (Ent.own_lt (hs.ok i e hi) hbe).2
      cases h2 : look H' j with
      | some u => rw [h2] at hj; cases hj; have := (Ent.own_lt (h'.ok j f h2) hbf).1; omega
      | none => rw [h2] at hj; exact hs.apart i j e f hij hi hj b hbe hbf
/-- One entry, two entries, under other numbers. -/
theorem Sat.one {B : Nat} {w : World} {H : HL} (h : Sat B w H) (i k : Nat) {e f : Ent} (hi : look H i = some f) (he : e.le f) : Sat B w [(k, e)] := by
  refine ⟨fun j g hj => ?_, fun j l g g' hjl hj hl => ?_⟩
  · by_cases hk : k = j
    · subst hk; rw [look_cons_eq] at hj; cases hj; exact Ent.le.ok he (h.ok i f hi)
    · rw [look_cons_ne _ _ hk] at hj; simp [look] at hj
  · by_cases hk : k = j
    · subst hk; rw [look_cons_ne _ _ hjl] at hl; simp [look] at hl
    · rw [look_cons_ne _ _ hk] at hj; simp [look] at hj
theorem Sat.two {B : Nat} {w : World} {H : HL} (h : Sat B w H) (i j k l : Nat) {e f e' f' : Ent} (hij : i ≠ j) (hi : look H i = some f) (hj : look H j = some f') (he : e.le f) (he' : e'.le f') : Sat B w [(k, e), (l, e')] :=
  (h.one j l hj he').set2 k (Ent.le.ok he (h.ok i f hi)) (fun _ _ _ _ _ _ => rfl) (fun m g hm hg b hb hgb => by
    by_cases hl : l = m
    · subst hl; rw [look_cons_eq] at hg; cases hg
      exact h.apart i j f f' hij hi hj b (Ent.le.own he hb) (Ent.le.own he' hgb)
    · rw [look_cons_ne _ _ hl] at hg; simp [look] at hg)
section
variable {P : Program} {N : Fr} {B : Nat} {w0 : World} {Q : Exit → Act → World → Prop} {al : AL} {H H' : HL} {ops rest : List Oper}
/-- A call that leaves new blocks of its own. -/
theorem After.more {e : Ending} {w w' : World} {v : Value} {d : Nat} (he : e = .returned v) (hw : Below B w0 w) (hs : Sat B w H) (hb : B ≤ w.heap.size) (hbl : Below w.heap.size w w') (h' : Sat w.heap.size w' H')
    (k : OL P N B w0 ops rest Q ((d, v) :: al) (H' ++ H)) : After P N B w0 w ops rest Q al (some d) e w' :=
  ⟨v, _, he, hw.trans (hbl.mono hb), hs.more hb (fun k hk => hbl.block k hk) h', Nat.le_trans hb hbl.size, Kd.of_below hbl, k⟩
/-- A call that works in the caller's blocks: all that is known behind it is H'. -/
theorem After.sat {e : Ending} {w w' : World} {v : Value} {d : Nat} (he : e = .returned v) (hw : Below B w0 w) (hbl : Below B w w') (h' : Sat B w' H') (hB : B ≤ w'.heap.size) (hkd : Kd N.c w w')
    (k : OL P N B w0 ops rest Q ((d, v) :: al) H') : After P N B w0 w ops rest Q al (some d) e w' :=
  ⟨v, _, he, hw.trans hbl, h', hB, hkd, k⟩
end

/-! #### a part of a slice that is only read -/
section
variable {P : Program} {N : Fr} {B : Nat} {w0 : World} {Q : Exit → Act → World → Prop} {al : AL} {H : HL} {ops rest tail : List Oper} {d : Nat} {ty : TypeId} {pos : String} {after : Array Edge} {α : Type} {E : Enc α} {a : Option Addr} {n cap : Nat} {xs : List α}
/-- A bound, or none. -/
def evo (al : AL) : Option Operand → Option (Option Int)
  | none => some none
  | some x => match ev al x with | some (.int .i64 i) => some (some i) | _ => none
theorem evo_eval {a : Act} (h : Regs N al a) {x : Option Operand} {i : Option Int} (hx : evo al x = some i) : x.map a.eval = i.map (Value.int .i64) := by
  cases x with
  | none => simp [evo] at hx; subst hx; rfl
  | some o =>
    unfold evo at hx
    dsimp only at hx
    split at hx
    · rename_i j hj; cases hx; simp [h.eval hj]
    · cases hx
theorem r_sl {s : Operand} {lo hi : Option Operand} {l h : Option Int} {t : TypeId} {size : Nat} (hs : ev al s = some (.slice a n cap)) (hlo : evo al lo = some l) (hhi : evo al hi = some h) (hT : Slc P t size)
    (h0 : 0 ≤ l.getD 0 ∧ l.getD 0 ≤ h.getD n ∧ h.getD n ≤ cap) (hc : n ≤ cap) : Runs P N B w0 (.slice t s lo hi none) ty al H (sliced a (l.getD 0).toNat (h.getD n).toNat cap size) := fun x w hst => by
  obtain ⟨e, hu, hz⟩ := hT
  have hu' : P.underlying t = some (.slice (P.elem t)) := by rw [hu, show P.elem t = e by simp [Program.elem, hu]]
  have hz' : (sizeOf (P.elem t)).run P w = .ok size w := by rw [show P.elem t = e by simp [Program.elem, hu]]; exact run_sizeOf hz w
  have e1 := evo_eval hst.regs hlo
  have e2 := evo_eval hst.regs hhi
  simp only [execOp, hst.regs.eval hs, e1, e2, Option.map_none, Sem.run_bind, run_sliceAt_slice w t _ _ _ _ hu']
  have h1 := run_slice_any w t a n cap hu' (l.map (Value.int .i64)) (h.map (Value.int .i64)) none
  rw [h1]
  have hb : (Instr.sliceBounds true n cap (l.map (Value.int .i64)) (h.map (Value.int .i64)) none).run P w = .ok ((l.getD 0).toNat, (h.getD n).toNat, cap) w := by
    cases l <;> cases h <;> simp [Instr.sliceBounds, run_sliceBound_if] at h0 ⊢ <;> (try simp [h0]) <;> (try omega) <;> (try (rw [if_pos (by omega), if_pos (by omega)]))
  rw [hb]
  simp [hz', Result.andThen]
theorem Rd.part {C : Nat} {w : World} {l h : Nat} (hl : Rd E C w a n cap xs) (h1 : l ≤ h) (h2 : h ≤ n) : ∃ a' c', sliced a l h cap E.size = .slice a' (h - l) c' ∧ Rd E C w a' (h - l) c' ((xs.drop l).take (h - l)) := by
  have hlen := hl.len
  have hroom := hl.room
  refine ⟨_, _, rfl, by simp; omega, by omega, ⟨by omega, by omega⟩, fun i x hx => ?_⟩
  have hi : i < h - l := by
    have := (List.getElem?_eq_some_iff.1 hx).1
    simp at this; omega
  rw [List.getElem?_take, if_pos hi, List.getElem?_drop] at hx
  obtain ⟨b, off, rfl, hb, hc⟩ := hl.cell (l + i) x hx
  rw [if_neg (by omega)]
  refine ⟨b, off + l * E.size, by simp [add_none], hb, fun j u hu => ?_⟩
  have := hc j u hu
  rw [show off + l * E.size + i * E.size + j = off + (l + i) * E.size + j by rw [Nat.add_mul]; omega]
  exact this
end

/-! #### make -/
end Go.Proofs.Ytafkojlccknicaa.Hx

/-
  Loops over functions: what an iterator promises, and the loop's rule.
-/


namespace Go.Proofs.Ytafkojlccknicaa.Hx
open Go Go.RowKit
set_option linter.unusedVariables false
set_option linter.unusedSimpArgs false
set_option linter.unusedSectionVars false

/-- What yield promises an iterator: J between two rounds; Jx when a round has said that no more is wanted. -/
def YieldsOver {α : Type} (P : Program) (l : Nat) (encs : α → List Value) (zs : List α) (J : Nat → World → Prop) (Jx : World → Prop) : Prop :=
  ∀ k x W, zs[k]? = some x → J k W → YieldAt Fence.wide 0 P l (encs x).toArray W fun e W' => (e = .returned (.bool true) ∧ J (k + 1) W') ∨ (e = .returned (.bool false) ∧ Jx W')
/-- An iterator over zs, that reads what Rq says. -/
def Iter {α : Type} (P : Program) (gf : FuncId) (lb : List Value) (encs : α → List Value) (zs : List α) (Rq : World → Prop) : Prop :=
  ∀ (l : Nat) (J : Nat → World → Prop) (Jx : World → Prop) (W : World), (∀ k W, J k W → Rq W) → (∀ k W W', J k W → Below W.heap.size W W' → J k W') → (∀ W W', Jx W → Below W.heap.size W W' → Jx W') →
    YieldsOver P l encs zs J Jx → J 0 W → CallsIn Fence.wide 0 P gf ([Value.func (.yield l) #[] #[]] ++ lb).toArray W fun e W' => (∃ v, e = .returned v) ∧ (J zs.length W' ∨ Jx W')

def alp : List Tmp → List Value → AL → AL
  | p :: ps, v :: vs, al => alp ps vs ((p, v) :: al)
  | _, _, al => al
section
variable {P : Program} {B : Nat} {w0 : World} {Q : Exit → Act → World → Prop} {al : AL} {H : HL}
end
end Go.Proofs.Ytafkojlccknicaa.Hx

/-
  More rules: strings; calls of yield, in an iterator.
-/





namespace Go.Proofs.Ytafkojlccknicaa.Hx
open Go Go.RowKit
set_option linter.unusedVariables false
set_option linter.unusedSimpArgs false
set_option linter.unusedSectionVars false
section
variable {P : Program} {N : Fr} {B : Nat} {w0 : World} {Q : Exit → Act → World → Prop} {al : AL} {H : HL} {ty : TypeId}
/-- The byte at a place. -/
def byteAt (s : ByteArray) (k : Nat) : Int := match s[k]? with | some b => b.toNat | none => 0
theorem r_sidx {x i : Operand} {t : TypeId} {kd : IntKind} {s : ByteArray} {iv : Int} (hx : ev al x = some (.string s)) (hi : ev al i = some (.int kd iv)) (hT : Str P t) (h0 : 0 ≤ iv ∧ iv < s.size) :
    Runs P N B w0 (.index t x i) ty al H (.int .u8 (byteAt s iv.toNat)) := fun a w hst => by
  have hlt : iv.toNat < s.size := by omega
  have hs : s[iv.toNat]? = some (s[iv.toNat]'hlt) := getElem?_pos s iv.toNat hlt
  simp only [execOp, hst.regs.eval hx, hst.regs.eval hi, Instr.index, Sem.run_bind, run_underlying hT, Result.andThen_ok, asIntOf, Sem.run_pure, if_pos h0.1, hs, byteAt]
def sLt (a b : ByteArray) : Bool := Op.bytesLess a.toList b.toList
def sEq (a b : ByteArray) : Bool := a.toList == b.toList
section
variable {x y : Operand} {t t' : TypeId} {a b : ByteArray}
theorem r_seql (hx : ev al x = some (.string a)) (hy : ev al y = some (.string b)) : Runs P N B w0 (.binOp .eql t x y t') ty al H (.bool (sEq a b)) := fun s w hst => by
  simp [execOp, hst.regs.eval hx, hst.regs.eval hy, eqGuard_at_string, binOp_string_eql, sEq]
theorem r_sneq (hx : ev al x = some (.string a)) (hy : ev al y = some (.string b)) : Runs P N B w0 (.binOp .neq t x y t') ty al H (.bool (!sEq a b)) := fun s w hst => by
  simp [execOp, hst.regs.eval hx, hst.regs.eval hy, eqGuard_at_string, binOp_string_neq, sEq]
theorem r_slss (hx : ev al x = some (.string a)) (hy : ev al y = some (.string b)) : Runs P N B w0 (.binOp .lss t x y t') ty al H (.bool (sLt a b)) := fun s w hst => by
  simp [execOp, hst.regs.eval hx, hst.regs.eval hy, eqGuard_at_string, binOp_string_lss, sLt]
theorem r_sgtr (hx : ev al x = some (.string a)) (hy : ev al y = some (.string b)) : Runs P N B w0 (.binOp .gtr t x y t') ty al H (.bool (!(sLt a b || sEq a b))) := fun s w hst => by
  simp [execOp, hst.regs.eval hx, hst.regs.eval hy, eqGuard_at_string, binOp_string_gtr, sLt, sEq]
end

/-! #### yield -/
/-- Operations of an iterator, yield among them. -/
def OLI (P : Program) (N : Fr) (B : Nat) (w0 : World) (ops l : List Oper) (Q : Exit → Act → World → Prop) (al : AL) (H : HL) : Prop := ∀ a w, St N B w0 al H a w → wpListIn Fence.wide 1 P ops.toArray Q l a w
variable {ops rest tail : List Oper} {d : Nat} {op : Op} {pos : String} {after : Array Edge} {v : Value}
/-- The head of a region of an iterator: operations that only read; the tail in its order. -/
def SLI (P : Program) (N : Fr) (B : Nat) (w0 : World) (ops l tail : List Oper) (Q : Exit → Act → World → Prop) (al : AL) (H : HL) : Prop :=
  ∀ a w, St N B w0 al H a w → wpStill P ops.toArray w (fun a' => wpListIn Fence.wide 1 P ops.toArray Q tail a' w) l a
/-- The end of an iterator. -/
def EndsI (P : Program) (N : Fr) (R : World → Prop) (Q : Exit → Act → World → Prop) : Prop :=
  ∀ B w0 e al H, (e = .ret ∨ e = .normal) → (∀ w, Below B w0 w → Sat B w H → B ≤ w.heap.size → R w) → QP N B w0 Q e al H
theorem EndsI.fall {R : World → Prop} {Q0 : Exit → Act → World → Prop} (h : EndsI P N R Q0) (hQ : ∀ a w, Q0 .normal a w → Q .normal a w) (hR : ∀ w, Below B w0 w → Sat B w H → B ≤ w.heap.size → R w) : QP N B w0 Q .normal al H := QP.of (h _ _ _ _ _ (.inr rfl) hR) hQ
theorem EndsI.ret {R : World → Prop} {Q0 : Exit → Act → World → Prop} (h : EndsI P N R Q0) (hQ : ∀ a w, Q0 .ret a w → Q .ret a w) (hR : ∀ w, Below B w0 w → Sat B w H → B ≤ w.heap.size → R w) : WP P N B w0 .ret Q al H := wp_ret' (QP.of (h _ _ _ _ _ (.inl rfl) hR) hQ)
end
end Go.Proofs.Ytafkojlccknicaa.Hx

/-
  More rules: an append of a whole slice to none.
-/


namespace Go.Proofs.Ytafkojlccknicaa.Hx
open Go Go.RowKit
set_option linter.unusedVariables false
set_option linter.unusedSimpArgs false
section
variable {P : Program} {N : Fr} {B : Nat} {w0 : World} {Q : Exit → Act → World → Prop} {al : AL} {H : HL} {ops rest : List Oper} {d : Nat} {ty : TypeId} {pos : String} {after : Array Edge}
/-- A loop, its rounds one by one. -/
theorem wp_seq_cutM {x y : Code} {σ : Type} (I : σ → Prop) (M : σ → AL) (L : AL) (G : σ → HL) (G0 : HL) (hL : Sub L al) (hh0 : SubH G0 H)
    (hx : ∀ K : Act → World → Prop, (∀ s al' H', I s → Sub (M s) al' → Sub L al' → SubH (G s) H' → SubH G0 H' → KP N B w0 K al' H') → WP P N B w0 x (Exit.then K Q) al H)
    (hy : ∀ s, I s → WP P N B w0 y Q (M s ++ L) (G s ++ G0)) : WP P N B w0 (.seq x y) Q al H :=
  wp_seq_cut I (fun s => M s ++ L) (fun s => G s ++ G0) (fun K hK => hx K fun s al' H' h1 h2 h3 h4 h5 => (hK s h1).sub (sub_app h2 h3) (subH_app h4 h5)) hy
theorem look_shadow {β : Type} (id : Nat) (x y : β) (H : List (Nat × β)) (j : Nat) : look ((id, x) :: (id, y) :: H) j = look ((id, x) :: H) j := by
  by_cases h : id = j
  · subst h; rw [look_cons_eq, look_cons_eq]
  · rw [look_cons_ne _ _ h, look_cons_ne _ _ h, look_cons_ne _ _ h]
theorem Sat.shadow {w : World} {id : Nat} {x y : Ent} (h : Sat B w ((id, x) :: (id, y) :: H)) : Sat B w ((id, x) :: H) :=
  ⟨fun i e he => h.ok i e (by rw [look_shadow]; exact he), fun i j e f hij he hf => h.apart i j e f hij (by rw [look_shadow]; exact he) (by rw [look_shadow]; exact hf)⟩
/-- What H' tells, H tells under other numbers. -/
def Keyed (H : HL) (ks : List (Nat × Nat)) (H' : HL) : Prop := ∀ j e, look H' j = some e → ∃ i, (i, j) ∈ ks ∧ look H i = some e
theorem Sat.keys {w : World} {H' : HL} (h : Sat B w H) (ks : List (Nat × Nat)) (hk : Keyed H ks H') (hd : ∀ p ∈ ks, ∀ q ∈ ks, p.1 = q.1 → p.2 = q.2) : Sat B w H' :=
  ⟨fun j e he => by obtain ⟨i, _, h2⟩ := hk j e he; exact h.ok i e h2, fun j j' e f hj he hf => by
    obtain ⟨i, a1, a2⟩ := hk j e he
    obtain ⟨i', b1, b2⟩ := hk j' f hf
    exact h.apart i i' e f (fun hii => hj (hd _ a1 _ b1 hii)) a2 b2⟩
end
end Go.Proofs.Ytafkojlccknicaa.Hx

/-
  Between the library's contracts of sorting, which speak of worlds, and rows of the caller's.
-/


namespace Go.Proofs.Ytafkojlccknicaa.Hx
open Go Go.RowKit
set_option linter.unusedVariables false
set_option linter.unusedSimpArgs false
section
variable {w : World} {B g n cap size : Nat} {e : TypeId} {vs vs' : List Value}
theorem row_cells (h : w.ownsRow B e size (.slice (some ⟨g, 0, none⟩) n cap) n vs) : ∃ cur : Array Value, w.heap[g]? = some (.cells cur e (0, 0)) ∧ vs.length ≤ cur.size ∧ (∀ (j : Nat) (u : Value), vs[j]? = some u → cur[j]? = some u) := by
  obtain ⟨hl, h | ⟨g', cap', cur, hv, hb, hg, h1, h2, h3, h4⟩⟩ := h
  · cases h.1
  · cases hv
    have h5 := Nat.mul_le_mul_right size h1
    refine ⟨cur, hg, by omega, fun j u hj => ?_⟩
    rw [← h4, List.getElem?_take] at hj
    split at hj
    · simpa using hj
    · cases hj
theorem row_holds (h : w.ownsRow B e size (.slice (some ⟨g, 0, none⟩) n cap) n vs) : Go.Sort.Holds id w g 0 vs.toArray := by
  obtain ⟨cur, hg, hs, hc⟩ := row_cells h
  intro j hj
  have hj' : j < vs.length := by simpa using hj
  have h6 := hc j _ (List.getElem?_eq_getElem hj')
  constructor
  · simp [World.cell?, hg, h6, hj']
  · simp [World.frozen?, hg]
/-- The world behind the sort: the row holds other values, draws, and new blocks. -/
def putW (w : World) (g nd : Nat) (vs : List Value) (os : Array Obj) : World := Go.Sort.grow (Go.Sort.putRow id (Go.Sort.ahead w nd) g 0 vs.toArray) os
theorem putW_size (w : World) (g nd : Nat) (vs : List Value) (os : Array Obj) : w.heap.size ≤ (putW w g nd vs os).heap.size := by
  simp [putW, Go.Sort.grow, Go.Sort.putRow, Go.Sort.mapBlock, Go.Sort.ahead]
theorem putW_at {g nd : Nat} {vs : List Value} {os : Array Obj} {cur : Array Value} {fr : Nat × Nat} (hg : w.heap[g]? = some (.cells cur e fr)) : (putW w g nd vs os).heap[g]? = some (.cells (Go.Sort.putCells id 0 vs.toArray cur) e fr) := by
  have hlt := (Array.getElem?_eq_some_iff.1 hg).1
  simp only [putW, Go.Sort.grow, Go.Sort.putRow, Go.Sort.mapBlock, Go.Sort.ahead]
  rw [Array.getElem?_append, if_pos (by simpa using hlt), Array.getElem?_modify, if_pos rfl, hg]
  rfl
theorem putW_other {g nd k : Nat} {vs : List Value} {os : Array Obj} (hk : k < w.heap.size) (hn : k ≠ g) : (putW w g nd vs os).heap[k]? = w.heap[k]? := by
  simp only [putW, Go.Sort.grow, Go.Sort.putRow, Go.Sort.mapBlock, Go.Sort.ahead]
  rw [Array.getElem?_append, if_pos (by simpa using hk), Array.getElem?_modify, if_neg (fun h => hn h.symm)]
theorem putW_row {nd : Nat} {os : Array Obj} (h : w.ownsRow B e size (.slice (some ⟨g, 0, none⟩) n cap) n vs) (hl : vs'.length = vs.length) : (putW w g nd vs' os).ownsRow B e size (.slice (some ⟨g, 0, none⟩) n cap) n vs' := by
  obtain ⟨h0, h | ⟨g', cap', cur, hv, hb, hg, h1, h2, h3, h4⟩⟩ := h
  · cases h.1
  · cases hv
    refine ⟨by rw [hl]; exact h0, .inr ⟨_, _, _, rfl, hb, putW_at hg, h1, h2, by simpa [Go.Sort.putCells] using h3, ?_⟩⟩
    have h5 := Nat.mul_le_mul_right size h1
    apply List.ext_getElem?
    intro j
    rw [List.getElem?_take]
    split
    · rename_i hj
      have hjc : j < cur.size := by omega
      have hjv : j < vs'.length := by omega
      simp [Go.Sort.putCells, hjc, hjv]
    · rename_i hj
      rw [List.getElem?_eq_none (by omega)]
end
theorem Sat.sorted {w : World} {B id g n cap size nd : Nat} {e : TypeId} {vs vs' : List Value} {H : HL} {os : Array Obj} (hs : Sat B w H) (hB : B ≤ w.heap.size) (hr : look H id = some (.row (some ⟨g, 0, none⟩) n cap vs e size)) (hl : vs'.length = vs.length) :
    Below B w (putW w g nd vs' os) ∧ Sat B (putW w g nd vs' os) ((id, .row (some ⟨g, 0, none⟩) n cap vs' e size) :: H) ∧ B ≤ (putW w g nd vs' os).heap.size ∧ Kd (fun _ => False) w (putW w g nd vs' os) := by
  have hok := hs.ok id _ hr
  have hlt := Ent.own_lt hok (b := g) rfl
  obtain ⟨cur, hg, _, _⟩ := row_cells hok
  refine ⟨⟨rfl, rfl, rfl, putW_size _ _ _ _ _, fun k hk => putW_other (by omega) (by omega)⟩, ?_, Nat.le_trans hB (putW_size _ _ _ _ _), ?_⟩
  · refine hs.turn hr (e' := .row (some ⟨g, 0, none⟩) n cap vs' e size) (putW_row hok hl) (fun k hk hne => putW_other hk fun h => hne (by rw [h]; rfl)) (fun b hb => .inl hb)
  · intro k o hk hc _
    by_cases h : k = g
    · subst h; rw [hg] at hk; cases hk; cases hc
    · rw [putW_other (Array.getElem?_eq_some_iff.1 hk).1 h]; exact hk
theorem putRow_id {α : Type} [Inhabited α] (enc : α → Value) (w : World) (g : Nat) (d : Array α) : Go.Sort.putRow enc w g 0 d = Go.Sort.putRow id w g 0 (d.map enc) := by
  unfold Go.Sort.putRow Go.Sort.mapBlock
  congr 2
  funext o
  cases o <;> simp only [Go.Sort.onCells]
  congr 1
  unfold Go.Sort.putCells
  apply Array.ext (by simp)
  intro i h1 h2
  simp only [Array.getElem_mapIdx, Array.size_map, Nat.zero_le, true_and, Nat.zero_add, Nat.sub_zero]
  split
  · rename_i h; simp [h]
  · rfl
theorem holds_id {α : Type} [Inhabited α] {enc : α → Value} {w : World} {g : Nat} {d : Array α} (h : Go.Sort.Holds id w g 0 (d.map enc)) : Go.Sort.Holds enc w g 0 d := by
  intro j hj
  have := h j (by simpa using hj)
  simpa [hj] using this
end Go.Proofs.Ytafkojlccknicaa.Hx

/-
  Plain facts on integers, of no program.
-/
namespace Go.Proofs.Ytafkojlccknicaa
end Go.Proofs.Ytafkojlccknicaa

/-
  Plain facts on lists, of no program.
-/

namespace Go.Proofs.Ytafkojlccknicaa
def inB (n a b : Int) : Bool := decide (a ≤ n) && decide (n ≤ b)
theorem inB_iff {n a b : Int} : inB n a b = true ↔ a ≤ n ∧ n ≤ b := by simp [inB]
theorem inB_not {n a b : Int} : inB n a b = false ↔ n < a ∨ b < n := by rw [← Bool.not_eq_true, inB_iff]; omega

theorem take_succ_get {α : Type} {xs : List α} {k : Nat} {x : α} (h : xs[k]? = some x) : xs.take (k + 1) = xs.take k ++ [x] := by
  rw [List.take_add_one, h]; rfl
theorem all_take_succ {xs : List Int} {p : Int → Bool} {k : Nat} {x : Int} (h : xs[k]? = some x) (ha : (xs.take k).all p = true) (hx : p x = true) : (xs.take (k + 1)).all p = true := by
  rw [take_succ_get h, List.all_append, ha]; simp [hx]
theorem all_false {xs : List Int} {p : Int → Bool} {k : Nat} {x : Int} (h : xs[k]? = some x) (hx : p x = false) : xs.all p = false := by
  rw [List.all_eq_false]
  exact ⟨x, List.mem_of_getElem? h, by simp [hx]⟩
theorem drop_cons_get {α : Type} {xs : List α} {k : Nat} {x : α} (h : xs[k]? = some x) : xs.drop k = x :: xs.drop (k + 1) := by
  obtain ⟨hk, rfl⟩ := List.getElem?_eq_some_iff.1 h
  exact List.drop_eq_getElem_cons hk
/-- The element ahead of place k. -/
def ahead {α : Type} (xs : List α) (k : Nat) : Option α := if k = 0 then none else xs[k - 1]?
theorem ahead_succ {α : Type} {xs : List α} {k : Nat} {x : α} (h : xs[k]? = some x) : ahead xs (k + 1) = some x := by simp [ahead, h]
theorem ahead_zero {α : Type} (xs : List α) : ahead xs 0 = none := rfl
theorem ahead_pos {α : Type} {xs : List α} {k : Nat} {x : α} (hk : 0 < k) (h : xs[k - 1]? = some x) : ahead xs k = some x := by unfold ahead; rw [if_neg (by omega), h]
theorem ahead_pred {α : Type} {xs : List α} {k : Nat} {x : α} (hk : (0 : Int) < (k : Int)) (h : xs[((k : Int) - 1).toNat]? = some x) : ahead xs k = some x := by
  have h1 : ((k : Int) - 1).toNat = k - 1 := by omega
  rw [h1] at h
  exact ahead_pos (by omega) h
/-- The sum of what f says. -/
def sI {α : Type} (f : α → Int) : List α → Int
  | [] => 0
  | x :: r => f x + sI f r
theorem sI_append {α : Type} (f : α → Int) : ∀ xs ys : List α, sI f (xs ++ ys) = sI f xs + sI f ys
  | [], ys => by simp [sI]
  | x :: r, ys => by simp only [List.cons_append, sI, sI_append f r ys]; omega
theorem sI_take {α : Type} (f : α → Int) {xs : List α} {k : Nat} {x : α} (h : xs[k]? = some x) : sI f (xs.take (k + 1)) = sI f (xs.take k) + f x := by
  rw [List.take_add_one, sI_append, h]; simp [sI]
theorem sI_bd {α : Type} (f : α → Int) (M : Int) (hM : 0 ≤ M) : ∀ xs : List α, (∀ x ∈ xs, 0 ≤ f x ∧ f x ≤ M) → 0 ≤ sI f xs ∧ sI f xs ≤ M * xs.length
  | [], _ => by simp [sI]
  | x :: r, h => by
    have h1 := h x (by simp)
    have h2 := sI_bd f M hM r (fun y hy => h y (by simp [hy]))
    have : M * ((x :: r).length : Int) = M * r.length + M := by simp only [List.length_cons]; rw [Int.natCast_add, Int.mul_add]; simp
    rw [this]; simp only [sI]; omega

/-! #### a list whose elements are good, and in order -/
def ordG {α : Type} (bad : α → α → Bool) (p : Option α) (x : α) : Bool := match p with | some y => bad y x | none => false
def chkG {α : Type} (good : α → Bool) (bad : α → α → Bool) : Option α → List α → Int
  | _, [] => 0
  | p, x :: r => if good x = false then 9 else if ordG bad p x = true then 10 else chkG good bad (some x) r
section
variable {α : Type} {good : α → Bool} {bad : α → α → Bool} {xs : List α} {k : Nat} {x y : α} {R : Int}
theorem chkG_cons (p : Option α) (x : α) (r : List α) : chkG good bad p (x :: r) = if good x = false then 9 else if ordG bad p x = true then 10 else chkG good bad (some x) r := rfl
theorem chkG_bad (hP : R = chkG good bad (ahead xs k) (xs.drop k)) (hx : xs[k]? = some x) (h : good x = false) : R = 9 := by rw [hP, drop_cons_get hx, chkG_cons, if_pos h]
theorem chkG_ord (hP : R = chkG good bad (ahead xs k) (xs.drop k)) (hx : xs[k]? = some x) (h : good x = true) (hk : (0 : Int) < (k : Int)) (hy : xs[((k : Int) - 1).toNat]? = some y) (ho : bad y x = true) : R = 10 := by
  rw [hP, drop_cons_get hx, chkG_cons, if_neg (by rw [h]; simp), ahead_pred hk hy, if_pos (show ordG bad (some y) x = true from ho)]
theorem chkG_next (hP : R = chkG good bad (ahead xs k) (xs.drop k)) (hx : xs[k]? = some x) (h : good x = true) (hk : (0 : Int) < (k : Int)) (hy : xs[((k : Int) - 1).toNat]? = some y) (ho : bad y x = false) : R = chkG good bad (ahead xs (k + 1)) (xs.drop (k + 1)) := by
  rw [hP, drop_cons_get hx, chkG_cons, if_neg (by rw [h]; simp), ahead_pred hk hy, if_neg (by rw [show ordG bad (some y) x = false from ho]; simp), ahead_succ hx]
theorem chkG_next0 (hP : R = chkG good bad (ahead xs k) (xs.drop k)) (hx : xs[k]? = some x) (h : good x = true) (hk : ¬(0 : Int) < (k : Int)) : R = chkG good bad (ahead xs (k + 1)) (xs.drop (k + 1)) := by
  have h0 : k = 0 := by omega
  subst h0
  rw [hP, drop_cons_get hx, chkG_cons, if_neg (by rw [h]; simp), ahead_zero, if_neg (by simp [ordG]), ahead_succ hx]
theorem chkG_end (hP : R = chkG good bad (ahead xs k) (xs.drop k)) (hk : xs.length ≤ k) : R = 0 := by rw [hP, List.drop_eq_nil_of_le hk]; rfl
theorem chkG_good : ∀ (xs : List α) (p : Option α), chkG good bad p xs = 0 → (∀ x ∈ xs, good x = true) ∧ (∀ y ∈ p, ∀ x ∈ xs.head?, bad y x = false) ∧ ∀ (i : Nat) (y x : α), xs[i]? = some y → xs[i + 1]? = some x → bad y x = false
  | [], _, _ => ⟨by simp, by simp, by simp⟩
  | x :: r, p, h => by
    rw [chkG_cons] at h
    by_cases h1 : good x = false
    · rw [if_pos h1] at h; omega
    · rw [if_neg h1] at h
      by_cases h2 : ordG bad p x = true
      · rw [if_pos h2] at h; omega
      · rw [if_neg h2] at h
        obtain ⟨g1, g2, g3⟩ := chkG_good r (some x) h
        refine ⟨fun z hz => ?_, fun y hy z hz => ?_, fun i y z hy hz => ?_⟩
        · rcases List.mem_cons.1 hz with rfl | hz
          · simpa using h1
          · exact g1 z hz
        · cases p with
          | none => simp at hy
          | some q =>
            simp at hy hz; subst hy; subst hz
            simpa [ordG] using h2
        · cases i with
          | zero =>
            simp at hy hz; subst hy
            exact g2 x rfl z (by simpa [List.head?_eq_getElem?] using hz)
          | succ i => exact g3 i y z (by simpa using hy) (by simpa using hz)
end
/-- Integers in a range that rise. -/
def risR (lo hi : Int) (xs : List Int) : Int := chkG (inB · lo hi) (fun y x => decide (x ≤ y)) none xs
theorem risR_start (lo hi : Int) (xs : List Int) : risR lo hi xs = chkG (inB · lo hi) (fun y x => decide (x ≤ y)) (ahead xs 0) (xs.drop 0) := rfl
def Rising (xs : List Int) : Prop := ∀ (i j : Nat) (x y : Int), i < j → xs[i]? = some x → xs[j]? = some y → x < y
theorem risR_ok {lo hi : Int} {xs : List Int} (h : risR lo hi xs = 0) : (∀ x ∈ xs, lo ≤ x ∧ x ≤ hi) ∧ Rising xs := by
  obtain ⟨h1, _, h3⟩ := chkG_good xs none h
  refine ⟨fun x hx => inB_iff.1 (h1 x hx), ?_⟩
  have key : ∀ (d i : Nat) (x y : Int), xs[i]? = some x → xs[i + d + 1]? = some y → x < y := by
    intro d
    induction d with
    | zero => intro i x y hx hy; have := h3 i x y hx hy; simp at this; omega
    | succ d ih =>
      intro i x y hx hy
      have hlt : i + d + 1 < xs.length := by have := (List.getElem?_eq_some_iff.1 hy).1; omega
      have hz : xs[i + d + 1]? = some (xs[i + d + 1]'hlt) := List.getElem?_eq_getElem hlt
      have a := ih i x _ hx hz
      have b := h3 (i + d + 1) _ y hz (by rw [show i + d + 1 + 1 = i + (d + 1) + 1 by omega]; exact hy)
      simp at b
      omega
  intro i j x y hij hx hy
  exact key (j - i - 1) i x y hx (by rw [show i + (j - i - 1) + 1 = j by omega]; exact hy)
/-- Where a number belongs: all ahead are less than it, all behind are not. -/
def Place (xs : List Int) (t : Int) (k : Nat) : Prop := k ≤ xs.length ∧ (k = 0 ∨ ∃ y, xs[k - 1]? = some y ∧ y < t) ∧ (k = xs.length ∨ ∃ y, xs[k]? = some y ∧ t ≤ y)
end Go.Proofs.Ytafkojlccknicaa

/-
  Activities as plain data, and what makes one right. No program stands here.
-/


namespace Go.Proofs.Ytafkojlccknicaa
open Hx
set_option linter.unusedVariables false
structure SmpR where
  at_ : Int
  x : Int
  y : Int
  z : Int
  pulse : Int
  power : Int
  steps : Int
structure LapR where
  from_ : Int
  to : Int
  name : ByteArray
/-- What is wrong with the first element with which something is wrong; f sees the element ahead, too. -/
def chkE {α : Type} (f : Option α → α → Int) : Option α → List α → Int
  | _, [] => 0
  | p, x :: r => if f p x ≠ 0 then f p x else chkE f (some x) r
section
variable {α : Type} {f : Option α → α → Int} {xs : List α} {k : Nat} {x : α} {p : Option α} {R c : Int}
theorem chkE_cons (p : Option α) (x : α) (r : List α) : chkE f p (x :: r) = if f p x ≠ 0 then f p x else chkE f (some x) r := rfl
end
def nameC (c : Int) : Bool := (decide (97 ≤ c) && decide (c ≤ 122)) || (decide (65 ≤ c) && decide (c ≤ 90)) || (decide (48 ≤ c) && decide (c ≤ 57)) || decide (c = 45) || decide (c = 95) || decide (c = 46)
theorem nameC_iff {c : Int} : nameC c = true ↔ ((97 ≤ c ∧ c ≤ 122) ∨ (65 ≤ c ∧ c ≤ 90) ∨ (48 ≤ c ∧ c ≤ 57) ∨ c = 45 ∨ c = 95 ∨ c = 46) := by
  unfold nameC
  simp only [Bool.or_eq_true, Bool.and_eq_true, decide_eq_true_eq]
  constructor <;> intro h <;> omega
theorem nameC_not {c : Int} : nameC c = false ↔ ¬((97 ≤ c ∧ c ≤ 122) ∨ (65 ≤ c ∧ c ≤ 90) ∨ (48 ≤ c ∧ c ≤ 57) ∨ c = 45 ∨ c = 95 ∨ c = 46) := by rw [← nameC_iff]; simp
theorem nn_f {c : Int} (h : (97 ≤ c ∧ c ≤ 122) ∨ (65 ≤ c ∧ c ≤ 90) ∨ (48 ≤ c ∧ c ≤ 57) ∨ c = 45 ∨ c = 95 ∨ c = 46) : false = !nameC c := by rw [nameC_iff.2 h]; rfl
theorem nn_d {c : Int} (h : ¬(97 ≤ c ∧ c ≤ 122) ∧ ¬(65 ≤ c ∧ c ≤ 90) ∧ ¬(48 ≤ c ∧ c ≤ 57) ∧ c ≠ 45 ∧ c ≠ 95) : decide (c ≠ 46) = !nameC c := by
  by_cases h1 : c = 46
  · rw [nameC_iff.2 (by omega), decide_eq_false (by omega)]; rfl
  · rw [nameC_not.2 (by omega), decide_eq_true h1]; rfl
theorem nn_e {c : Int} (h : ¬(97 ≤ c ∧ c ≤ 122) ∧ ¬(65 ≤ c ∧ c ≤ 90) ∧ ¬(48 ≤ c ∧ c ≤ 57) ∧ c ≠ 45 ∧ c ≠ 95) : (!decide (c = 46)) = !nameC c := by
  by_cases h1 : c = 46
  · rw [nameC_iff.2 (by omega), decide_eq_true h1]
  · rw [nameC_not.2 (by omega), decide_eq_false h1]
theorem up_to {P : Nat → Prop} {k : Nat} (hP : ∀ i, i < k → P i) (h : P k) : ∀ i, i < k + 1 → P i := fun i hi => by
  by_cases h1 : i < k
  · exact hP i h1
  · rw [show i = k by omega]; exact h
def bytesAll (p : Int → Bool) (s : ByteArray) : Bool := (List.range s.size).all fun i => p (byteAt s i)
theorem bytesAll_iff {p : Int → Bool} {s : ByteArray} : bytesAll p s = true ↔ ∀ i, i < s.size → p (byteAt s i) = true := by simp [bytesAll]
theorem bytesAll_not {p : Int → Bool} {s : ByteArray} {k : Nat} (hk : k < s.size) (h : p (byteAt s k) = false) : bytesAll p s = false := by
  cases hb : bytesAll p s with
  | false => rfl
  | true => rw [bytesAll_iff.1 hb k hk] at h; cases h
def nameB (s : ByteArray) : Bool := bytesAll nameC s && (decide (1 ≤ s.size) && decide (s.size ≤ 60))
def titleB (s : ByteArray) : Bool := bytesAll (fun c => inB c 32 126) s && decide (s.size ≤ 60)
def sLe (a b : ByteArray) : Bool := sLt a b || sEq a b
def smpIn (x : SmpR) : Bool := inB x.x (-100000000) 100000000 && inB x.y (-100000000) 100000000 && inB x.z (-100000) 100000 && (inB x.pulse (-1) 300 && inB x.power (-1) 3000 && inB x.steps (-1) 300)
def ordS : Option SmpR → SmpR → Bool
  | none, x => decide (x.at_ ≠ 0)
  | some y, x => decide (x.at_ ≤ y.at_)
def fS (st : Int) (p : Option SmpR) (x : SmpR) : Int := if ordS p x = true then 10 else if 1000000 < x.at_ ∨ 86399999999 < st + x.at_ ∨ smpIn x = false then 9 else 0
def ordL : Option LapR → LapR → Bool
  | none, _ => false
  | some y, x => decide (x.from_ < y.to)
def fL (sp : Int) (p : Option LapR) (x : LapR) : Int := if x.from_ < 0 ∨ x.to ≤ x.from_ ∨ sp < x.to then 9 else if ordL p x = true then 10 else if titleB x.name = false then 8 else 0
def ordT : Option ByteArray → ByteArray → Bool
  | none, _ => false
  | some y, x => sLe x y
def fT (p : Option ByteArray) (x : ByteArray) : Int := if nameB x = false then 8 else if ordT p x = true then 10 else 0
def spanL (ss : List SmpR) : Int := match ss[ss.length - 1]? with | some x => x.at_ | none => 0
/-- An activity's data. -/
structure ActD where
  name : ByteArray
  sport : Int
  start : Int
  ss : List SmpR
  ls : List LapR
  ts : List ByteArray
def chkA (a : ActD) : Int :=
  if nameB a.name = false then 8 else if inB a.sport 1 5 = false then 7 else if inB a.start 0 86399999999 = false then 9
  else if 20000 < a.ss.length ∨ 200 < a.ls.length ∨ 20 < a.ts.length then 3
  else if chkE (fS a.start) none a.ss ≠ 0 then chkE (fS a.start) none a.ss
  else if chkE (fL (spanL a.ss)) none a.ls ≠ 0 then chkE (fL (spanL a.ss)) none a.ls else chkE fT none a.ts
section
variable {a : ActD}
/-- The numbers of an activity are right. -/
def headA (a : ActD) : Prop := nameB a.name = true ∧ inB a.sport 1 5 = true ∧ inB a.start 0 86399999999 = true ∧ a.ss.length ≤ 20000 ∧ a.ls.length ≤ 200 ∧ a.ts.length ≤ 20
theorem chkA_head (h : headA a) : chkA a = if chkE (fS a.start) none a.ss ≠ 0 then chkE (fS a.start) none a.ss
  else if chkE (fL (spanL a.ss)) none a.ls ≠ 0 then chkE (fL (spanL a.ss)) none a.ls else chkE fT none a.ts := by
  obtain ⟨h1, h2, h3, h4, h5, h6⟩ := h
  unfold chkA; rw [if_neg (by rw [h1]; simp), if_neg (by rw [h2]; simp), if_neg (by rw [h3]; simp), if_neg (by omega)]
theorem chkA_t (h : headA a) (h2 : chkE (fS a.start) none a.ss = 0) (h3 : chkE (fL (spanL a.ss)) none a.ls = 0) : chkA a = chkE fT none a.ts := by rw [chkA_head h, if_neg (by omega), if_neg (by omega)]
end
/-- The samples of a right activity. -/
structure SmpOk (st : Int) (ss : List SmpR) : Prop where
  len : ss.length ≤ 20000
  first : ∀ x, ss[0]? = some x → x.at_ = 0
  rise : ∀ i x y, ss[i]? = some x → ss[i + 1]? = some y → x.at_ < y.at_
  bd : ∀ x ∈ ss, 0 ≤ x.at_ ∧ x.at_ ≤ 1000000 ∧ st + x.at_ ≤ 86399999999 ∧ (-100000000 ≤ x.x ∧ x.x ≤ 100000000) ∧ (-100000000 ≤ x.y ∧ x.y ≤ 100000000) ∧ (-100000 ≤ x.z ∧ x.z ≤ 100000) ∧ (-1 ≤ x.pulse ∧ x.pulse ≤ 300) ∧ (-1 ≤ x.power ∧ x.power ≤ 3000) ∧ (-1 ≤ x.steps ∧ x.steps ≤ 300)
/-- What is known of a right activity. -/
structure GoodA (a : ActD) : Prop where
  head : headA a
  s : chkE (fS a.start) none a.ss = 0
  l : chkE (fL (spanL a.ss)) none a.ls = 0
  t : chkE fT none a.ts = 0
theorem GoodA.chk {a : ActD} (h : GoodA a) : chkA a = 0 := by rw [chkA_t h.head h.s h.l, h.t]
end Go.Proofs.Ytafkojlccknicaa

/-
  How activities lie in memory.
-/


namespace Go.Proofs.Ytafkojlccknicaa
open Go Go.RowKit Hx
set_option linter.unusedVariables false
def encSmp : Enc SmpR := { size := 7, cells := fun x => [.int .i64 x.at_, .int .i64 x.x, .int .i64 x.y, .int .i64 x.z, .int .i64 x.pulse, .int .i64 x.power, .int .i64 x.steps], val := fun x => .agg #[.int .i64 x.at_, .int .i64 x.x, .int .i64 x.y, .int .i64 x.z, .int .i64 x.pulse, .int .i64 x.power, .int .i64 x.steps], len := fun _ => rfl, ones := fun _ u h => (by simp at h; rcases h with h | h | h | h | h | h | h <;> subst h <;> rfl), pos := by decide, vc := fun _ => rfl }
def mk_encSample (a b c d e f g : Int) : SmpR := ⟨a, b, c, d, e, f, g⟩
def encLap : Enc LapR := { size := 3, cells := fun x => [.int .i64 x.from_, .int .i64 x.to, .string x.name], val := fun x => .agg #[.int .i64 x.from_, .int .i64 x.to, .string x.name], len := fun _ => rfl, ones := fun _ u h => (by simp at h; rcases h with h | h | h <;> subst h <;> rfl), pos := by decide, vc := fun _ => rfl }
def mk_encLap (a b : Int) (c : ByteArray) : LapR := ⟨a, b, c⟩
def encStr : Enc ByteArray := { size := 1, cells := fun x => [.string x], val := fun x => .string x, len := fun _ => rfl, ones := fun _ u h => by simp at h; subst h; rfl, pos := by decide, vc := fun _ => rfl }
theorem ty9 : Ty Try.prog 9 encStr := .inl ⟨sc9, fun _ => rfl⟩
/-- An activity's value, and the lists that its slices read as. -/
structure ActV where
  name : ByteArray
  sport : Int
  start : Int
  sa : Option Addr
  sn : Nat
  sc : Nat
  la : Option Addr
  ln : Nat
  lc : Nat
  ta : Option Addr
  tn : Nat
  tc : Nat
  ss : List SmpR
  ls : List LapR
  ts : List ByteArray
def ActV.d (v : ActV) : ActD := ⟨v.name, v.sport, v.start, v.ss, v.ls, v.ts⟩
def maxS : Nat := 9223372036854775807
structure ActV.Ok (C : Nat) (w : World) (v : ActV) : Prop where
  s : Rd encSmp C w v.sa v.sn v.sc v.ss
  l : Rd encLap C w v.la v.ln v.lc v.ls
  t : Rd encStr C w v.ta v.tn v.tc v.ts
  nm : v.name.size ≤ 9223372036854775807
  lm : ∀ x ∈ v.ls, x.name.size ≤ 9223372036854775807
  tm : ∀ x ∈ v.ts, x.size ≤ 9223372036854775807
  lo : ∀ x ∈ v.ss, -9223372036854775808 ≤ x.at_ ∧ x.at_ ≤ 9223372036854775807
theorem ActV.Ok.at {B : Nat} {w0 w : World} {v : ActV} (h : v.Ok B w0) (hb : Below B w0 w) (hB : B ≤ w.heap.size) : v.Ok w.heap.size w := ⟨h.s.at hb hB, h.l.at hb hB, h.t.at hb hB, h.nm, h.lm, h.tm, h.lo⟩
theorem ActV.Ok.below {B : Nat} {w0 w : World} {v : ActV} (h : v.Ok B w0) (hb : Below B w0 w) : v.Ok B w := ⟨h.s.below hb, h.l.below hb, h.t.below hb, h.nm, h.lm, h.tm, h.lo⟩
end Go.Proofs.Ytafkojlccknicaa

/-
  slices.Sort of ints and of strings: the library's contracts, laid at this program, for rows of the caller's.
-/




namespace Go.Proofs.Ytafkojlccknicaa
open Go Go.RowKit Hx
set_option linter.unusedVariables false
set_option linter.unusedSimpArgs false
set_option maxRecDepth 8000
theorem row_some {B n c size : Nat} {w : World} {a : Option Addr} {vs : List Value} {e : TypeId} (h : w.ownsRow B e size (.slice a n c) n vs) (hn : 0 < n) : ∃ g, a = some ⟨g, 0, none⟩ := by
  obtain ⟨_, h | ⟨g, cap', cur, hv, _⟩⟩ := h
  · omega
  · cases hv; exact ⟨g, rfl⟩
def sortI (xs : List Int) : List Int := xs.mergeSort fun x y => decide (x ≤ y)
end Go.Proofs.Ytafkojlccknicaa

/-
  Lists in order, each element once: plain part.
-/

namespace Go.Proofs.Ytafkojlccknicaa
set_option linter.unusedVariables false
set_option linter.unusedSimpArgs false
section
variable {α : Type} [Inhabited α] [DecidableEq α]
omit [DecidableEq α] in
theorem toArray_get {zs : List α} {j : Nat} (h : j < zs.length) : zs.toArray[j]! = zs[j] := by simp [h]
theorem mem_compact {zs : List α} {x : α} : x ∈ Go.Lib.compact zs ↔ x ∈ zs := by
  unfold Go.Lib.compact Go.Lib.compactUpTo
  rw [List.mem_map]
  constructor
  · rintro ⟨j, hj, rfl⟩
    rw [List.mem_filter, List.mem_range] at hj
    rw [toArray_get hj.1]
    exact List.getElem_mem _
  · intro hx
    obtain ⟨j, hj, rfl⟩ := List.getElem_of_mem hx
    have key : ∀ j (hj : j < zs.length), ∃ i, i ∈ (List.range zs.length).filter (Go.Lib.keeps zs.toArray) ∧ zs.toArray[i]! = zs[j] := by
      intro j
      induction j with
      | zero => exact fun hj => ⟨0, List.mem_filter.2 ⟨List.mem_range.2 hj, by simp [Go.Lib.keeps]⟩, toArray_get hj⟩
      | succ j ih =>
        intro hj
        by_cases h : zs.toArray[j + 1]! = zs.toArray[j]!
        · obtain ⟨i, hi, he⟩ := ih (by omega)
          refine ⟨i, hi, ?_⟩
          rw [he, ← toArray_get hj, h, toArray_get (by omega)]
        · exact ⟨j + 1, List.mem_filter.2 ⟨List.mem_range.2 hj, by simp only [Go.Lib.keeps, Nat.add_sub_cancel]; exact decide_eq_true (.inr h)⟩, toArray_get hj⟩
    exact key j hj
theorem compact_strict {le : α → α → Prop} (refl : ∀ a, le a a) (anti : ∀ a b, le a b → le b a → a = b) {zs : List α} (h : zs.Pairwise le) : (Go.Lib.compact zs).Pairwise fun a b => le a b ∧ a ≠ b := by
  have hle : ∀ i j, (hij : i ≤ j) → (hj : j < zs.length) → le (zs[i]'(Nat.lt_of_le_of_lt hij hj)) zs[j] := fun i j hij hj => by
    by_cases h1 : i = j
    · subst h1; exact refl _
    · exact (List.pairwise_iff_getElem.1 h) i j (by omega) hj (by omega)
  unfold Go.Lib.compact Go.Lib.compactUpTo
  rw [List.pairwise_map]
  refine List.Pairwise.imp_of_mem ?_ ((List.pairwise_lt_range (n := zs.length)).filter _)
  intro i j hi hj hij
  rw [List.mem_filter, List.mem_range] at hi hj
  rw [toArray_get hi.1, toArray_get hj.1]
  refine ⟨hle i j (by omega) hj.1, fun he => ?_⟩
  have hk := hj.2
  simp only [Go.Lib.keeps, decide_eq_true_eq] at hk
  rcases hk with h0 | hk
  · omega
  · rw [toArray_get hj.1, toArray_get (show j - 1 < zs.length by omega)] at hk
    refine hk (anti _ _ ?_ (hle (j - 1) j (by omega) hj.1))
    rw [← he]
    exact hle i (j - 1) (by omega) (by omega)
end
theorem compact_len {α : Type} [Inhabited α] [DecidableEq α] (zs : List α) : (Go.Lib.compact zs).length ≤ zs.length := by
  unfold Go.Lib.compact Go.Lib.compactUpTo
  rw [List.length_map]
  exact Nat.le_trans (List.length_filter_le _ _) (by simp)
/-- Numbers in order, each once. -/
def ordI (xs : List Int) : List Int := Go.Lib.compact (xs.mergeSort fun x y => decide (x ≤ y))
end Go.Proofs.Ytafkojlccknicaa

/-
  More rules: append of a make, and an owned row cut to its beginning.
-/


namespace Go.Proofs.Ytafkojlccknicaa.Hx
open Go Go.RowKit
set_option linter.unusedVariables false
set_option linter.unusedSimpArgs false
section
variable {P : Program} {N : Fr} {B : Nat} {w0 : World} {Q : Exit → Act → World → Prop} {al : AL} {H : HL} {ops rest : List Oper} {d : Nat} {ty : TypeId} {pos : String} {after : Array Edge}
/-- An owned row's first elements. -/
theorem Sat.cut {w : World} {id n cap h : Nat} {a : Option Addr} {xs : List Value} {e : TypeId} {size : Nat} (hs : Sat B w H) (hr : look H id = some (.row a n cap xs e size)) (hh : h ≤ n) : Sat B w ((id, .row a h cap (xs.take (h * size)) e size) :: H) := by
  refine hs.turn hr ?_ (fun _ _ _ => rfl) (fun b hb => .inl hb)
  obtain ⟨h1, h2⟩ := hs.ok _ _ hr
  refine ⟨by rw [List.length_take, h1]; exact Nat.min_eq_left (Nat.mul_le_mul_right _ hh), ?_⟩
  rcases h2 with ⟨hv, h2⟩ | ⟨g, cap', cur, hv, hb, hg, hnc, hcm, hcs, htake⟩
  · cases hv
    obtain rfl : h = 0 := by omega
    exact .inl ⟨rfl, rfl⟩
  · cases hv
    exact .inr ⟨g, cap, cur, rfl, hb, hg, by omega, hcm, hcs, by rw [← htake, List.take_take, Nat.min_eq_left (Nat.mul_le_mul_right _ hh)]⟩
def Kle (H : HL) (ks : List (Nat × Nat)) (H' : HL) : Prop := ∀ j e, look H' j = some e → ∃ i f, (i, j) ∈ ks ∧ look H i = some f ∧ e.le f
theorem kle_nil {H : HL} : Kle H [] [] := fun j e h => by simp [look] at h
theorem kle_cons {H H' : HL} {i k : Nat} {e f : Ent} {ks : List (Nat × Nat)} (h : look H i = some f) (hl : e.le f) (hk : Kle H ks H') : Kle H ((i, k) :: ks) ((k, e) :: H') := fun j g hj => by
  by_cases hkj : k = j
  · subst hkj; rw [look_cons_eq] at hj; cases hj; exact ⟨i, f, by simp, h, hl⟩
  · rw [look_cons_ne _ _ hkj] at hj
    obtain ⟨i', f', h1, h2, h3⟩ := hk j g hj
    exact ⟨i', f', by simp [h1], h2, h3⟩
theorem Sat.kle {B : Nat} {H H' : HL} {w : World} (h : Sat B w H) (ks : List (Nat × Nat)) (hk : Kle H ks H') (hd : ∀ p ∈ ks, ∀ q ∈ ks, p.1 = q.1 → p.2 = q.2) : Sat B w H' :=
  ⟨fun j e he => by obtain ⟨i, f, _, h2, h3⟩ := hk j e he; exact h3.ok (h.ok i f h2), fun j j' e f hj he hf b hb => by
    obtain ⟨i, g, a1, a2, a3⟩ := hk j e he
    obtain ⟨i', g', b1, b2, b3⟩ := hk j' f hf
    exact fun hb' => h.apart i i' g g' (fun hii => hj (hd _ a1 _ b1 hii)) a2 b2 b (a3.own hb) (b3.own hb')⟩
end
end Go.Proofs.Ytafkojlccknicaa.Hx

/-
  slices.SortFunc by cmp.Compare, and slices.Compact, of ints: the library's contracts, laid at this program.
-/






namespace Go.Proofs.Ytafkojlccknicaa
open Go Go.RowKit Hx
set_option linter.unusedVariables false
set_option linter.unusedSimpArgs false
set_option maxRecDepth 8000
theorem grow_none (w : World) : Go.Sort.grow (w.drewN 0) #[] = w := by simp [Go.Sort.grow, World.drewN]
def layF6_ren : Go.Shelf.Ren := ⟨fun | 0 => 0 | 1 => 1 | 2 => 2 | 6 => 129 | 8 => 96 | 9 => 129 | 11 => 96 | 14 => 143 | 15 => 144 | 16 => 131 | 17 => 143 | 18 => 131 | 20 => 149 | 21 => 150 | 22 => 151 | 23 => 152 | 24 => 153 | 25 => 154 | 26 => 155 | 27 => 156 | 28 => 157 | 29 => 158 | 30 => 149 | 31 => 150 | 32 => 151 | 33 => 152 | 34 => 153 | 35 => 154 | 36 => 155 | 37 => 156 | 46 => 167 | 47 => 168 | 48 => 169 | 49 => 170 | 50 => 171 | 51 => 167 | 52 => 170 | 53 => 171 | 57 => 175 | 58 => 175 | 60 => 177 | 61 => 178 | 62 => 179 | 63 => 180 | 64 => 181 | 65 => 182 | 66 => 183 | 67 => 184 | 68 => 185 | 69 => 186 | 70 => 187 | 71 => 188 | 72 => 189 | 73 => 190 | 74 => 191 | 75 => 192 | n => n, fun | 0 => 0 | 1 => 1 | 2 => 2 | 3 => 3 | 4 => 4 | 5 => 5 | 6 => 6 | 7 => 7 | 8 => 8 | 9 => 9 | 10 => 10 | 11 => 11 | 12 => 12 | 13 => 13 | 14 => 14 | 15 => 15 | 16 => 16 | 17 => 17 | 18 => 18 | 19 => 19 | 20 => 20 | 21 => 21 | 22 => 22 | 23 => 157 | 24 => 3 | 25 => 121 | 27 => 22 | 28 => 157 | 29 => 121 | 37 => 166 | 38 => 167 | 39 => 144 | 40 => 117 | 41 => 166 | 42 => 117 | 44 => 170 | 45 => 171 | 46 => 172 | 47 => 173 | 48 => 174 | 49 => 175 | 50 => 30 | 51 => 176 | 52 => 177 | 53 => 178 | 54 => 179 | 55 => 180 | 56 => 170 | 57 => 173 | 58 => 174 | 59 => 175 | 60 => 176 | 66 => 186 | 67 => 187 | 68 => 188 | 69 => 189 | 70 => 190 | 71 => 191 | 72 => 189 | 73 => 191 | 76 => 194 | 77 => 155 | 78 => 195 | 79 => 195 | 81 => 197 | 82 => 198 | 83 => 199 | 84 => 200 | 85 => 201 | 86 => 202 | 87 => 203 | 88 => 204 | 89 => 205 | 90 => 206 | 91 => 207 | 92 => 208 | 93 => 209 | 94 => 210 | 95 => 211 | 96 => 212 | n => n, fun n => n⟩
def lay122_ren : Go.Shelf.Ren := ⟨fun | 0 => 0 | 1 => 1 | 2 => 2 | 106 => 111 | 108 => 107 | 111 => 26 | 113 => 79 | 122 => 96 | 125 => 144 | 128 => 157 | 129 => 158 | 193 => 62 | 194 => 136 | 213 => 139 | 215 => 131 | 216 => 114 | 265 => 146 | 329 => 168 | 330 => 169 | 347 => 177 | 348 => 178 | 349 => 179 | 350 => 180 | 351 => 181 | 352 => 182 | 353 => 183 | 354 => 184 | 355 => 185 | 356 => 186 | 357 => 187 | 358 => 188 | 359 => 189 | 360 => 190 | 361 => 191 | 366 => 192 | n => n, fun | 0 => 0 | 1 => 1 | 2 => 2 | 3 => 3 | 4 => 4 | 5 => 5 | 6 => 6 | 7 => 7 | 8 => 8 | 9 => 9 | 10 => 10 | 11 => 11 | 12 => 12 | 13 => 13 | 14 => 14 | 15 => 15 | 16 => 16 | 17 => 17 | 18 => 18 | 19 => 19 | 20 => 20 | 21 => 21 | 27 => 140 | 28 => 22 | 30 => 134 | 31 => 49 | 34 => 37 | 36 => 106 | 41 => 160 | 43 => 121 | 46 => 144 | 47 => 167 | 51 => 178 | 52 => 177 | 53 => 180 | 54 => 179 | 80 => 197 | 81 => 203 | 100 => 94 | 101 => 87 | 102 => 162 | 104 => 131 | 111 => 117 | 112 => 145 | 114 => 153 | 127 => 207 | 131 => 30 | 132 => 29 | 164 => 212 | 182 => 171 | 183 => 172 | 185 => 31 | 218 => 186 | 219 => 187 | 220 => 188 | 222 => 190 | 228 => 194 | 229 => 155 | 238 => 198 | 239 => 199 | 240 => 200 | 241 => 201 | 242 => 202 | 243 => 204 | 244 => 205 | 245 => 206 | 246 => 208 | 247 => 209 | 248 => 210 | 249 => 211 | n => n, fun n => n⟩
def layC20_ren : Go.Shelf.Ren := ⟨fun | 0 => 0 | 1 => 1 | 2 => 2 | 15 => 102 | 17 => 68 | 20 => 130 | 25 => 75 | 31 => 114 | 32 => 115 | 37 => 131 | 40 => 177 | 41 => 178 | 42 => 179 | 43 => 180 | 44 => 181 | 45 => 182 | 46 => 183 | 47 => 184 | 48 => 185 | 49 => 186 | 50 => 187 | 51 => 188 | 52 => 189 | 53 => 190 | 54 => 191 | 55 => 192 | n => n, fun | 0 => 0 | 1 => 1 | 2 => 2 | 3 => 3 | 4 => 4 | 5 => 5 | 6 => 6 | 7 => 7 | 8 => 8 | 9 => 9 | 10 => 10 | 11 => 11 | 12 => 12 | 13 => 13 | 14 => 14 | 15 => 15 | 16 => 16 | 17 => 17 | 18 => 18 | 19 => 19 | 20 => 20 | 21 => 21 | 22 => 22 | 23 => 126 | 24 => 49 | 25 => 162 | 26 => 94 | 33 => 30 | 34 => 103 | 36 => 37 | 38 => 87 | 40 => 144 | 41 => 145 | 42 => 117 | 44 => 131 | 46 => 197 | 47 => 198 | 48 => 199 | 49 => 200 | 50 => 201 | 51 => 202 | 52 => 203 | 53 => 178 | 54 => 204 | 55 => 205 | 56 => 206 | 57 => 207 | 58 => 208 | 59 => 209 | 60 => 210 | 61 => 211 | 62 => 212 | n => n, fun n => n⟩
end Go.Proofs.Ytafkojlccknicaa

/-
  Streams, windows, the best window, the shortest: plain functions, of no program.
-/

namespace Go.Proofs.Ytafkojlccknicaa
def pv (x : Int) : Int := if x < 0 then 0 else x
def nv (x : Int) : Int := if x < 0 then 1 else 0
theorem nv_neg {x : Int} (h : x < 0) : nv x = 1 := if_pos h
theorem nv_nn {x : Int} (h : ¬x < 0) : nv x = 0 := if_neg h
def streamR (xs : List Int) : Int := if 1000000 < xs.length then 3 else if xs.all (inB · (-1) 1000000000) = true then 0 else 9
theorem streamR_big {xs : List Int} (h : 1000000 < xs.length) : streamR xs = 3 := if_pos h
theorem streamR_bad {xs : List Int} (h : ¬1000000 < xs.length) (h2 : xs.all (inB · (-1) 1000000000) = false) : streamR xs = 9 := by unfold streamR; rw [if_neg h, if_neg (by rw [h2]; simp)]
theorem streamR_good {xs : List Int} (h : ¬1000000 < xs.length) (h2 : xs.all (inB · (-1) 1000000000) = true) : streamR xs = 0 := by unfold streamR; rw [if_neg h, if_pos h2]
theorem streamR_ok {xs : List Int} (h : streamR xs = 0) : xs.length ≤ 1000000 ∧ ∀ x ∈ xs, -1 ≤ x ∧ x ≤ 1000000000 := by
  unfold streamR at h
  by_cases h1 : 1000000 < xs.length
  · rw [if_pos h1] at h; omega
  · rw [if_neg h1] at h
    by_cases h2 : xs.all (inB · (-1) 1000000000) = true
    · exact ⟨by omega, fun x hx => inB_iff.1 (List.all_eq_true.1 h2 x hx)⟩
    · rw [if_neg h2] at h; omega
/-- The sum of the first k, and how many of them are unknown. -/
def pS (xs : List Int) (k : Nat) : Int := sI pv (xs.take k)
def pU (xs : List Int) (k : Nat) : Int := sI nv (xs.take k)
theorem pS_succ {xs : List Int} {k : Nat} {x : Int} (h : xs[k]? = some x) : pS xs (k + 1) = pS xs k + pv x := sI_take pv h
theorem pU_succ {xs : List Int} {k : Nat} {x : Int} (h : xs[k]? = some x) : pU xs (k + 1) = pU xs k + nv x := sI_take nv h
theorem pS_zero (xs : List Int) : pS xs 0 = 0 := by simp [pS, sI]
theorem pU_zero (xs : List Int) : pU xs 0 = 0 := by simp [pU, sI]
theorem pv_bd {x : Int} (h : x ≤ 1000000000) : 0 ≤ pv x ∧ pv x ≤ 1000000000 := by unfold pv; split <;> omega
theorem nv_bd (x : Int) : 0 ≤ nv x ∧ nv x ≤ 1 := by unfold nv; split <;> omega
theorem pS_bd {xs : List Int} (hl : xs.length ≤ 1000000) (h : ∀ x ∈ xs, -1 ≤ x ∧ x ≤ 1000000000) (k : Nat) : 0 ≤ pS xs k ∧ pS xs k ≤ 1000000000000000 := by
  have := sI_bd pv 1000000000 (by omega) (xs.take k) (fun x hx => pv_bd (h x (List.mem_of_mem_take hx)).2)
  have h2 : (xs.take k).length ≤ 1000000 := by rw [List.length_take]; omega
  unfold pS; omega
theorem pU_bd {xs : List Int} (hl : xs.length ≤ 1000000) (k : Nat) : 0 ≤ pU xs k ∧ pU xs k ≤ 1000000 := by
  have := sI_bd nv 1 (by omega) (xs.take k) (fun x hx => nv_bd x)
  have h2 : (xs.take k).length ≤ 1000000 := by rw [List.length_take]; omega
  unfold pU; omega
/-! #### the best window -/
structure BestS where
  sum : Int
  at_ : Int
  found : Bool
def bstep (st : BestS) (f s : Int) : BestS := if (!st.found || decide (st.sum < s)) = true then ⟨s, f, true⟩ else st
def bW (xs : List Int) (z : Nat) (st : BestS) (f : Nat) : BestS := if pU xs (f + z) = pU xs f then bstep st f (pS xs (f + z) - pS xs f) else st
/-- The best of the first m windows of z seconds. -/
def bestN (xs : List Int) (z m : Nat) : BestS := (List.range m).foldl (bW xs z) ⟨0, 0, false⟩
theorem bestN_succ (xs : List Int) (z m : Nat) : bestN xs z (m + 1) = bW xs z (bestN xs z m) m := by unfold bestN; rw [List.range_succ, List.foldl_append]; rfl
/-- What the windows up to the k-th second left. -/
def bestK (xs : List Int) (z k : Nat) : BestS := bestN xs z (k + 1 - z)
theorem bestK_less {xs : List Int} {z k : Nat} (h : k + 1 < z) : bestK xs z (k + 1) = bestK xs z k := by unfold bestK; rw [show k + 1 + 1 - z = 0 by omega, show k + 1 - z = 0 by omega]
theorem bestK_step {xs : List Int} {z k : Nat} (h : z ≤ k + 1) : bestK xs z (k + 1) = bW xs z (bestK xs z k) (k + 1 - z) := by unfold bestK; rw [show k + 1 + 1 - z = (k + 1 - z) + 1 by omega, bestN_succ]
theorem bestK_known {xs : List Int} {z k : Nat} (h : z ≤ k + 1) (hu : pU xs (k + 1) = pU xs (k + 1 - z)) : bestK xs z (k + 1) = bstep (bestK xs z k) ((k + 1 - z : Nat) : Int) (pS xs (k + 1) - pS xs (k + 1 - z)) := by
  rw [bestK_step h]; unfold bW; rw [show k + 1 - z + z = k + 1 by omega, if_pos hu]
theorem bestK_unknown {xs : List Int} {z k : Nat} (h : z ≤ k + 1) (hu : ¬pU xs (k + 1) = pU xs (k + 1 - z)) : bestK xs z (k + 1) = bestK xs z k := by
  rw [bestK_step h]; unfold bW; rw [show k + 1 - z + z = k + 1 by omega, if_neg hu]
/-- The best window's law: it is a window, and none is better, and none as good comes ahead of it. -/
structure BestLaw (xs : List Int) (z m : Nat) (b : BestS) : Prop where
  none : b.found = false → b.sum = 0 ∧ b.at_ = 0 ∧ ∀ f, f < m → pU xs (f + z) ≠ pU xs f
  some : b.found = true → ∃ g : Nat, b.at_ = g ∧ g < m ∧ pU xs (g + z) = pU xs g ∧ b.sum = pS xs (g + z) - pS xs g ∧ ∀ f, f < m → pU xs (f + z) = pU xs f → pS xs (f + z) - pS xs f ≤ b.sum ∧ (pS xs (f + z) - pS xs f = b.sum → g ≤ f)
end Go.Proofs.Ytafkojlccknicaa

/-
  Zones as plain functions. No program stands here.
-/

namespace Go.Proofs.Ytafkojlccknicaa
set_option linter.unusedVariables false
def zonesC (zs : List Int) : Int := if 20 < zs.length then 3 else risR 0 1000000000 zs
def sizesC (zs : List Int) : Int := if zs.length = 0 then 13 else if 100 < zs.length then 3 else risR 1 1000000 zs
theorem zonesC_ok {zs : List Int} (h : zonesC zs = 0) : zs.length ≤ 20 ∧ (∀ x ∈ zs, 0 ≤ x ∧ x ≤ 1000000000) ∧ Rising zs := by
  unfold zonesC at h
  by_cases h1 : 20 < zs.length
  · rw [if_pos h1] at h; omega
  · rw [if_neg h1] at h; exact ⟨by omega, risR_ok h⟩
theorem sizesC_ok {zs : List Int} (h : sizesC zs = 0) : 0 < zs.length ∧ zs.length ≤ 100 ∧ (∀ x ∈ zs, 1 ≤ x ∧ x ≤ 1000000) ∧ Rising zs := by
  unfold sizesC at h
  by_cases h0 : zs.length = 0
  · rw [if_pos h0] at h; omega
  · rw [if_neg h0] at h
    by_cases h1 : 100 < zs.length
    · rw [if_pos h1] at h; omega
    · rw [if_neg h1] at h; exact ⟨by omega, by omega, risR_ok h⟩
/-- What is counted after some numbers: a number lies in the zone of its place. -/
inductive Zoned (zs : List Int) : List Int → List Int → Prop where
  | start : Zoned zs [] (List.replicate (zs.length + 1) 0)
  | skip {xs out : List Int} {x : Int} : Zoned zs xs out → x < 0 → Zoned zs (xs ++ [x]) out
  | step {xs out : List Int} {x c : Int} {k : Nat} : Zoned zs xs out → ¬x < 0 → Place zs (x + 1) k → out[k]? = some c → Zoned zs (xs ++ [x]) (out.set k (c + 1))
theorem Zoned.len {zs xs out : List Int} (h : Zoned zs xs out) : out.length = zs.length + 1 := by
  induction h with
  | start => simp
  | skip _ _ ih => exact ih
  | step _ _ _ _ ih => simp [ih]
theorem sI_set (out : List Int) (k : Nat) (c : Int) (h : out[k]? = some c) : sI id (out.set k (c + 1)) = sI id out + 1 := by
  induction out generalizing k with
  | nil => simp at h
  | cons x r ih =>
    cases k with
    | zero => simp at h; subst h; simp only [List.set_cons_zero, sI, id]; omega
    | succ k => simp at h; simp only [List.set_cons_succ, sI, id, ih k h]; omega
theorem sI_rep (n : Nat) : sI id (List.replicate n (0 : Int)) = 0 := by
  induction n with
  | zero => rfl
  | succ n ih => simp only [List.replicate_succ, sI, id, ih]; rfl
theorem Zoned.sum {zs xs out : List Int} (h : Zoned zs xs out) : sI id out + sI nv xs = xs.length ∧ ∀ c ∈ out, 0 ≤ c ∧ c ≤ xs.length := by
  induction h with
  | start => exact ⟨by rw [sI_rep]; rfl, fun c hc => by have := List.eq_of_mem_replicate hc; omega⟩
  | skip _ hx ih =>
    refine ⟨?_, fun c hc => by have := ih.2 c hc; simp; omega⟩
    rw [sI_append]; simp only [sI, nv_neg hx, List.length_append, List.length_cons, List.length_nil]; omega
  | @step xs out x c k _ hx _ hk ih =>
    refine ⟨?_, fun d hd => ?_⟩
    · rw [sI_append, sI_set _ _ _ hk]; simp only [sI, nv_nn hx, List.length_append, List.length_cons, List.length_nil]; omega
    · have hc := ih.2 c (List.mem_of_getElem? hk)
      rcases List.mem_or_eq_of_mem_set hd with hd | rfl
      · have := ih.2 d hd; simp; omega
      · simp; omega
/-- What Zones returns. -/
def ZonesR (xs zs out : List Int) (u e : Int) : Prop :=
  if streamR xs ≠ 0 then out = [] ∧ u = 0 ∧ e = streamR xs else if zonesC zs ≠ 0 then out = [] ∧ u = 0 ∧ e = zonesC zs else Zoned zs xs out ∧ u = pU xs xs.length ∧ e = 0
theorem ZonesR.bd {xs zs out : List Int} {u e : Int} (h : ZonesR xs zs out u e) : (∀ y ∈ out, 0 ≤ y ∧ y ≤ 1000000) ∧ (0 ≤ u ∧ u ≤ 1000000) ∧ out.length ≤ 21 ∧ (e = 0 → u + sI id out = xs.length) := by
  unfold ZonesR at h
  by_cases h1 : streamR xs ≠ 0
  · rw [if_pos h1] at h; obtain ⟨rfl, rfl, rfl⟩ := h
    exact ⟨by simp, by omega, by simp, fun h => absurd h h1⟩
  · rw [if_neg h1] at h
    by_cases h2 : zonesC zs ≠ 0
    · rw [if_pos h2] at h; obtain ⟨rfl, rfl, rfl⟩ := h
      exact ⟨by simp, by omega, by simp, fun h => absurd h h2⟩
    · rw [if_neg h2] at h; obtain ⟨hZ, rfl, rfl⟩ := h
      have hok := streamR_ok (Decidable.not_not.1 h1)
      have hz := zonesC_ok (Decidable.not_not.1 h2)
      have hs := hZ.sum
      have hu := pU_bd hok.1 xs.length (xs := xs)
      have he : pU xs xs.length = sI nv xs := by unfold pU; rw [List.take_length]
      refine ⟨fun y hy => by have := hs.2 y hy; omega, hu, by rw [hZ.len]; omega, fun _ => by rw [he]; omega⟩
end Go.Proofs.Ytafkojlccknicaa

/-
  How api.Best lies in memory.
-/


namespace Go.Proofs.Ytafkojlccknicaa
open Go Hx
set_option linter.unusedVariables false
/-- A window as it lies in memory. -/
structure BestR where
  size : Int
  sum : Int
  at_ : Int
  found : Bool
def encBest : Enc BestR := { size := 4, cells := fun x => [.int .i64 x.size, .int .i64 x.sum, .int .i64 x.at_, .bool x.found], val := fun x => .agg #[.int .i64 x.size, .int .i64 x.sum, .int .i64 x.at_, .bool x.found], len := fun _ => rfl, ones := fun _ u h => (by simp at h; rcases h with h | h | h | h <;> subst h <;> rfl), pos := by decide, vc := fun _ => rfl }
def mk_encBest (a b c : Int) (d : Bool) : BestR := ⟨a, b, c, d⟩
theorem ty24 : Ty Try.prog 24 encBest := .inr ⟨ag24, fun _ => rfl⟩
def bR (z : Int) (st : BestS) : BestR := ⟨z, st.sum, st.at_, st.found⟩
end Go.Proofs.Ytafkojlccknicaa
