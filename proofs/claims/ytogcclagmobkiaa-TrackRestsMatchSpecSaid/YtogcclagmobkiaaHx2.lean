/-
  More rules of the logic: regions that draw their order and end in writes; structs compared.
-/
import Derived.Test.YtogcclagmobkiaaHx
import Derived.StillTail
namespace Go.Proofs.Ytogcclagmobkiaa.Hx
open Go Go.RowKit
set_option linter.unusedVariables false
set_option linter.unusedSimpArgs false
set_option linter.unusedSectionVars false

theorem d_still {P : Program} {id : Nat} {Q : Exit → Act → World → Prop} {a : Act} {w : World} {l : List Oper} {f : Bool} (n : Nat) (hm : P.follows .mixedOrders = true) (hB : Region.lexTailB .any l.toArray n = true)
    (h : wpStill P l.toArray { w with drawn := w.drawn + 1 } (fun a' => wpList P l.toArray Q (l.drop n) a' { w with drawn := w.drawn + 1 }) (l.take n) a) : D f P (.region id l.toArray true) Q a w := by
  simp only [Region.lexTailB, Bool.and_eq_true, decide_eq_true_eq] at hB
  obtain ⟨⟨⟨⟨h1, h2⟩, h3⟩, h4⟩, h5⟩ := hB
  have e1 : n < l.length := by simpa using h2
  have e2 : (l.take n).length = n := by simp; omega
  have e3 : (l.drop n).length = l.toArray.size - n := by simp
  have hh := wpAnyL_lex (md := .any) (g := l.toArray.size - n) h1 h3 h4 h2 (l.take n) 0 (Array.replicate l.toArray.size false) a (fun j hj => by
      have : j < n := by rw [e2] at hj; exact hj
      simp [this]) (by simpa using e2)
    ⟨by simp, fun j oj _ hl => (by rw [getD_replicate_false] at hl; cases hl), fun t _ ht => getD_in (by simpa using ht) (getD_replicate_false _ _)⟩ (by rw [e2]; exact h5) h
  have := wpAny_of_head (Q' := Q) (g := l.toArray.size - n) (fun listed a' hL => by
    have := wpAny_of_seq (md := .any) (Q' := Q) (l.drop n) n listed a' { w with drawn := w.drawn + 1 } (fun j => by simp [List.getElem?_drop]) (by rw [e3]; exact hL.1) hL.2
    rwa [e3] at this) _ _ _ hh
  rw [e2, show n + (l.toArray.size - n) = l.toArray.size by omega] at this
  exact d_any hm this
section
variable {P : Program} {N : Fr} {B : Nat} {w0 : World} {Q : Exit → Act → World → Prop} {al : AL} {H : HL}

/-- The head of a region that draws: operations that only read; 'tail' is carried out behind them, in its order. -/
def SL (P : Program) (N : Fr) (B : Nat) (w0 : World) (ops l tail : List Oper) (Q : Exit → Act → World → Prop) (al : AL) (H : HL) : Prop :=
  ∀ a w, St N B w0 al H a w → wpStill P ops.toArray w (fun a' => wpList P ops.toArray Q tail a' w) l a
theorem wp_regt (n : Nat) {id : Nat} {l : List Oper} (hm : P.follows .mixedOrders = true) (hB : Region.lexTailB .any l.toArray n = true)
    (h : SL P N B w0 l (l.take n) (l.drop n) Q al H) : WP P N B w0 (.region id l.toArray true) Q al H := by
  intro a w hst
  exact d_still n hm hB (h a _ hst.drew)

section
variable {ops rest tail : List Oper} {d : Nat} {op : Op} {ty : TypeId} {pos : String} {after : Array Edge} {v : Value}
theorem sl_nil (h : OL P N B w0 ops tail Q al H) : SL P N B w0 ops [] tail Q al H := fun a w hst => wpStill_nil (h a w hst)
theorem sl_r (hr : Runs P N B w0 op ty al H v) (hd : Nat.blt d N.n = true) (k : SL P N B w0 ops rest tail Q ((d, v) :: al) H) :
    SL P N B w0 ops ({ dst := some d, op, type := ty, pos, after, guard := none } :: rest) tail Q al H := by
  intro a w hst
  refine wpStill_step fun K hK => ?_
  rw [if_pos (by rfl)]
  unfold Oper.still
  rw [show execOp a.eval { dst := some d, op, type := ty, pos, after, guard := none } = execOp a.eval { dst := none, op, type := ty, pos := "", after := #[], guard := none } from rfl, hr a w hst]
  exact ⟨rfl, hK _ (k _ _ (hst.put (by simpa using hd) v))⟩
theorem sl_g {dst : Option Tmp} {j dj : Nat} {want c : Bool} (hj : gd ops j = some dj) (hl : look al dj = some (.bool c)) (hc : c = want)
    (k : SL P N B w0 ops ({ dst, op, type := ty, pos, after, guard := none } :: rest) tail Q al H) :
    SL P N B w0 ops ({ dst, op, type := ty, pos, after, guard := some (j, want) } :: rest) tail Q al H := by
  intro a w hst
  have hw := wanted_of (o := { dst, op, type := ty, pos, after, guard := some (j, want) }) hst.regs rfl hj hl
  have := k a w hst
  unfold wpStill at this ⊢
  rw [hw, hc]
  simp only [beq_self_eq_true, if_true, Region.wanted] at this ⊢
  exact this
theorem sl_s {j dj : Nat} {want c : Bool} (hj : gd ops j = some dj) (hl : look al dj = some (.bool c)) (hc : c = !want) (hd : Nat.blt d N.n = true)
    (k : SL P N B w0 ops rest tail Q ((d, undef) :: al) H) :
    SL P N B w0 ops ({ dst := some d, op, type := ty, pos, after, guard := some (j, want) } :: rest) tail Q al H := by
  intro a w hst
  have hw := wanted_of (o := { dst := some d, op, type := ty, pos, after, guard := some (j, want) }) hst.regs rfl hj hl
  refine wpStill_step fun K hK => ?_
  rw [if_neg (by rw [hw, hc]; cases want <;> simp)]
  exact hK _ (k _ _ (hst.put (by simpa using hd) undef))
theorem sl_u {j dj : Nat} {want : Bool} (hj : gd ops j = some dj) (hl : look al dj = some undef) (hd : Nat.blt d N.n = true)
    (k : SL P N B w0 ops rest tail Q ((d, undef) :: al) H) :
    SL P N B w0 ops ({ dst := some d, op, type := ty, pos, after, guard := some (j, want) } :: rest) tail Q al H := by
  intro a w hst
  have hw := wanted_undef (o := { dst := some d, op, type := ty, pos, after, guard := some (j, want) }) hst.regs rfl hj hl
  refine wpStill_step fun K hK => ?_
  rw [if_neg (by rw [hw]; simp)]
  exact hK _ (k _ _ (hst.put (by simpa using hd) undef))
theorem sl_split {l : List Oper} {d : Nat} {c : Bool} (hl : look al d = some (.bool c)) (ht : c = true → SL P N B w0 ops l tail Q al H) (hf : c = false → SL P N B w0 ops l tail Q al H) : SL P N B w0 ops l tail Q al H := by
  cases hc : c
  · exact hf hc
  · exact ht hc
section
variable {α : Type} {E : Enc α} {a : Option Addr} {n cap : Nat} {xs : List α}
theorem sl_ixr {s i : Operand} {t : TypeId} {kd : IntKind} {iv : Int} (hl : Rd E B w0 a n cap xs) (hs : ev al s = some (.slice a n cap)) (hi : ev al i = some (.int kd iv)) (hT : Slc P t E.size) (h0 : 0 ≤ iv ∧ iv < n) (hd : Nat.blt d N.n = true)
    (k : ∀ x, xs[iv.toNat]? = some x → SL P N B w0 ops rest tail Q ((d, .pointer (a.map (·.add (iv.toNat * E.size)))) :: al) H) :
    SL P N B w0 ops ({ dst := some d, op := .indexAddr t s i, type := ty, pos, after, guard := none } :: rest) tail Q al H := by
  obtain ⟨x, hx⟩ := hl.get (i := iv.toNat) (by omega)
  exact sl_r (r_ix hs hi hT (hl.isSome (by omega)) h0) hd (k x hx)
theorem sl_ixo {s i : Operand} {t e : TypeId} {id size : Nat} {kd : IntKind} {iv : Int} (E : Enc α) (xs : List α) (hs : ev al s = some (.slice a n cap)) (hH : look H id = some (.row a n cap (E.enc xs) e size)) (hz : size = E.size) (hi : ev al i = some (.int kd iv)) (hT : Slc P t E.size)
    (h0 : 0 ≤ iv ∧ iv < n) (hlen : xs.length = n) (hd : Nat.blt d N.n = true)
    (k : ∀ x, xs[iv.toNat]? = some x → SL P N B w0 ops rest tail Q ((d, .pointer (a.map (·.add (iv.toNat * E.size)))) :: al) H) :
    SL P N B w0 ops ({ dst := some d, op := .indexAddr t s i, type := ty, pos, after, guard := none } :: rest) tail Q al H :=
  sl_r (r_ixo E xs hs hH hz hi hT h0) hd (k (xs[iv.toNat]'(by omega)) (by simp))
end
/-- Two structs, compared. -/
theorem r_eqs {x y : Operand} {t t' : TypeId} {us vs : Array Value} {b : Bool} (hx : ev al x = some (.agg us)) (hy : ev al y = some (.agg vs)) (hm : P.eqGuardType P.depth t = false)
    (he : ∀ w, (Op.equalIn 10000 t (.agg us) (.agg vs)).run P w = .ok b w) : Runs P N B w0 (.binOp .eql t x y t') ty al H (.bool b) := fun a w hst => by
  have h1 := run_eqGuard_agg (P := P) w .eql t x y us vs hm
  have h2 := run_eql_struct (P := P) w t us vs
  rw [he w] at h2
  simp only [execOp, hst.regs.eval hx, hst.regs.eval hy, Sem.run_bind, h1, Result.andThen_ok, h2, Sem.run_pure]
theorem r_nes {x y : Operand} {t t' : TypeId} {us vs : Array Value} {b : Bool} (hx : ev al x = some (.agg us)) (hy : ev al y = some (.agg vs)) (hm : P.eqGuardType P.depth t = false)
    (he : ∀ w, (Op.equalIn 10000 t (.agg us) (.agg vs)).run P w = .ok b w) : Runs P N B w0 (.binOp .neq t x y t') ty al H (.bool (!b)) := fun a w hst => by
  have h1 := run_eqGuard_agg (P := P) w .neq t x y us vs hm
  have h2 := run_neq_struct (P := P) w t us vs
  rw [he w] at h2
  simp only [execOp, hst.regs.eval hx, hst.regs.eval hy, Sem.run_bind, h1, Result.andThen_ok, h2, Sem.run_pure]
end

/-! #### structs of plain fields, compared -/
def eqV : Value → Value → Bool
  | .int _ a, .int _ b => decide (a = b)
  | .bool a, .bool b => a == b
  | .string a, .string b => a == b
  | _, _ => false
def eqs : List Value → List Value → Bool
  | [], _ => true
  | u :: us, v :: vs => eqV u v && eqs us vs
  | _ :: _, [] => false
/-- The fields from number i on lie one behind the other, a cell each, and the values fit them. -/
def okF (P : Program) : List Field → Nat → List Value → List Value → Bool
  | [], _, [], [] => true
  | f :: fs, i, u :: us, v :: vs => !(f.name == "_") && Nat.beq f.offset i &&
      (match P.underlying f.type, u, v with | some (.int _), .int k1 _, .int k2 _ => decide (k1 = k2) | some .bool, .bool _, .bool _ => true | some .string, .string _, .string _ => true | _, _, _ => false) && okF P fs (i + 1) us vs
  | _, _, _, _ => false
/-- A type of one cell. -/
def DescS (P : Program) (t : TypeId) : Prop := ∃ dd, P.underlying t = some dd ∧ (match dd with | .int _ | .bool | .string => true | _ => false) = true
def okS (P : Program) (t : TypeId) (us vs : List Value) : Bool := match P.underlying t with | some (.struct fs) => okF P fs.toList 0 us vs | _ => false
theorem run_eqFields {d : Nat} {xs ys : Array Value} {w : World} : ∀ {fs : List Field} {i : Nat} {us vs : List Value}, okF P fs i us vs = true → (∀ j u, us[j]? = some u → xs[i + j]? = some u) → (∀ j v, vs[j]? = some v → ys[i + j]? = some v) →
    (Op.eqFields (d + 1) xs ys fs).run P w = .ok (eqs us vs) w
  | [], i, us, vs, h, h1, h2 => by
    cases us with
    | nil => simp [Op.eqFields, eqs]
    | cons u us => cases vs <;> simp [okF] at h
  | f :: fs, i, [], vs, h, _, _ => by cases vs <;> simp [okF] at h
  | f :: fs, i, u :: us, [], h, _, _ => by simp [okF] at h
  | f :: fs, i, u :: us, v :: vs, h, h1, h2 => by
    unfold okF at h
    rw [Bool.and_eq_true, Bool.and_eq_true, Bool.and_eq_true] at h
    obtain ⟨⟨⟨q1, q2⟩, q3⟩, q4⟩ := h
    have hoff : f.offset = i := Nat.eq_of_beq_eq_true q2
    have hu : xs[i]? = some u := by simpa using h1 0 u rfl
    have hv : ys[i]? = some v := by simpa using h2 0 v rfl
    have hname : f.name ≠ "_" := by simpa using q1
    have ih := run_eqFields (d := d) (w := w) q4 (fun j u' hj => by have := h1 (j + 1) u' (by simpa using hj); rwa [show i + (j + 1) = i + 1 + j from by omega] at this)
      (fun j v' hj => by have := h2 (j + 1) v' (by simpa using hj); rwa [show i + (j + 1) = i + 1 + j from by omega] at this)
    have hpart : ∀ (ds : DescS P f.type), (part f.type xs f.offset).run P w = .ok u w ∧ (part f.type ys f.offset).run P w = .ok v w := by
      intro ds
      obtain ⟨dd, hdd, hp⟩ := ds
      have hagg : (isAgg f.type).run P w = .ok false w := by
        simp only [isAgg, Sem.run_bind, run_underlying hdd, Result.andThen_ok]
        cases dd <;> first | rfl | (simp at hp)
      rw [hoff]
      constructor <;> simp [part, hagg, hu, hv]
    have key : ∃ dd, P.underlying f.type = some dd ∧ (part f.type xs f.offset).run P w = .ok u w ∧ (part f.type ys f.offset).run P w = .ok v w ∧ (Op.equalIn (d + 1) f.type u v).run P w = .ok (eqV u v) w := by
      split at q3
      · rename_i k k1 a k2 b hdd
        have hk : k1 = k2 := by simpa using q3
        subst hk
        obtain ⟨p1, p2⟩ := hpart ⟨_, hdd, rfl⟩
        exact ⟨_, hdd, p1, p2, by rw [run_equalIn_int w d f.type k1 k a b hdd]; rfl⟩
      · rename_i a b hdd
        obtain ⟨p1, p2⟩ := hpart ⟨_, hdd, rfl⟩
        exact ⟨_, hdd, p1, p2, run_equalIn_bool' w d f.type a b hdd⟩
      · rename_i a b hdd
        obtain ⟨p1, p2⟩ := hpart ⟨_, hdd, rfl⟩
        refine ⟨_, hdd, p1, p2, ?_⟩
        simp [Op.equalIn, run_underlying hdd, eqV]
      · simp at q3
    obtain ⟨dd, hdd, p1, p2, p3⟩ := key
    unfold Op.eqFields
    rw [if_pos hname]
    simp only [Sem.run_bind, p1, p2, p3, Result.andThen_ok]
    cases hb : eqV u v with
    | false => simp [eqs, hb]
    | true => simp [eqs, hb, ih]
theorem run_eqs {t : TypeId} {us vs : List Value} (h : okS P t us vs = true) (hp : P.stoodInHeld t = false) (w : World) : (Op.equalIn 10000 t (.agg us.toArray) (.agg vs.toArray)).run P w = .ok (eqs us vs) w := by
  unfold okS at h
  split at h
  · rename_i fs hu
    have hf : P.fieldsOf t = fs := by simp [Program.fieldsOf, hu]
    rw [show (10000 : Nat) = 9999 + 1 from rfl, run_equalIn_struct w 9999 t _ _ (by rw [hf]; exact hu) hp, hf]
    exact run_eqFields (d := 9998) h (fun j u hj => by simpa using hj) (fun j u hj => by simpa using hj)
  · simp at h
end
end Go.Proofs.Ytogcclagmobkiaa.Hx
