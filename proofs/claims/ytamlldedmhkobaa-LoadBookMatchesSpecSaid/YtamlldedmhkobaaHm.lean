/-
  More rules: maps; methods behind pointers.
-/
import Derived.Test.YtamlldedmhkobaaHq
import Derived.MapKept
namespace Go.Proofs.Ytamlldedmhkobaa.Hx
open Go Go.RowKit Go.MapKept
set_option linter.unusedVariables false
set_option linter.unusedSimpArgs false
section
variable {α β : Type} [DecidableEq α]
/-- A map, by its entries. -/
def mEnc (K : α → Value) (V : β → Value) (D : List (α × β)) : List (Value × Value) := D.map fun e => (K e.1, V e.2)
def mG (z : β) : List (α × β) → α → β
  | [], _ => z
  | (a, b) :: r, k => if a = k then b else mG z r k
def mS : List (α × β) → α → β → List (α × β)
  | [], k, v => [(k, v)]
  | (a, b) :: r, k, v => if a = k then (a, v) :: r else (a, b) :: mS r k v
theorem mG_mS (z : β) : ∀ (D : List (α × β)) (k : α) (v : β) (j : α), mG z (mS D k v) j = if k = j then v else mG z D j
  | [], k, v, j => by simp [mS, mG]
  | (a, b) :: r, k, v, j => by
    rw [mS]
    by_cases h : a = k
    · subst h; rw [if_pos rfl, mG, mG]
      by_cases h2 : a = j
      · rw [if_pos h2, if_pos h2]
      · rw [if_neg h2, if_neg h2, if_neg h2]
    · rw [if_neg h, mG, mG, mG_mS z r k v j]
      by_cases h2 : a = j
      · subst h2; rw [if_pos rfl, if_neg (fun e => h e.symm), if_pos rfl]
      · rw [if_neg h2, if_neg h2]
def mFind (V : β → Value) : List (α × β) → α → Nat → Option (Nat × Value)
  | [], _, _ => none
  | (a, b) :: r, k, i => if a = k then some (i, V b) else mFind V r k (i + 1)
/-- A map's type. -/
structure MapT (P : Program) (t : TypeId) (K : α → Value) (V : β → Value) (z : β) : Prop where
  ty : ∃ kt et d, P.underlying t = some (.map kt et) ∧ P.underlying kt = some d ∧ (∀ a, IsKey d (K a)) ∧ (∀ w, (zeroValue et).run P w = .ok (V z) w)
  inj : ∀ a b, K a = K b → a = b
variable {K : α → Value} {V : β → Value}
theorem findNow_is {d : TypeDesc} (hd : ∀ a, IsKey d (K a)) (hi : ∀ a b, K a = K b → a = b) (k : α) : ∀ (l : List MapEntry) (D : List (α × β)) (i : Nat), l.map (fun e => (e.key, e.val)) = mEnc K V D → Instr.findNow d (K k) l i = some (mFind V D k i)
  | [], [], i, h => rfl
  | [], _ :: _, i, h => by simp [mEnc] at h
  | _ :: _, [], i, h => by simp [mEnc] at h
  | e :: l, (a, b) :: r, i, h => by
    simp only [mEnc, List.map_cons, List.cons.injEq, Prod.mk.injEq] at h
    obtain ⟨⟨h1, h2⟩, h3⟩ := h
    obtain ⟨q, hq, hiff⟩ := sameNow_of_keys (hd k) (hd a)
    rw [Instr.findNow, h1, hq, mFind]
    cases q with
    | true =>
      have : a = k := hi _ _ (hiff.1 rfl).symm
      rw [if_pos this, h2]
    | false =>
      have : a ≠ k := fun hk => by subst hk; have := hiff.2 rfl; cases this
      rw [if_neg this]
      exact findNow_is hd hi k l r (i + 1) h3
theorem mFind_none {D : List (α × β)} {k : α} {i : Nat} (h : mFind V D k i = none) (z : β) (v : β) : mG z D k = z ∧ mS D k v = D ++ [(k, v)] := by
  induction D generalizing i with
  | nil => exact ⟨rfl, rfl⟩
  | cons e r ih =>
    obtain ⟨a, b⟩ := e
    rw [mFind] at h
    by_cases ha : a = k
    · rw [if_pos ha] at h; cases h
    · rw [if_neg ha] at h
      rw [mG, if_neg ha, mS, if_neg ha, (ih h).1, (ih h).2]; exact ⟨rfl, rfl⟩
theorem mFind_some {D : List (α × β)} {k : α} {i j : Nat} {u : Value} (h : mFind V D k i = some (j, u)) (z : β) : i ≤ j ∧ u = V (mG z D k) ∧ (∃ b, D[j - i]? = some (k, b)) ∧ ∀ v, mS D k v = D.set (j - i) (k, v) := by
  induction D generalizing i with
  | nil => cases h
  | cons e r ih =>
    obtain ⟨a, b⟩ := e
    rw [mFind] at h
    by_cases ha : a = k
    · rw [if_pos ha] at h
      cases h
      subst ha
      refine ⟨Nat.le_refl _, by rw [mG, if_pos rfl], ⟨b, by simp⟩, fun v => by rw [mS, if_pos rfl]; simp⟩
    · rw [if_neg ha] at h
      obtain ⟨h1, h2, ⟨b', h3⟩, h4⟩ := ih h
      obtain ⟨m, hm⟩ : ∃ m, j - i = m + 1 := ⟨j - (i + 1), by omega⟩
      have hm2 : j - (i + 1) = m := by omega
      rw [hm2] at h3 h4
      refine ⟨by omega, by rw [mG, if_neg ha]; exact h2, ⟨b', by rw [hm]; simpa using h3⟩, fun v => by rw [mS, if_neg ha, h4 v, hm]; rfl⟩
end
/-- A map that was there before. -/
def Mp (C : Nat) (w : World) (b : Nat) (es : List (Value × Value)) : Prop := b < C ∧ ∃ (ents : Array MapEntry) (clock : Nat), w.heap[b]? = some (.map ents clock) ∧ ents.toList.map (fun e => (e.key, e.val)) = es
theorem Mp.below {C b : Nat} {w w' : World} {es : List (Value × Value)} (h : Mp C w b es) (hb : Below C w w') : Mp C w' b es := by
  obtain ⟨h1, ents, clock, h2, h3⟩ := h
  exact ⟨h1, ents, clock, by rw [hb.block b h1]; exact h2, h3⟩
theorem Mp.at {B b : Nat} {w0 w : World} {es : List (Value × Value)} (h : Mp B w0 b es) (hb : Below B w0 w) (hB : B ≤ w.heap.size) : Mp w.heap.size w b es :=
  ⟨by have := h.1; omega, (h.below hb).2⟩
theorem Sat.mp {B id b : Nat} {w : World} {H : HL} {es : List (Value × Value)} (h : Sat B w H) (hH : look H id = some (.mp b es)) : Mp w.heap.size w b es := by
  obtain ⟨_, ents, clock, h1, h2⟩ := h.ok _ _ hH
  exact ⟨(Array.getElem?_eq_some_iff.1 h1).1, ents, clock, h1, h2⟩
section
variable {P : Program} {N : Fr} {B : Nat} {w0 : World} {Q : Exit → Act → World → Prop} {al : AL} {H : HL} {ops rest : List Oper} {d : Nat} {ty : TypeId} {pos : String} {after : Array Edge}
variable {α β : Type} [DecidableEq α] {K : α → Value} {V : β → Value} {z : β}
theorem r_lookup {x ix : Operand} {t : TypeId} {b id : Nat} {D : List (α × β)} {k : α} (hx : ev al x = some (.map (some b))) (hi : ev al ix = some (K k)) (hH : look H id = some (.mp b (mEnc K V D))) (hT : MapT P t K V z) :
    Runs P N B w0 (.lookup t x ix false) ty al H (V (mG z D k)) := fun a w hst => by
  obtain ⟨⟨kt, et, dd, hm, hk, hkey, hz⟩, hinj⟩ := hT
  obtain ⟨_, ents, clock, hb, he⟩ := hst.sat.ok _ _ hH
  have hf := findNow_is hkey hinj k ents.toList D 0 he
  have hfk := run_findKey (P := P) (w := w) hk hf
  simp only [execOp, hst.regs.eval hx, hst.regs.eval hi, Instr.lookup, Sem.run_bind, run_underlying hm, Result.andThen_ok, MapKept.run_getObj_map hb, Sem.run_pure, run_checkKey hk (hkey k) _ 9999, hfk]
  cases hq : mFind V D k 0 with
  | none =>
    have := (mFind_none hq z z).1
    simp [hz w, this]
  | some r =>
    obtain ⟨j, u⟩ := r
    have := (mFind_some hq z).2.1
    simp [this]
theorem r_lookupR {x ix : Operand} {t : TypeId} {b : Nat} {D : List (α × β)} {k : α} (hl : Mp B w0 b (mEnc K V D)) (hx : ev al x = some (.map (some b))) (hi : ev al ix = some (K k)) (hT : MapT P t K V z) :
    Runs P N B w0 (.lookup t x ix false) ty al H (V (mG z D k)) := fun a w hst => by
  obtain ⟨⟨kt, et, dd, hm, hk, hkey, hz⟩, hinj⟩ := hT
  obtain ⟨_, ents, clock, hb, he⟩ := hl.below hst.below
  have hf := findNow_is hkey hinj k ents.toList D 0 he
  have hfk := run_findKey (P := P) (w := w) hk hf
  simp only [execOp, hst.regs.eval hx, hst.regs.eval hi, Instr.lookup, Sem.run_bind, run_underlying hm, Result.andThen_ok, MapKept.run_getObj_map hb, Sem.run_pure, run_checkKey hk (hkey k) _ 9999, hfk]
  cases hq : mFind V D k 0 with
  | none =>
    have := (mFind_none hq z z).1
    simp [hz w, this]
  | some r =>
    obtain ⟨j, u⟩ := r
    have := (mFind_some hq z).2.1
    simp [this]
theorem ol_mkmap {t : TypeId} (id : Nat) (hd : Nat.blt d N.n = true) (k : ∀ b, OL P N B w0 ops rest Q ((d, .map (some b)) :: al) ((id, .mp b []) :: H)) :
    OL P N B w0 ops ({ dst := some d, op := .makeMap t none, type := ty, pos, after, guard := none } :: rest) Q al H := by
  intro a w hst
  refine wpList_plain rfl fun K hK => ?_
  unfold Oper.wp
  simp only [execOp, Option.map_none, Instr.makeMap, Sem.run_bind, Sem.run_pure, Result.andThen_ok, run_newObj, Oper.upon_value]
  have hal : ({ w with heap := w.heap.push (.map #[] 0) } : World) = w.alloc (.map #[] 0) := rfl
  rw [hal]
  refine hK _ _ (k w.heap.size _ _ (hst.step (hst.regs.put (by simpa using hd) _) (hst.below.alloc hst.base _) ?_ (by have := hst.base; simp; omega) (Kd.alloc w _)))
  exact hst.sat.new id (e := .mp w.heap.size []) ⟨hst.base, #[], 0, (heap_alloc w _).1, rfl⟩ (fun k hk => (heap_alloc w _).2 k hk) (fun b hb => by simp only [Ent.own, Option.some.injEq] at hb; omega)
theorem ol_mapup {m ky x : Operand} {t : TypeId} {b id : Nat} {D : List (α × β)} {k : α} {v : β} (hm : ev al m = some (.map (some b))) (hk : ev al ky = some (K k)) (hx : ev al x = some (V v)) (hH : look H id = some (.mp b (mEnc K V D))) (hT : MapT P t K V z) (hC : N.c b)
    (kk : OL P N B w0 ops rest Q al ((id, .mp b (mEnc K V (mS D k v))) :: H)) :
    OL P N B w0 ops ({ dst := none, op := .mapUpdate t m ky x, type := ty, pos, after, guard := none } :: rest) Q al H := by
  intro a w hst
  refine wpList_plain rfl fun K' hK' => ?_
  obtain ⟨⟨kt, et, dd, hmt, hkt, hkey, hz⟩, hinj⟩ := hT
  have hok := hst.sat.ok _ _ hH
  obtain ⟨hBb, ents, clock, hb, he⟩ := hok
  have hf := findNow_is hkey hinj k ents.toList D 0 he
  have hfk := run_findKey (P := P) (w := w) hkt hf
  have key : ∃ ents' clock', (Instr.mapUpdate t (.map (some b)) (K k) (V v)).run P w = .ok () { w with heap := w.heap.setIfInBounds b (.map ents' clock') } ∧ ents'.toList.map (fun e => (e.key, e.val)) = mEnc K V (mS D k v) := by
    simp only [Instr.mapUpdate, Sem.run_bind, run_underlying hmt, Result.andThen_ok, MapKept.run_getObj_map hb, run_checkKey hkt (hkey k) _ 9999, hfk]
    cases hq : mFind V D k 0 with
    | none =>
      refine ⟨_, _, run_setObj_map _ hb, ?_⟩
      rw [(mFind_none hq z v).2]
      simp [mEnc] at he ⊢
      exact he
    | some r =>
      obtain ⟨j, u⟩ := r
      obtain ⟨_, _, ⟨b', h3⟩, h4⟩ := mFind_some hq z
      rw [Nat.sub_zero] at h3 h4
      have hj : ∃ e, ents[j]? = some e ∧ e.key = K k := by
        have h5 : (ents.toList.map (fun e => (e.key, e.val)))[j]? = some (K k, V b') := by rw [he]; simp [mEnc, h3]
        rw [List.getElem?_map] at h5
        cases hx : ents.toList[j]? with
        | none => rw [hx] at h5; cases h5
        | some e => rw [hx] at h5; simp at h5; exact ⟨e, by simpa using hx, h5.1⟩
      obtain ⟨e, he1, he2⟩ := hj
      simp only [he1, Option.map_some, Option.getD_some, he2, Sem.run_bind, run_keyThatStays (hkey k), Result.andThen_ok]
      refine ⟨_, _, run_setObj_map _ hb, ?_⟩
      rw [h4 v]
      have hmap : ∀ (l : List MapEntry) (D : List (α × β)) (j : Nat), l.map (fun e => (e.key, e.val)) = mEnc K V D → (l.modify j fun e => { key := K k, val := V v, born := e.born }).map (fun e => (e.key, e.val)) = mEnc K V (D.set j (k, v)) := by
        intro l
        induction l with
        | nil => intro D j h; cases D with
          | nil => simp [mEnc]
          | cons d D => simp [mEnc] at h
        | cons e l ih =>
          intro D j h
          cases D with
          | nil => simp [mEnc] at h
          | cons d D =>
            simp only [mEnc, List.map_cons, List.cons.injEq] at h
            cases j with
            | zero => simp [mEnc]; exact h.2
            | succ j =>
              have := ih D j h.2
              simp only [mEnc] at this
              simp only [List.modify_succ_cons, List.map_cons, List.set_cons_succ, mEnc, this, h.1]
      rw [Array.toList_modify]
      exact hmap _ _ _ he
  obtain ⟨ents', clock', hrun, hents⟩ := key
  unfold Oper.wp
  simp only [execOp, hst.regs.eval hm, hst.regs.eval hk, hst.regs.eval hx, Sem.run_bind, hrun, Result.andThen_ok, Sem.run_pure, Oper.upon_skip]
  have hlt := (Array.getElem?_eq_some_iff.1 hb).1
  refine hK' _ _ (kk _ _ (hst.step hst.regs (Below.setBlk hst.below hBb _) ?_ (by simpa using hst.base) (Kd.one b (fun k _ hk => setBlk_other w b k _ hk) (fun o ho => .inr ⟨hC, by rw [hb] at ho; cases ho; rfl⟩))))
  exact hst.sat.turn hH (e' := .mp b (mEnc K V (mS D k v))) ⟨hBb, ents', clock', by simp [hlt], hents⟩ (fun k _ hk => setBlk_other w b k _ (fun e => hk (by simp [Ent.own, e]))) (fun b' hb' => .inl hb')
end
end Go.Proofs.Ytamlldedmhkobaa.Hx
