/-
  More rules: maps with keys of any kind; their iterators.
-/
import Derived.MapKept
import Derived.Maps.RangeRun
import Derived.Shelf.Small.Strs
import Derived.Lib.AppendZeros
import Derived.Test.YtfbmkepogcimlaaXmA



namespace Go.Proofs.Ytfbmkepogcimlaa.Hx
open Go Go.RowKit Go.MapKept
set_option linter.unusedVariables false
set_option linter.unusedSimpArgs false
set_option linter.unusedSectionVars false
section
variable {α β : Type} [DecidableEq α]
/-- The place of a key. -/
def kIdx : List α → α → Option Nat
  | [], _ => none
  | a :: r, k => if a = k then some 0 else (kIdx r k).map (· + 1)
theorem kIdx_none {k : α} : ∀ {l : List α}, kIdx l k = none ↔ k ∉ l
  | [] => by simp [kIdx]
  | a :: r => by
    rw [kIdx]
    by_cases h : a = k
    · rw [if_pos h]; simp [h]
    · rw [if_neg h, Option.map_eq_none_iff, kIdx_none (l := r)]; simp [Ne.symm h]
theorem kIdx_some {k : α} : ∀ {l : List α} {j : Nat}, kIdx l k = some j → l[j]? = some k
  | [], j, h => by simp [kIdx] at h
  | a :: r, j, h => by
    rw [kIdx] at h
    by_cases ha : a = k
    · rw [if_pos ha] at h; cases h; simp [ha]
    · rw [if_neg ha] at h
      obtain ⟨i, hi, rfl⟩ := Option.map_eq_some_iff.1 h
      simpa using kIdx_some hi
/-- What a map has for a key; put; taken away. -/
def pO : List (α × β) → α → Option β
  | [], _ => none
  | (a, b) :: r, k => if a = k then some b else pO r k
def pS : List (α × β) → α → β → List (α × β)
  | [], k, v => [(k, v)]
  | (a, b) :: r, k, v => if a = k then (a, v) :: r else (a, b) :: pS r k v
def pD : List (α × β) → α → List (α × β)
  | [], _ => []
  | (a, b) :: r, k => if a = k then r else (a, b) :: pD r k
def pKeys (D : List (α × β)) : List α := D.map (·.1)
theorem pO_pS (v : β) (k j : α) : ∀ D : List (α × β), pO (pS D k v) j = if k = j then some v else pO D j
  | [] => by simp [pS, pO]
  | (a, b) :: r => by
    rw [pS]
    by_cases h : a = k
    · subst h; rw [if_pos rfl, pO, pO]
      by_cases h2 : a = j
      · rw [if_pos h2, if_pos h2]
      · rw [if_neg h2, if_neg h2, if_neg h2]
    · rw [if_neg h, pO, pO, pO_pS v k j r]
      by_cases h2 : a = j
      · subst h2; rw [if_pos rfl, if_neg (fun e => h e.symm), if_pos rfl]
      · rw [if_neg h2, if_neg h2]
theorem pKeys_pS (k : α) (v : β) : ∀ D : List (α × β), pKeys (pS D k v) = if k ∈ pKeys D then pKeys D else pKeys D ++ [k]
  | [] => by simp [pS, pKeys]
  | (a, b) :: r => by
    rw [pS]
    by_cases h : a = k
    · rw [if_pos h]; simp [pKeys, h]
    · have ih := pKeys_pS k v r
      rw [if_neg h]
      show a :: pKeys (pS r k v) = if k ∈ a :: pKeys r then a :: pKeys r else a :: pKeys r ++ [k]
      rw [ih]
      by_cases h2 : k ∈ pKeys r
      · rw [if_pos h2, if_pos (List.mem_cons_of_mem _ h2)]
      · rw [if_neg h2, if_neg (by simp [h2, Ne.symm h])]; rfl
theorem nodup_pS {D : List (α × β)} {k : α} {v : β} (h : (pKeys D).Nodup) : (pKeys (pS D k v)).Nodup := by
  rw [pKeys_pS]
  split
  · exact h
  · rename_i hk
    exact List.nodup_append.2 ⟨h, by simp, fun a ha b hb => by simp at hb; subst hb; intro e; subst e; exact hk ha⟩
theorem pS_none {k : α} : ∀ {D : List (α × β)}, kIdx (pKeys D) k = none → (∀ v, pS D k v = D ++ [(k, v)]) ∧ pD D k = D ∧ pO D k = none
  | [], _ => by simp [pS, pD, pO]
  | (a, b) :: r, h => by
    rw [pKeys, List.map_cons, kIdx] at h
    by_cases ha : a = k
    · rw [if_pos ha] at h; cases h
    · rw [if_neg ha, Option.map_eq_none_iff] at h
      obtain ⟨h1, h2, h3⟩ := pS_none (D := r) h
      refine ⟨fun v => by rw [pS, if_neg ha, h1 v]; rfl, by rw [pD, if_neg ha, h2], by rw [pO, if_neg ha, h3]⟩
theorem pS_some {k : α} : ∀ {D : List (α × β)} {j : Nat}, kIdx (pKeys D) k = some j → (∀ v, pS D k v = D.set j (k, v)) ∧ pD D k = D.eraseIdx j ∧ ∃ b, pO D k = some b ∧ D[j]? = some (k, b)
  | [], j, h => by simp [pKeys, kIdx] at h
  | (a, b) :: r, j, h => by
    rw [pKeys, List.map_cons, kIdx] at h
    by_cases ha : a = k
    · rw [if_pos ha] at h; cases h
      subst ha
      refine ⟨fun v => by rw [pS, if_pos rfl]; rfl, by rw [pD, if_pos rfl]; rfl, b, by rw [pO, if_pos rfl], by simp⟩
    · rw [if_neg ha] at h
      obtain ⟨i, hi, rfl⟩ := Option.map_eq_some_iff.1 h
      obtain ⟨h1, h2, b', h3, h4⟩ := pS_some (D := r) hi
      refine ⟨fun v => by rw [pS, if_neg ha, h1 v]; rfl, by rw [pD, if_neg ha, h2]; rfl, b', by rw [pO, if_neg ha, h3], by simpa using h4⟩
def pEnc (K : α → Value) (V : β → Value) (D : List (α × β)) : List (Value × Value) := D.map fun e => (K e.1, V e.2)
end
/-- Keys of a type. -/
structure KeyT (P : Program) (kt : TypeId) {α : Type} [DecidableEq α] (K : α → Value) : Prop where
  chk : ∀ e a w, (Instr.checkKey e 10000 kt (K a)).run P w = .ok () w
  bits : ∀ a, Instr.sameBits 10000 (K a) (K a) = true
  find : ∀ (k : α) (l : List MapEntry) (ks : List α) w, l.map (·.key) = ks.map K → (Instr.findKey kt (K k) l).run P w = .ok ((kIdx ks k).bind fun j => l[j]?.map fun e => (j, e.val)) w
/-- Keys that are compared by what they are made of. -/
theorem KeyT.agg {P : Program} {kt : TypeId} {α : Type} [DecidableEq α] {K : α → Value} {d : TypeDesc} (hk : P.underlying kt = some d) (hnow : ∀ a b, Instr.sameNow d (K a) (K b) = none) (chk : ∀ e a w, (Instr.checkKey e 10000 kt (K a)).run P w = .ok () w) (bits : ∀ a, Instr.sameBits 10000 (K a) (K a) = true)
    (heq : ∀ a b w, (Op.equal kt (K a) (K b)).run P w = .ok (decide (a = b)) w) : KeyT P kt K := by
  refine ⟨chk, bits, fun k l ks w hl => ?_⟩
  have ask : ∀ (l : List MapEntry) (ks : List α) (i : Nat), l.map (·.key) = ks.map K → (Instr.findAsking kt (K k) l i).run P w = .ok ((kIdx ks k).bind fun j => l[j]?.map fun e => (i + j, e.val)) w := by
    intro l
    induction l with
    | nil =>
      intro ks i h
      cases ks with
      | nil => rfl
      | cons a r => simp at h
    | cons e l ih =>
      intro ks i h
      cases ks with
      | nil => simp at h
      | cons a r =>
        rw [List.map_cons, List.map_cons, List.cons.injEq] at h
        have hh := heq k a w
        simp only [Instr.findAsking, Sem.run_bind, h.1, hh, Result.andThen_ok]
        rw [kIdx]
        by_cases ha : a = k
        · subst ha; simp
        · rw [if_neg ha]
          have : decide (k = a) = false := decide_eq_false (Ne.symm ha)
          rw [this]
          simp only [Bool.false_eq_true, if_false]
          rw [ih r (i + 1) h.2]
          cases kIdx r k with
          | none => rfl
          | some j => simp [Nat.add_assoc, Nat.add_comm 1 j]
  cases l with
  | nil =>
    have : ks = [] := by cases ks with
      | nil => rfl
      | cons a r => simp at hl
    subst this
    simp [Instr.findKey, run_underlying hk, Result.andThen, Instr.findNow, kIdx]
  | cons e l =>
    cases ks with
    | nil => simp at hl
    | cons a r =>
      have h1 : e.key = K a := by simp at hl; exact hl.1
      have h2 : Instr.findNow d (K k) (e :: l) 0 = none := by rw [Instr.findNow, h1, hnow]
      have h3 := ask (e :: l) (a :: r) 0 hl
      simp only [Nat.zero_add] at h3
      simp only [Instr.findKey, Sem.run_bind, run_underlying hk, Result.andThen_ok, h2]
      exact h3
/-- Keys of a basic type. -/
theorem KeyT.basic {P : Program} {kt : TypeId} {α : Type} [DecidableEq α] {K : α → Value} {d : TypeDesc} (hk : P.underlying kt = some d) (hkey : ∀ a, IsKey d (K a)) (hinj : ∀ a b, K a = K b → a = b) : KeyT P kt K := by
  refine ⟨fun e a w => run_checkKey hk (hkey a) e 9999, fun a => sameBits_self (hkey a) _, fun k l ks w hl => ?_⟩
  have now : ∀ (l : List MapEntry) (ks : List α) (i : Nat), l.map (·.key) = ks.map K → Instr.findNow d (K k) l i = some ((kIdx ks k).bind fun j => l[j]?.map fun e => (i + j, e.val)) := by
    intro l
    induction l with
    | nil =>
      intro ks i h
      cases ks with
      | nil => rfl
      | cons a r => simp at h
    | cons e l ih =>
      intro ks i h
      cases ks with
      | nil => simp at h
      | cons a r =>
        rw [List.map_cons, List.map_cons, List.cons.injEq] at h
        obtain ⟨q, hq, hiff⟩ := sameNow_of_keys (hkey k) (hkey a)
        rw [Instr.findNow, h.1, hq, kIdx]
        cases q with
        | true =>
          have : a = k := hinj _ _ (hiff.1 rfl).symm
          rw [if_pos this]; simp
        | false =>
          have : a ≠ k := fun he => by subst he; have := hiff.2 rfl; cases this
          rw [if_neg this]
          show Instr.findNow d (K k) l (i + 1) = _
          rw [ih r (i + 1) h.2]
          cases kIdx r k with
          | none => rfl
          | some j => simp [Nat.add_assoc, Nat.add_comm 1 j]
  have h3 := now l ks 0 hl
  simp only [Nat.zero_add] at h3
  exact run_findKey hk h3
/-- A map's type. -/
structure MapK (P : Program) (t : TypeId) {α β : Type} [DecidableEq α] (K : α → Value) (V : β → Value) (z : β) : Prop where
  ty : ∃ kt et, P.underlying t = some (.map kt et) ∧ KeyT P kt K ∧ ∀ w, (zeroValue et).run P w = .ok (V z) w
/-- A map's object, by its entries. -/
def MapO (es : List (Value × Value)) (o : Obj) : Prop := ∃ ents clock, o = .map ents clock ∧ ents.toList.map (fun e => (e.key, e.val)) = es ∧ (∀ x ∈ ents.toList, x.born < clock) ∧ (ents.toList.map (·.born)).Nodup
/-- The same, while it is gone through: the entries' numbers too. -/
def MapB (es : List (Value × Value)) (bs : List Nat) (clock : Nat) (o : Obj) : Prop := ∃ ents, o = .map ents clock ∧ ents.toList.map (fun e => (e.key, e.val)) = es ∧ ents.toList.map (·.born) = bs
/-- The same, with the number of the entry at a place. -/
def MapE (es : List (Value × Value)) (j : Nat) (st : Nat) (o : Obj) : Prop := ∃ ents clock, o = .map ents clock ∧ ents.toList.map (fun e => (e.key, e.val)) = es ∧ (∀ x ∈ ents.toList, x.born < clock) ∧ (ents.toList.map (·.born)).Nodup ∧ (ents.toList.map (·.born))[j]? = some st
/-- An iterator that has gone to these places. -/
def IterO (b : Nat) (bs : List Nat) (clock : Nat) (js : List Nat) (o : Obj) : Prop := ∃ seen, o = .mapIter (some b) clock seen clock ∧ (seen.toList = js.map fun j => bs.getD j 0) ∧ ∀ j ∈ js, j < bs.length
theorem MapO.known {es : List (Value × Value)} {o : Obj} (h : MapO es o) : Obj.known o = true := by obtain ⟨_, _, rfl, _⟩ := h; rfl
/-- An object that was there before. -/
def Ob (C : Nat) (w : World) (b : Nat) (f : Obj → Prop) : Prop := b < C ∧ ∃ o, w.heap[b]? = some o ∧ f o
theorem Ob.below {C b : Nat} {w w' : World} {f : Obj → Prop} (h : Ob C w b f) (hb : Below C w w') : Ob C w' b f := by
  obtain ⟨h1, o, h2, h3⟩ := h
  exact ⟨h1, o, by rw [hb.block b h1]; exact h2, h3⟩
theorem Ob.at {B b : Nat} {w0 w : World} {f : Obj → Prop} (h : Ob B w0 b f) (hb : Below B w0 w) (hB : B ≤ w.heap.size) : Ob w.heap.size w b f :=
  ⟨by have := h.1; omega, (h.below hb).2⟩
theorem Sat.ob {B id b : Nat} {w : World} {H : HL} {f : Obj → Prop} (h : Sat B w H) (hH : look H id = some (.ob b f)) : Ob w.heap.size w b f := by
  obtain ⟨_, o, h1, h2, _⟩ := h.ok _ _ hH
  exact ⟨(Array.getElem?_eq_some_iff.1 h1).1, o, h1, h2⟩
section
variable {α β : Type} {K : α → Value} {V : β → Value}
theorem ents_keys {l : List MapEntry} {D : List (α × β)} (h : l.map (fun e => (e.key, e.val)) = pEnc K V D) : l.map (·.key) = (pKeys D).map K := by
  have := congrArg (List.map Prod.fst) h
  unfold pEnc pKeys at *
  simpa [List.map_map, Function.comp_def] using this
theorem ents_at {l : List MapEntry} {D : List (α × β)} (h : l.map (fun e => (e.key, e.val)) = pEnc K V D) {j : Nat} {k : α} {b : β} (hj : D[j]? = some (k, b)) : ∃ e, l[j]? = some e ∧ e.key = K k ∧ e.val = V b := by
  have h1 : (l.map (fun e => (e.key, e.val)))[j]? = some (K k, V b) := by rw [h, pEnc, List.getElem?_map, hj]; rfl
  rw [List.getElem?_map] at h1
  obtain ⟨e, he, h2⟩ := Option.map_eq_some_iff.1 h1
  rw [Prod.mk.injEq] at h2
  exact ⟨e, he, h2.1, h2.2⟩
theorem ents_len {l : List MapEntry} {D : List (α × β)} (h : l.map (fun e => (e.key, e.val)) = pEnc K V D) : l.length = D.length := by
  have := congrArg List.length h
  simpa [pEnc] using this
end
section
variable {α β : Type} [DecidableEq α] {K : α → Value} {V : β → Value}
/-- What a look-up finds. -/
theorem found {P : Program} {kt : TypeId} (hK : KeyT P kt K) {l : List MapEntry} {D : List (α × β)} (h : l.map (fun e => (e.key, e.val)) = pEnc K V D) (k : α) (w : World) :
    (Instr.findKey kt (K k) l).run P w = .ok ((kIdx (pKeys D) k).bind fun j => (pO D k).map fun b => (j, V b)) w := by
  rw [hK.find k l (pKeys D) w (ents_keys h)]
  cases hj : kIdx (pKeys D) k with
  | none => rfl
  | some j =>
    obtain ⟨_, _, b, h3, h4⟩ := pS_some hj
    obtain ⟨e, he, _, hv⟩ := ents_at h h4
    simp [he, hv, h3]
theorem look_run {P : Program} {t : TypeId} {z : β} (hT : MapK P t K V z) {b clock : Nat} {ents : Array MapEntry} {D : List (α × β)} {w : World} (hb : w.heap[b]? = some (.map ents clock)) (he : ents.toList.map (fun e => (e.key, e.val)) = pEnc K V D) (k : α) (c : Bool) :
    (Instr.lookup t (.map (some b)) (K k) c).run P w = .ok (if c then .tuple #[V ((pO D k).getD z), .bool (pO D k).isSome] else V ((pO D k).getD z)) w := by
  obtain ⟨kt, et, hm, hK, hz⟩ := hT
  have hf := found (P := P) hK he k w
  simp only [Instr.lookup, Sem.run_bind, run_underlying hm, Result.andThen_ok, MapKept.run_getObj_map hb, Sem.run_pure, hK.chk, hf]
  cases hj : kIdx (pKeys D) k with
  | none =>
    have := (pS_none hj).2.2
    simp [hz w, this, Sem.run_pure]
  | some j =>
    obtain ⟨_, _, v, h3, _⟩ := pS_some hj
    simp [h3, Sem.run_pure]
/-- What a write makes of the entries. -/
theorem set_run {P : Program} {t : TypeId} {z : β} (hT : MapK P t K V z) {b clock : Nat} {ents : Array MapEntry} {D : List (α × β)} {w : World} (hb : w.heap[b]? = some (.map ents clock)) (he : ents.toList.map (fun e => (e.key, e.val)) = pEnc K V D) (hc : ∀ x ∈ ents.toList, x.born < clock) (hn : (ents.toList.map (·.born)).Nodup) (k : α) (v : β) :
    ∃ o, (Instr.mapUpdate t (.map (some b)) (K k) (V v)).run P w = .ok () { w with heap := w.heap.setIfInBounds b o } ∧ MapO (pEnc K V (pS D k v)) o := by
  obtain ⟨kt, et, hm, hK, hz⟩ := hT
  have hf := found (P := P) hK he k w
  simp only [Instr.mapUpdate, Sem.run_bind, run_underlying hm, Result.andThen_ok, MapKept.run_getObj_map hb, hK.chk, hf]
  cases hj : kIdx (pKeys D) k with
  | none =>
    obtain ⟨h1, _, h3⟩ := pS_none hj
    refine ⟨_, run_setObj_map _ hb, _, _, rfl, ?_, ?_, ?_⟩
    · rw [h1 v]; simp [pEnc] at he ⊢; exact he
    · intro x hx
      simp at hx
      rcases hx with hx | rfl
      · have := hc x (by simpa using hx); omega
      · exact Nat.lt_succ_self _
    · simp only [Array.toList_push, List.map_append, List.map_cons, List.map_nil]
      refine List.nodup_append.2 ⟨hn, by simp, fun x hx y hy => ?_⟩
      simp at hy; subst hy
      obtain ⟨e, he', rfl⟩ := List.mem_map.1 hx
      have := hc e he'; omega
  | some j =>
    obtain ⟨h1, _, b', h3, h4⟩ := pS_some hj
    obtain ⟨e, he1, he2, he3⟩ := ents_at he h4
    rw [Array.getElem?_toList] at he1
    simp only [h3, Option.map_some, Option.bind_some, he1, Option.getD_some, he2]
    have hkb : (Instr.keyThatStays (K k) (K k)).run P w = .ok (K k) w := by simp [Instr.keyThatStays, hK.bits k]
    simp only [Sem.run_bind, hkb, Result.andThen_ok]
    have hmap : ∀ (l : List MapEntry) (D : List (α × β)) (j : Nat), l.map (fun e => (e.key, e.val)) = pEnc K V D → (l.modify j fun e => { key := K k, val := V v, born := e.born }).map (fun e => (e.key, e.val)) = pEnc K V (D.set j (k, v)) ∧ (l.modify j fun e => { key := K k, val := V v, born := e.born }).map (·.born) = l.map (·.born) := by
      intro l
      induction l with
      | nil => intro D j h; cases D with
        | nil => simp [pEnc]
        | cons d D => simp [pEnc] at h
      | cons e l ih =>
        intro D j h
        cases D with
        | nil => simp [pEnc] at h
        | cons d D =>
          simp only [pEnc, List.map_cons, List.cons.injEq] at h
          cases j with
          | zero => simp [pEnc]; exact h.2
          | succ j =>
            have := ih D j h.2
            simp only [pEnc] at this
            simp only [List.modify_succ_cons, List.map_cons, List.set_cons_succ, pEnc, this.1, this.2, h.1]
            refine ⟨?_, ?_⟩ <;> first | trivial | rfl
    have hm2 := hmap ents.toList D j he
    refine ⟨_, run_setObj_map _ hb, _, _, rfl, ?_, ?_, ?_⟩
    · rw [h1 v, Array.toList_modify]; exact hm2.1
    · intro x hx
      have hx2 : x.born ∈ (ents.modify j fun e => { key := K k, val := V v, born := e.born }).toList.map (·.born) := List.mem_map_of_mem hx
      rw [Array.toList_modify, hm2.2] at hx2
      obtain ⟨y, hy, e⟩ := List.mem_map.1 hx2
      rw [← e]; exact hc y hy
    · rw [Array.toList_modify, hm2.2]; exact hn
end
section
variable {P : Program} {N : Fr} {B : Nat} {w0 : World} {Q : Exit → Act → World → Prop} {al : AL} {H : HL} {ops rest : List Oper} {d : Nat} {ty : TypeId} {pos : String} {after : Array Edge}
variable {α β : Type} [DecidableEq α] {K : α → Value} {V : β → Value} {z : β}
theorem r_look {x ix : Operand} {t : TypeId} {b id : Nat} {D : List (α × β)} {k : α} {c : Bool} (hx : ev al x = some (.map (some b))) (hi : ev al ix = some (K k)) (hH : look H id = some (.ob b (MapO (pEnc K V D)))) (hT : MapK P t K V z) :
    Runs P N B w0 (.lookup t x ix c) ty al H (if c then .tuple #[V ((pO D k).getD z), .bool (pO D k).isSome] else V ((pO D k).getD z)) := fun a w hst => by
  obtain ⟨_, o, hb, ⟨ents, clock, rfl, he, _⟩, _⟩ := hst.sat.ok _ _ hH
  simp only [execOp, hst.regs.eval hx, hst.regs.eval hi, Sem.run_bind, look_run hT hb he k c, Result.andThen_ok, Sem.run_pure]
theorem r_look1 {x ix : Operand} {t : TypeId} {b id : Nat} {D : List (α × β)} {k : α} (hx : ev al x = some (.map (some b))) (hi : ev al ix = some (K k)) (hH : look H id = some (.ob b (MapO (pEnc K V D)))) (hT : MapK P t K V z) : Runs P N B w0 (.lookup t x ix false) ty al H (V ((pO D k).getD z)) := r_look (c := false) hx hi hH hT
theorem r_mlen {x : Operand} {t : TypeId} {b id : Nat} {D : List (α × β)} (hx : ev al x = some (.map (some b))) (hH : look H id = some (.ob b (MapO (pEnc K V D)))) (hT : MapK P t K V z) :
    Runs P N B w0 (.call { callee := .builtin .len, args := #[x], argTypes := #[t] }) ty al H (.int .i64 (D.length : Int)) := fun a w hst => by
  obtain ⟨_, o, hb, ⟨ents, clock, rfl, he, _⟩, _⟩ := hst.sat.ok _ _ hH
  obtain ⟨kt, et, hm, _, _⟩ := hT
  have hl := ents_len he
  rw [Array.length_toList] at hl
  simp [BigFrame.execOp_builtin, BigFrame.builtin_len, hst.regs.eval hx, Builtin.len_, run_underlying hm, MapKept.run_getObj_map hb, Result.andThen, goInt, hl]
theorem ol_mkmapO {t : TypeId} (id : Nat) (hd : Nat.blt d N.n = true) (k : ∀ b, OL P N B w0 ops rest Q ((d, .map (some b)) :: al) ((id, .ob b (MapO [])) :: H)) :
    OL P N B w0 ops ({ dst := some d, op := .makeMap t none, type := ty, pos, after, guard := none } :: rest) Q al H := by
  intro a w hst
  refine wpList_plain rfl fun K hK => ?_
  unfold Oper.wp
  simp only [execOp, Option.map_none, Instr.makeMap, Sem.run_bind, Sem.run_pure, Result.andThen_ok, run_newObj, Oper.upon_value]
  have hal : ({ w with heap := w.heap.push (.map #[] 0) } : World) = w.alloc (.map #[] 0) := rfl
  rw [hal]
  refine hK _ _ (k w.heap.size _ _ (hst.step (hst.regs.put (by simpa using hd) _) (hst.below.alloc hst.base _) ?_ (by have := hst.base; simp; omega) (Kd.alloc w _)))
  exact hst.sat.new id (e := .ob w.heap.size (MapO [])) ⟨hst.base, _, (heap_alloc w _).1, ⟨#[], 0, rfl, rfl, by simp, by simp⟩, rfl⟩ (fun k hk => (heap_alloc w _).2 k hk) (fun b hb => by simp only [Ent.own, Option.some.injEq] at hb; omega)
/-- A state whose one object was turned. -/
theorem ol_mkmapE {α β : Type} (K : α → Value) (V : β → Value) {t : TypeId} (id : Nat) (hd : Nat.blt d N.n = true) (k : ∀ b, OL P N B w0 ops rest Q ((d, .map (some b)) :: al) ((id, .ob b (MapO (pEnc K V []))) :: H)) :
    OL P N B w0 ops ({ dst := some d, op := .makeMap t none, type := ty, pos, after, guard := none } :: rest) Q al H := ol_mkmapO id hd k
theorem St.turnO {a a' : Act} {al' : AL} {w : World} {b id : Nat} {f g : Obj → Prop} {o o' : Obj} (hst : St N B w0 al H a w) (hr : Regs N al' a') (hH : look H id = some (.ob b f)) (ho : w.heap[b]? = some o) (hg : g o') (hk : Obj.known o' = true) (hC : N.c b) :
    St N B w0 al' ((id, .ob b g) :: H) a' { w with heap := w.heap.setIfInBounds b o' } := by
  obtain ⟨hB, o1, h1, _, hk1⟩ := hst.sat.ok _ _ hH
  rw [ho] at h1; cases h1
  have hlt := (Array.getElem?_eq_some_iff.1 ho).1
  refine hst.step hr (Below.setBlk hst.below hB _) ?_ (by simpa using hst.base) (Kd.one b (fun k _ hk => setBlk_other w b k _ hk) (fun o ho' => .inr ⟨hC, by rw [ho] at ho'; cases ho'; exact hk1⟩))
  exact hst.sat.turn hH (e' := .ob b g) ⟨hB, o', by simp [hlt], hg, hk⟩ (fun k _ hk => setBlk_other w b k _ (fun e => hk (by simp [Ent.own, e]))) (fun b' hb' => .inl hb')
theorem ol_mapset {m ky x : Operand} {t : TypeId} {b id : Nat} {D : List (α × β)} {k : α} {v : β} (hm : ev al m = some (.map (some b))) (hk : ev al ky = some (K k)) (hx : ev al x = some (V v)) (hH : look H id = some (.ob b (MapO (pEnc K V D)))) (hT : MapK P t K V z) (hC : N.c b)
    (kk : OL P N B w0 ops rest Q al ((id, .ob b (MapO (pEnc K V (pS D k v)))) :: H)) :
    OL P N B w0 ops ({ dst := none, op := .mapUpdate t m ky x, type := ty, pos, after, guard := none } :: rest) Q al H := by
  intro a w hst
  refine wpList_plain rfl fun K' hK' => ?_
  obtain ⟨_, o, hb, ⟨ents, clock, rfl, he, hc, hn⟩, _⟩ := hst.sat.ok _ _ hH
  obtain ⟨o', hrun, ho'⟩ := set_run hT hb he hc hn k v
  unfold Oper.wp
  simp only [execOp, hst.regs.eval hm, hst.regs.eval hk, hst.regs.eval hx, Sem.run_bind, hrun, Result.andThen_ok, Sem.run_pure, Oper.upon_skip]
  exact hK' _ _ (kk _ _ (hst.turnO hst.regs hH hb ho' ho'.known hC))
/-! #### going through a map -/
end
section
variable {P : Program} {N : Fr} {B : Nat} {w0 : World} {al : AL} {H : HL} {ty : TypeId} {α β : Type} {K : α → Value} {V : β → Value}
end
end Go.Proofs.Ytfbmkepogcimlaa.Hx

/-
  Garages: parts of a whole, pieces of uses, and what they add up to. No program stands here.
-/



namespace Go.Proofs.Ytfbmkepogcimlaa
open Hx
set_option linter.unusedVariables false
set_option linter.unusedSimpArgs false
structure GPart where
  name : ByteArray
  cost : Int
structure GSlot where
  name : ByteArray
  rig : ByteArray
structure GMount where
  slot : ByteArray
  part : ByteArray
  fr : Int
  to_ : Int
structure GUse where
  name : ByteArray
  rig : ByteArray
  fr : Int
  sec : Int
  way : Int
structure GPiece where
  use : ByteArray
  slot : ByteArray
  part : ByteArray
  sec : Int
  way : Int
/-! #### a total by weights -/
theorem sum_snoc (l : List Int) (x : Int) : (l ++ [x]).sum = l.sum + x := by simp
theorem sum_nonneg : ∀ {l : List Int}, (∀ x ∈ l, 0 ≤ x) → 0 ≤ l.sum
  | [], _ => by simp
  | x :: r, h => by
    have h1 := h x (by simp)
    have h2 := sum_nonneg (l := r) fun y hy => h y (by simp [hy])
    simp; omega
theorem sum_le : ∀ {l : List Int} {b : Int}, (∀ x ∈ l, x ≤ b) → l.sum ≤ l.length * b
  | [], _, _ => by simp
  | x :: r, b, h => by
    have h1 := h x (by simp)
    have h2 := sum_le (l := r) fun y hy => h y (by simp [hy])
    simp only [List.sum_cons, List.length_cons]
    rw [Int.natCast_add, Int.add_mul]; simp; omega
theorem sum_take_le {l : List Int} (h : ∀ x ∈ l, 0 ≤ x) (k : Nat) : 0 ≤ (l.take k).sum ∧ (l.take k).sum ≤ l.sum := by
  have h1 := sum_nonneg (l := l.take k) fun x hx => h x (List.mem_of_mem_take hx)
  have h2 := sum_nonneg (l := l.drop k) fun x hx => h x (List.mem_of_mem_drop hx)
  have h3 : l.sum = (l.take k).sum + (l.drop k).sum := by rw [← List.sum_append, List.take_append_drop]
  omega
def qsL (total s : Int) (ws : List Int) : List Int := ws.map fun w => total * w / s
def rsL (total s : Int) (ws : List Int) : List Int := ws.map fun w => total * w % s
theorem qs_rs (total s : Int) : ∀ ws : List Int, total * ws.sum = s * (qsL total s ws).sum + (rsL total s ws).sum
  | [] => by simp [qsL, rsL]
  | w :: r => by
    have h := qs_rs total s r
    have h1 := Int.emod_add_mul_ediv (total * w) s
    simp only [qsL, rsL, List.map_cons, List.sum_cons] at h ⊢
    rw [Int.mul_add, Int.mul_add]; omega
theorem rs_bd {total s : Int} (hs : 0 < s) (ws : List Int) : 0 ≤ (rsL total s ws).sum ∧ (rsL total s ws).sum ≤ ws.length * s := by
  have h1 : ∀ x ∈ rsL total s ws, 0 ≤ x ∧ x ≤ s := fun x hx => by
    obtain ⟨w, _, rfl⟩ := List.mem_map.1 hx
    have := Int.emod_nonneg (total * w) (show s ≠ 0 by omega)
    have := Int.emod_lt_of_pos (total * w) hs
    omega
  refine ⟨sum_nonneg fun x hx => (h1 x hx).1, ?_⟩
  have := sum_le (l := rsL total s ws) fun x hx => (h1 x hx).2
  rwa [show (rsL total s ws).length = ws.length by simp [rsL]] at this
theorem qs_nonneg {total s : Int} (ht : 0 ≤ total) (hs : 0 < s) {ws : List Int} (hw : ∀ w ∈ ws, 0 ≤ w) : ∀ x ∈ qsL total s ws, 0 ≤ x := fun x hx => by
  obtain ⟨w, h1, rfl⟩ := List.mem_map.1 hx
  exact Int.ediv_nonneg (Int.mul_nonneg ht (hw w h1)) (by omega)
/-- What is left for the greatest rests. -/
theorem left_bd {total : Int} {ws : List Int} (ht : 0 ≤ total) (hw : ∀ w ∈ ws, 0 ≤ w) (hs : 0 < ws.sum) : 0 ≤ total - (qsL total ws.sum ws).sum ∧ total - (qsL total ws.sum ws).sum ≤ ws.length := by
  have h1 := qs_rs total ws.sum ws
  have h2 := rs_bd (total := total) hs ws
  have h3 : ws.sum * (total - (qsL total ws.sum ws).sum) = (rsL total ws.sum ws).sum := by rw [Int.mul_sub, Int.mul_comm ws.sum total]; omega
  constructor
  · refine Decidable.byContradiction fun h => ?_
    have h4 := Int.mul_le_mul_of_nonneg_left (show total - (qsL total ws.sum ws).sum ≤ -1 by omega) (show 0 ≤ ws.sum by omega)
    omega
  · refine Decidable.byContradiction fun h => ?_
    have h4 := Int.mul_le_mul_of_nonneg_left (show (ws.length : Int) + 1 ≤ total - (qsL total ws.sum ws).sum by omega) (show 0 ≤ ws.sum by omega)
    rw [Int.mul_add, Int.mul_comm ws.sum (ws.length : Int)] at h4
    omega
theorem qs_take_le {total : Int} {ws : List Int} (ht : 0 ≤ total) (hw : ∀ w ∈ ws, 0 ≤ w) (hs : 0 < ws.sum) (k : Nat) : 0 ≤ ((qsL total ws.sum ws).take k).sum ∧ ((qsL total ws.sum ws).take k).sum ≤ total := by
  have h1 := sum_take_le (qs_nonneg ht hs hw) k
  have h2 := left_bd ht hw hs
  omega
/-! #### the order of the rests -/
def ltR (rs : List Int) (x y : Int) : Bool := decide (rs.getD y.toNat 0 < rs.getD x.toNat 0)
theorem ltR_swo (rs : List Int) : Swo (ltR rs) := by
  refine ⟨fun x y h => ?_, fun x y z h1 h2 => ?_, fun x y z h1 h2 => ?_⟩ <;> simp only [ltR, decide_eq_true_eq, decide_eq_false_iff_not] at * <;> omega
def lt2 (rs : List Int) (x y : Int) : Bool := ltR rs x y || (!ltR rs y x && decide (x < y))
theorem lt2_iff {rs : List Int} {x y : Int} : lt2 rs x y = true ↔ RR (ltR rs) x y := by simp [lt2, RR]
theorem lt2_tot (rs : List Int) : TotO (lt2 rs) := by
  refine ⟨fun a b h => ?_, fun a b c h1 h2 => ?_, fun a b h1 h2 => ?_⟩
  · rw [← Bool.not_eq_true, lt2_iff]; rw [lt2_iff] at h
    exact fun h2 => RR.irr (ltR_swo rs) (RR.trans (ltR_swo rs) h h2)
  · rw [lt2_iff] at *; exact RR.trans (ltR_swo rs) h1 h2
  · simp only [lt2, ltR, Bool.or_eq_false_iff, Bool.and_eq_false_iff, Bool.not_eq_false', decide_eq_true_eq, decide_eq_false_iff_not] at h1 h2
    omega
def gordL (rs : List Int) (n : Nat) : List Int := sortL (lt2 rs) (tab n fun i => (i : Int))
theorem mem_tab {n : Nat} {f : Nat → Int} {x : Int} : x ∈ tab n f ↔ ∃ i, i < n ∧ f i = x := by simp [tab]
theorem ord_is {rs : List Int} {n : Nat} {g : Nat → Int} (h1 : SoR (ltR rs) g 0 n) (h2 : SaS (fun i => (i : Int)) g 0 n) : tab n g = gordL rs n := by
  refine sorted_one (R := RR (ltR rs)) (fun x h => RR.irr (ltR_swo rs) h) (fun x y z => RR.trans (ltR_swo rs)) _ _ ?_ ?_ fun x => ?_
  · rw [List.pairwise_iff_getElem]
    intro i j hi hj hij
    rw [tab_len] at hi hj
    simp only [tab, List.getElem_map, List.getElem_range]
    exact h1 i j (by omega) hij hj
  · have hs := sortL_srt (lt2_tot rs) (tab n fun i => (i : Int))
    have hn : (gordL rs n).Nodup := (sortL_perm _).nodup_iff.2 (by
      rw [List.nodup_iff_pairwise_ne, List.pairwise_iff_getElem]
      intro i j hi hj hij
      simp only [tab, List.getElem_map, List.getElem_range]
      omega)
    refine List.Pairwise.imp₂ (fun a b h3 h4 => ?_) hs hn
    rw [← lt2_iff]
    cases h5 : lt2 rs a b with
    | true => rfl
    | false => exact (h4 ((lt2_tot rs).total a b h5 h3)).elim
  · rw [gordL, (sortL_perm _).mem_iff, mem_tab, mem_tab]
    constructor
    · rintro ⟨i, hi, rfl⟩
      obtain ⟨y, _, hy, he⟩ := h2.2 i (by omega) hi
      exact ⟨y, hy, he.symm⟩
    · rintro ⟨i, hi, rfl⟩
      obtain ⟨y, _, hy, he⟩ := h2.1 i (by omega) hi
      exact ⟨y, hy, he.symm⟩
theorem ord_mem {rs : List Int} {n : Nat} {x : Int} (h : x ∈ gordL rs n) : 0 ≤ x ∧ x.toNat < n := by
  rw [gordL, (sortL_perm _).mem_iff, mem_tab] at h
  obtain ⟨i, hi, rfl⟩ := h
  omega
theorem ord_len (rs : List Int) (n : Nat) : (gordL rs n).length = n := by rw [gordL, sortL_len, tab_len]
/-- One more at each of these places. -/
def incL (out : List Int) (l : List Int) : List Int := l.foldl (fun o i => o.set i.toNat (o.getD i.toNat 0 + 1)) out
theorem incL_snoc (out l : List Int) (i : Int) : incL out (l ++ [i]) = (incL out l).set i.toNat ((incL out l).getD i.toNat 0 + 1) := by rw [incL, List.foldl_append]; rfl
theorem incL_len (l : List Int) : ∀ out : List Int, (incL out l).length = out.length := by
  induction l with
  | nil => intro out; rfl
  | cons i r ih => intro out; rw [incL, List.foldl_cons, ← incL, ih, List.length_set]
theorem set_sum : ∀ {out : List Int} {k : Nat}, k < out.length → (out.set k (out.getD k 0 + 1)).sum = out.sum + 1
  | [], k, h => by simp at h
  | x :: r, 0, h => by simp; omega
  | x :: r, k + 1, h => by
    have := set_sum (out := r) (k := k) (by simpa using h)
    simp at this ⊢; omega
theorem incL_sum (l : List Int) : ∀ out : List Int, (∀ i ∈ l, i.toNat < out.length) → (incL out l).sum = out.sum + l.length := by
  induction l with
  | nil => intro out _; simp [incL]
  | cons i r ih =>
    intro out h
    rw [incL, List.foldl_cons, ← incL, ih _ (fun j hj => by rw [List.length_set]; exact h j (by simp [hj])), set_sum (h i (by simp))]
    simp; omega
theorem incL_nonneg (l : List Int) : ∀ out : List Int, (∀ x ∈ out, 0 ≤ x) → ∀ x ∈ incL out l, 0 ≤ x := by
  induction l with
  | nil => intro out h; exact h
  | cons i r ih =>
    intro out h
    rw [incL, List.foldl_cons, ← incL]
    refine ih _ fun x hx => ?_
    rcases List.mem_or_eq_of_mem_set hx with h1 | h1
    · exact h x h1
    · subst h1
      by_cases hi : i.toNat < out.length
      · have := h _ (List.getElem_mem hi)
        rw [List.getD_eq_getElem?_getD, List.getElem?_eq_getElem hi]; simp; omega
      · rw [List.getD_eq_getElem?_getD, List.getElem?_eq_none (by omega)]; simp
def partsR (total : Int) (ws : List Int) : List Int := incL (qsL total ws.sum ws) ((gordL (rsL total ws.sum ws) ws.length).take (total - (qsL total ws.sum ws).sum).toNat)
theorem partsR_len (total : Int) (ws : List Int) : (partsR total ws).length = ws.length := by rw [partsR, incL_len]; simp [qsL]
theorem partsR_sum {total : Int} {ws : List Int} (ht : 0 ≤ total) (hw : ∀ w ∈ ws, 0 ≤ w) (hs : 0 < ws.sum) : (partsR total ws).sum = total := by
  have h := left_bd ht hw hs
  rw [partsR, incL_sum]
  · rw [List.length_take, ord_len]; omega
  · intro i hi
    have := (ord_mem (List.mem_of_mem_take hi)).2
    simpa [qsL] using this
theorem partsR_nonneg {total : Int} {ws : List Int} (ht : 0 ≤ total) (hw : ∀ w ∈ ws, 0 ≤ w) (hs : 0 < ws.sum) : ∀ x ∈ partsR total ws, 0 ≤ x := incL_nonneg _ _ (qs_nonneg ht hs hw)
theorem mem_le_sum : ∀ {l : List Int}, (∀ x ∈ l, 0 ≤ x) → ∀ x ∈ l, x ≤ l.sum
  | [], _, x, h => by simp at h
  | y :: r, hp, x, h => by
    have h1 := sum_nonneg (l := r) fun z hz => hp z (by simp [hz])
    have h2 := hp y (by simp)
    rcases List.mem_cons.1 h with rfl | h
    · simp; omega
    · have := mem_le_sum (l := r) (fun z hz => hp z (by simp [hz])) x h
      simp; omega
/-! #### the pieces of a use -/
def endM (m : GMount) : Int := if m.to_ < 0 then 4611686018427387904 else m.to_
abbrev noB : ByteArray := ⟨#[]⟩
def addP (u : GUse) (slot part : ByteArray) (to : Int) (st : List GPiece × Int) : List GPiece × Int :=
  if min to (u.fr + u.sec) > st.2 then (st.1 ++ [⟨u.name, slot, part, min to (u.fr + u.sec) - st.2, 0⟩], min to (u.fr + u.sec)) else st
def mtP (u : GUse) (slot : ByteArray) (st : List GPiece × Int) (m : GMount) : List GPiece × Int :=
  if endM m > st.2 then addP u slot m.part (endM m) (addP u slot noB m.fr st) else st
def mtN (u : GUse) (slot : ByteArray) (ms : List GMount) (k : Nat) : List GPiece × Int := (ms.take k).foldl (mtP u slot) ([], u.fr)
def secP (u : GUse) (slot : ByteArray) (ms : List GMount) : List GPiece × Int := addP u slot noB (u.fr + u.sec) (mtN u slot ms ms.length)
theorem mtN_succ {u : GUse} {slot : ByteArray} {ms : List GMount} {k : Nat} {m : GMount} (h : ms[k]? = some m) : mtN u slot ms (k + 1) = mtP u slot (mtN u slot ms k) m := by
  rw [mtN, mtN, List.take_add_one, h, List.foldl_append]; rfl
structure SecI (u : GUse) (slot : ByteArray) (N : Nat) (st : List GPiece × Int) : Prop where
  sum : (st.1.map (·.sec)).sum = st.2 - u.fr
  bd : u.fr ≤ st.2 ∧ st.2 ≤ u.fr + u.sec
  each : ∀ p ∈ st.1, 1 ≤ p.sec ∧ p.use = u.name ∧ p.slot = slot
  len : st.1.length ≤ N
theorem SecI.add {u : GUse} {slot part : ByteArray} {N : Nat} {st : List GPiece × Int} (to : Int) (h : SecI u slot N st) : SecI u slot (N + 1) (addP u slot part to st) := by
  have h1 := h.bd
  unfold addP
  split
  · rename_i hgt
    refine ⟨?_, ⟨by dsimp only; omega, by dsimp only; omega⟩, fun p hp => ?_, ?_⟩
    · dsimp only; rw [List.map_append, List.sum_append, h.sum]; simp; omega
    · dsimp only at hp
      rcases List.mem_append.1 hp with hp | hp
      · exact h.each p hp
      · simp at hp; subst hp; exact ⟨by dsimp only; omega, rfl, rfl⟩
    · have := h.len; simp; omega
  · exact ⟨h.sum, h.bd, h.each, by have := h.len; omega⟩
theorem SecI.more {u : GUse} {slot : ByteArray} {M N : Nat} {st : List GPiece × Int} (h : SecI u slot N st) (hm : N ≤ M) : SecI u slot M st := ⟨h.sum, h.bd, h.each, by have := h.len; omega⟩
theorem mtN_is {u : GUse} {slot : ByteArray} {ms : List GMount} (hs : 0 ≤ u.sec) : ∀ k, SecI u slot (2 * k) (mtN u slot ms k)
  | 0 => ⟨by show (0 : Int) = u.fr - u.fr; omega, ⟨by show u.fr ≤ u.fr; omega, by show u.fr ≤ _; omega⟩, fun p hp => (by cases hp), by show (0 : Nat) ≤ _; omega⟩
  | k + 1 => by
    by_cases hk : k < ms.length
    · rw [mtN_succ (List.getElem?_eq_getElem hk), mtP]
      split
      · exact ((mtN_is hs k).add _).add _
      · exact (mtN_is hs k).more (by omega)
    · have : mtN u slot ms (k + 1) = mtN u slot ms k := by rw [mtN, mtN, List.take_of_length_le (by omega), List.take_of_length_le (by omega)]
      rw [this]; exact (mtN_is hs k).more (by omega)
theorem secP_is {u : GUse} {slot : ByteArray} {ms : List GMount} (hs : 0 ≤ u.sec) : SecI u slot (2 * ms.length + 1) (secP u slot ms) := (mtN_is hs ms.length).add _
theorem secP_sum {u : GUse} {slot : ByteArray} {ms : List GMount} (hs : 0 ≤ u.sec) : ((secP u slot ms).1.map (·.sec)).sum = u.sec := by
  have h := mtN_is (slot := slot) (ms := ms) hs ms.length
  have h1 := h.bd
  have h2 := (secP_is (slot := slot) (ms := ms) hs).sum
  have h3 : (secP u slot ms).2 = u.fr + u.sec := by
    unfold secP addP
    split
    · dsimp only; omega
    · omega
  rw [h2, h3]; omega
/-- The first k pieces have their ways. -/
def wayK (l : List GPiece) (ws : List Int) (k : Nat) : List GPiece := l.mapIdx fun i p => if i < k then ⟨p.use, p.slot, p.part, p.sec, ws.getD i 0⟩ else p
theorem wayK_zero (l : List GPiece) (ws : List Int) : wayK l ws 0 = l := by
  apply List.ext_getElem?
  intro i
  rw [wayK, List.getElem?_mapIdx]
  cases l[i]? <;> simp
theorem wayK_len (l : List GPiece) (ws : List Int) (k : Nat) : (wayK l ws k).length = l.length := by simp [wayK]
theorem wayK_get {l : List GPiece} {ws : List Int} {k : Nat} : (wayK l ws k)[k]? = l[k]? := by
  rw [wayK, List.getElem?_mapIdx]
  cases l[k]? <;> simp
theorem wayK_succ {l : List GPiece} {ws : List Int} {k : Nat} {p : GPiece} {n : Int} (hp : (wayK l ws k)[k]? = some p) (hn : ws[k]? = some n) : (wayK l ws k).set k ⟨p.use, p.slot, p.part, p.sec, n⟩ = wayK l ws (k + 1) := by
  rw [wayK_get] at hp
  have hk := (List.getElem?_eq_some_iff.1 hp).1
  apply List.ext_getElem?
  intro i
  rw [List.getElem?_set, wayK_len, wayK, wayK, List.getElem?_mapIdx, List.getElem?_mapIdx]
  by_cases hik : k = i
  · subst hik
    rw [if_pos rfl, if_pos hk, hp]
    simp [List.getD_eq_getElem?_getD, hn]
  · rw [if_neg hik]
    cases l[i]? with
    | none => rfl
    | some q =>
      by_cases h1 : i < k
      · simp [h1, show i < k + 1 by omega]
      · simp [h1, show ¬i < k + 1 by omega]
def piecesR (u : GUse) (slot : ByteArray) (ms : List GMount) : List GPiece := wayK (secP u slot ms).1 (partsR u.way ((secP u slot ms).1.map (·.sec))) (secP u slot ms).1.length
structure UseOk (u : GUse) : Prop where
  fr : 0 ≤ u.fr ∧ u.fr ≤ 86399999999
  sec : 1 ≤ u.sec ∧ u.sec ≤ 1000000
  way : 0 ≤ u.way ∧ u.way ≤ 1000000000
  name : u.name ≠ noB
theorem wayK_all (l : List GPiece) (ws : List Int) (h : ws.length = l.length) : (wayK l ws l.length).map (·.way) = ws ∧ (wayK l ws l.length).map (·.sec) = l.map (·.sec) := by
  constructor
  · apply List.ext_getElem?
    intro i
    rw [List.getElem?_map, wayK, List.getElem?_mapIdx]
    by_cases hi : i < l.length
    · rw [List.getElem?_eq_getElem hi, List.getElem?_eq_getElem (show i < ws.length by omega)]
      simp [hi, List.getD_eq_getElem?_getD, List.getElem?_eq_getElem (show i < ws.length by omega)]
    · rw [List.getElem?_eq_none (by omega), List.getElem?_eq_none (by omega)]; rfl
  · apply List.ext_getElem?
    intro i
    rw [List.getElem?_map, wayK, List.getElem?_mapIdx, List.getElem?_map]
    by_cases hi : i < l.length
    · rw [List.getElem?_eq_getElem hi]; simp [hi]
    · rw [List.getElem?_eq_none (by omega)]; rfl
theorem piecesR_sec (u : GUse) (slot : ByteArray) (ms : List GMount) : (piecesR u slot ms).map (·.sec) = (secP u slot ms).1.map (·.sec) := (wayK_all _ _ (by rw [partsR_len, List.length_map])).2
theorem piecesR_way (u : GUse) (slot : ByteArray) (ms : List GMount) : (piecesR u slot ms).map (·.way) = partsR u.way ((secP u slot ms).1.map (·.sec)) := (wayK_all _ _ (by rw [partsR_len, List.length_map])).1
theorem secs_pos {u : GUse} {slot : ByteArray} {ms : List GMount} (hu : UseOk u) : ∀ w ∈ (secP u slot ms).1.map (·.sec), 0 ≤ w := fun w hw => by
  obtain ⟨p, hp, rfl⟩ := List.mem_map.1 hw
  have := ((secP_is (slot := slot) (ms := ms) (by have := hu.sec; omega)).each p hp).1; omega
theorem pieces_sums {u : GUse} {slot : ByteArray} {ms : List GMount} (hu : UseOk u) : ((piecesR u slot ms).map (·.sec)).sum = u.sec ∧ ((piecesR u slot ms).map (·.way)).sum = u.way := by
  have h0 := hu.sec
  have hs := secP_sum (u := u) (slot := slot) (ms := ms) (by omega)
  rw [piecesR_sec, piecesR_way]
  exact ⟨hs, partsR_sum (by have := hu.way; omega) (secs_pos hu) (by rw [hs]; omega)⟩
theorem wayK_mem {l : List GPiece} {ws : List Int} {k : Nat} {p : GPiece} (h : p ∈ wayK l ws k) : ∃ q ∈ l, p.use = q.use ∧ p.slot = q.slot ∧ p.part = q.part ∧ p.sec = q.sec := by
  obtain ⟨i, hi⟩ := List.getElem?_of_mem h
  rw [wayK, List.getElem?_mapIdx] at hi
  cases hl : l[i]? with
  | none => rw [hl] at hi; cases hi
  | some q =>
    rw [hl] at hi
    refine ⟨q, List.mem_of_getElem? hl, ?_⟩
    simp only [Option.map_some, Option.some.injEq] at hi
    split at hi <;> subst hi <;> exact ⟨rfl, rfl, rfl, rfl⟩
theorem pieces_each {u : GUse} {slot : ByteArray} {ms : List GMount} (hu : UseOk u) : ∀ p ∈ piecesR u slot ms, (0 ≤ p.sec ∧ p.sec ≤ 1000000) ∧ (0 ≤ p.way ∧ p.way ≤ 1000000000) ∧ p.use = u.name ∧ p.slot = slot := fun p hp => by
  have h0 := hu.sec
  have h1 := hu.way
  have hI := secP_is (u := u) (slot := slot) (ms := ms) (by omega)
  obtain ⟨q, hq, e1, e2, e3, e4⟩ := wayK_mem hp
  have hq' := hI.each q hq
  have hsum := pieces_sums (slot := slot) (ms := ms) hu
  have a1 : ∀ x ∈ (piecesR u slot ms).map (·.sec), 0 ≤ x := fun x hx => by rw [piecesR_sec] at hx; exact secs_pos hu x hx
  have a2 : ∀ x ∈ (piecesR u slot ms).map (·.way), 0 ≤ x := fun x hx => by
    rw [piecesR_way] at hx
    exact partsR_nonneg (by omega) (secs_pos hu) (by rw [secP_sum (by omega)]; omega) x hx
  have b1 := mem_le_sum a1 p.sec (List.mem_map.2 ⟨p, hp, rfl⟩)
  have b2 := mem_le_sum a2 p.way (List.mem_map.2 ⟨p, hp, rfl⟩)
  have c1 := a1 p.sec (List.mem_map.2 ⟨p, hp, rfl⟩)
  have c2 := a2 p.way (List.mem_map.2 ⟨p, hp, rfl⟩)
  exact ⟨by omega, by omega, e1.trans hq'.2.1, e2.trans hq'.2.2⟩
theorem piecesR_len {u : GUse} {slot : ByteArray} {ms : List GMount} (hs : 0 ≤ u.sec) : (piecesR u slot ms).length ≤ 2 * ms.length + 1 := by
  rw [piecesR, wayK_len]; exact (secP_is hs).len
end Go.Proofs.Ytfbmkepogcimlaa

/-
  Garages: what a right garage is, and the two sums of TopWearAddsUp. No program stands here.
-/



namespace Go.Proofs.Ytfbmkepogcimlaa
open Go Hx
set_option linter.unusedVariables false
set_option linter.unusedSimpArgs false
/-! #### names in order -/
def bytesB (b : ByteArray) : List UInt8 := b.data.toList
def ofB (l : List UInt8) : ByteArray := ⟨l.toArray⟩
theorem ofB_bytesB (b : ByteArray) : ofB (bytesB b) = b := by simp [ofB, bytesB]
theorem bytesB_inj {x y : ByteArray} (h : bytesB x = bytesB y) : x = y := by rw [← ofB_bytesB x, h, ofB_bytesB]
theorem less_eq : ∀ (x y : List UInt8), Op.bytesLess x y = decide (x < y)
  | [], [] => by simp [Op.bytesLess]
  | _ :: _, [] => by simp [Op.bytesLess]
  | [], _ :: _ => by simp [Op.bytesLess]
  | a :: x, b :: y => by
    rw [Op.bytesLess, less_eq x y]
    simp only [List.cons_lt_cons_iff]
    by_cases h1 : a < b <;> by_cases h2 : a = b <;> by_cases h3 : x < y <;> simp [h1, h2, h3]
theorem sLt_iff {x y : ByteArray} : sLt x y = true ↔ bytesB x < bytesB y := by
  unfold sLt; rw [less_eq, ByteArray.toList_eq, ByteArray.toList_eq, decide_eq_true_iff]; rfl
theorem sEq_iff {x y : ByteArray} : sEq x y = true ↔ x = y := by
  unfold sEq
  rw [ByteArray.toList_eq, ByteArray.toList_eq, beq_iff_eq]
  exact ⟨fun h => bytesB_inj h, fun h => by rw [h]⟩
theorem sEq_dec (x y : ByteArray) : sEq x y = decide (x = y) := by
  rw [Bool.eq_iff_iff, sEq_iff, decide_eq_true_iff]
def ltB (x y : ByteArray) : Prop := bytesB x < bytesB y
theorem ltB_trans {x y z : ByteArray} (h : ltB x y) (h2 : ltB y z) : ltB x z := List.lt_trans h h2
theorem ltB_irr {x : ByteArray} (h : ltB x x) : False := List.lt_irrefl _ h
theorem ltB_tri (x y : ByteArray) (h : ¬ltB x y) (h2 : x ≠ y) : ltB y x := by
  apply Classical.byContradiction
  intro h3
  exact h2 (bytesB_inj (List.le_antisymm (List.not_lt.1 h3) (List.not_lt.1 h)))
theorem sLe_no {x y : ByteArray} (h : (sLt x y || sEq x y) = false) : ltB y x := by
  rw [Bool.or_eq_false_iff] at h
  exact ltB_tri x y (fun h1 => by rw [sLt_iff.2 h1] at h; cases h.1) (fun h1 => by rw [sEq_iff.2 h1] at h; cases h.2)
/-! #### what Check looks at -/
def gcmpS (a b : ByteArray) : Int := Lib.compareBytes a.data.toList b.data.toList
def gorL : List Int → Int
  | [] => 0
  | x :: r => if x ≠ 0 then x else gorL r
def gcmpI (a b : Int) : Int := if a < b then -1 else if b < a then 1 else 0
abbrev KB := List (ByteArray × Bool)
abbrev KI := List (ByteArray × Int)
def hasK (D : KB) (k : ByteArray) : Bool := (pO D k).getD false
def keysM (l : List ByteArray) : KB := l.foldl (fun D k => pS D k true) []
theorem keysM_snoc (l : List ByteArray) (k : ByteArray) : keysM (l ++ [k]) = pS (keysM l) k true := by rw [keysM, List.foldl_append]; rfl
theorem hasK_pS (D : KB) (k j : ByteArray) : hasK (pS D k true) j = if k = j then true else hasK D j := by
  unfold hasK; rw [pO_pS]; split <;> rfl
def momB (n : Int) : Bool := inB n 0 86399999999
def ordPa (p : Option GPart) (x : GPart) : Bool := match p with | none => false | some y => sLt x.name y.name || sEq x.name y.name
def fPa (p : Option GPart) (x : GPart) : Int := if nameB x.name = false then 8 else if ordPa p x = true then 10 else if inB x.cost 0 1000000000 = false then 9 else 0
def ordSl (p : Option GSlot) (x : GSlot) : Bool := match p with | none => false | some y => sLt x.name y.name || sEq x.name y.name
def fSl (p : Option GSlot) (x : GSlot) : Int := if nameB x.name = false then 8 else if ordSl p x = true then 10 else if nameB x.rig = false then 8 else 0
def mcf (y x : GMount) : Int := gorL [gcmpI y.fr x.fr, gcmpS y.slot x.slot]
def ordMo (p : Option GMount) (x : GMount) : Bool := match p with | none => false | some y => decide (0 ≤ mcf y x)
def fMo (P S : KB) (p : Option GMount) (x : GMount) : Int :=
  if hasK S x.slot = false ∨ hasK P x.part = false then 4 else if momB x.fr = false ∨ (x.to_ ≠ -1 ∧ momB x.to_ = false) then 9
  else if (x.to_ ≠ -1 ∧ x.to_ ≤ x.fr) ∨ ordMo p x = true then 10 else 0
def mo2 : KI → KI → List GMount → Int
  | _, _, [] => 0
  | D, E, m :: r => if m.fr < (pO D m.slot).getD 0 ∨ m.fr < (pO E m.part).getD 0 then 11 else mo2 (pS D m.slot (endM m)) (pS E m.part (endM m)) r
structure GarD where
  ps : List GPart
  ss : List GSlot
  ms : List GMount
  us : List GUse
def gchkM (g : GarD) : Int := if chkE (fMo (keysM (g.ps.map (·.name))) (keysM (g.ss.map (·.name)))) none g.ms ≠ 0 then chkE (fMo (keysM (g.ps.map (·.name))) (keysM (g.ss.map (·.name)))) none g.ms else mo2 [] [] g.ms
theorem gchkM_1 {g : GarD} (h : chkE (fMo (keysM (g.ps.map (·.name))) (keysM (g.ss.map (·.name)))) none g.ms ≠ 0) : gchkM g = chkE (fMo (keysM (g.ps.map (·.name))) (keysM (g.ss.map (·.name)))) none g.ms := if_pos h
theorem gchkM_2 {g : GarD} (h : chkE (fMo (keysM (g.ps.map (·.name))) (keysM (g.ss.map (·.name)))) none g.ms = 0) : gchkM g = mo2 [] [] g.ms := if_neg (fun h1 => h1 h)
def gchkU (u : GUse) (twice : Bool) : Int :=
  if nameB u.name = false ∨ nameB u.rig = false then 8 else if twice = true then 5
  else if momB u.fr = false ∨ inB u.sec 1 1000000 = false ∨ inB u.way 0 1000000000 = false then 9 else 0
def ucf (y x : GUse) : Int := gorL [gcmpI y.fr x.fr, gcmpS y.name x.name]
def ordU (p : Option GUse) (x : GUse) : Bool := match p with | none => false | some y => decide (0 ≤ ucf y x)
def usN : KB → Option GUse → List GUse → Int
  | _, _, [] => 0
  | K, p, u :: r => if gchkU u (hasK K u.name) ≠ 0 then gchkU u (hasK K u.name) else if ordU p u = true then 10 else usN (pS K u.name true) (some u) r
def gchkG (g : GarD) : Int :=
  if g.ps.length > 500 ∨ g.ss.length > 100 ∨ g.ms.length > 2000 ∨ g.us.length > 5000 then 3
  else if chkE fPa none g.ps ≠ 0 then chkE fPa none g.ps
  else if chkE fSl none g.ss ≠ 0 then chkE fSl none g.ss
  else if gchkM g ≠ 0 then gchkM g
  else usN [] none g.us
structure GarL (g : GarD) : Prop where
  p : g.ps.length ≤ 500
  s : g.ss.length ≤ 100
  m : g.ms.length ≤ 2000
  u : g.us.length ≤ 5000
theorem gchkG_3 {g : GarD} (h : g.ps.length > 500 ∨ g.ss.length > 100 ∨ g.ms.length > 2000 ∨ g.us.length > 5000) : gchkG g = 3 := if_pos h
theorem gchkG_l {g : GarD} (h : ¬(g.ps.length > 500 ∨ g.ss.length > 100 ∨ g.ms.length > 2000 ∨ g.us.length > 5000)) : GarL g := ⟨by omega, by omega, by omega, by omega⟩
theorem gchkG_p {g : GarD} (hl : GarL g) {c : Int} (h : chkE fPa none g.ps = c) (hc : c ≠ 0) : gchkG g = c := by
  have := hl.p; have := hl.s; have := hl.m; have := hl.u
  subst h; rw [gchkG, if_neg (by omega), if_pos hc]
theorem gchkG_s {g : GarD} (hl : GarL g) (h1 : chkE fPa none g.ps = 0) {c : Int} (h : chkE fSl none g.ss = c) (hc : c ≠ 0) : gchkG g = c := by
  have := hl.p; have := hl.s; have := hl.m; have := hl.u
  subst h; rw [gchkG, if_neg (by omega), if_neg (fun h => h h1), if_pos hc]
theorem gchkG_m {g : GarD} (hl : GarL g) (h1 : chkE fPa none g.ps = 0) (h2 : chkE fSl none g.ss = 0) (hc : gchkM g ≠ 0) : gchkG g = gchkM g := by
  have := hl.p; have := hl.s; have := hl.m; have := hl.u
  rw [gchkG, if_neg (by omega), if_neg (fun h => h h1), if_neg (fun h => h h2), if_pos hc]
theorem gchkG_u {g : GarD} (hl : GarL g) (h1 : chkE fPa none g.ps = 0) (h2 : chkE fSl none g.ss = 0) (h3 : gchkM g = 0) {c : Int} (h : usN [] none g.us = c) : gchkG g = c := by
  have := hl.p; have := hl.s; have := hl.m; have := hl.u
  subst h; rw [gchkG, if_neg (by omega), if_neg (fun h => h h1), if_neg (fun h => h h2), if_neg (fun h => h h3)]
theorem nameB_ne {s : ByteArray} (h : nameB s = true) : s ≠ noB := fun he => by
  subst he
  have : nameB noB = false := by decide
  rw [this] at h; cases h
theorem usN_run : ∀ {us : List GUse} {K : KB} {p : Option GUse}, usN K p us = 0 → (∀ u ∈ us, UseOk u ∧ hasK K u.name = false) ∧ (us.map (·.name)).Nodup
  | [], _, _, _ => ⟨fun u h => (by cases h), List.nodup_nil⟩
  | u :: r, K, p, h => by
    rw [usN] at h
    by_cases h1 : gchkU u (hasK K u.name) = 0
    · rw [if_neg (fun h2 => h2 h1)] at h
      by_cases h2 : ordU p u = true
      · rw [if_pos h2] at h; omega
      · rw [if_neg h2] at h
        obtain ⟨i1, i2⟩ := usN_run h
        have hu : UseOk u ∧ hasK K u.name = false := by
          unfold gchkU at h1
          by_cases a1 : nameB u.name = false ∨ nameB u.rig = false
          · rw [if_pos a1] at h1; omega
          · rw [if_neg a1] at h1
            by_cases a2 : hasK K u.name = true
            · rw [if_pos a2] at h1; omega
            · rw [if_neg a2] at h1
              by_cases a3 : momB u.fr = false ∨ inB u.sec 1 1000000 = false ∨ inB u.way 0 1000000000 = false
              · rw [if_pos a3] at h1; omega
              · simp only [not_or, Bool.not_eq_false] at a1 a3
                exact ⟨⟨inB_iff.1 a3.1, inB_iff.1 a3.2.1, inB_iff.1 a3.2.2, nameB_ne a1.1⟩, by simpa using a2⟩
        refine ⟨fun v hv => ?_, ?_⟩
        · rcases List.mem_cons.1 hv with rfl | hv
          · exact hu
          · have h3 := i1 v hv
            refine ⟨h3.1, ?_⟩
            have h4 := h3.2
            rw [hasK_pS] at h4
            split at h4
            · cases h4
            · exact h4
        · rw [List.map_cons, List.nodup_cons]
          refine ⟨fun hm => ?_, i2⟩
          obtain ⟨v, hv, he⟩ := List.mem_map.1 hm
          have h4 := (i1 v hv).2
          rw [hasK_pS, if_pos he.symm] at h4; cases h4
    · rw [if_pos h1] at h; exact (h1 h).elim
theorem fSl_run : ∀ {ss : List GSlot} {p : Option GSlot}, chkE fSl p ss = 0 → (∀ s ∈ ss, nameB s.rig = true) ∧ (∀ y x, p = some y → ss.head? = some x → ltB y.name x.name) ∧ (ss.map (·.name)).Pairwise ltB
  | [], _, _ => ⟨fun s h => (by cases h), fun y x _ h => (by cases h), List.Pairwise.nil⟩
  | s :: r, p, h => by
    rw [chkE_cons] at h
    by_cases h1 : fSl p s = 0
    · rw [if_neg (fun h2 => h2 h1)] at h
      obtain ⟨i1, i2, i3⟩ := fSl_run h
      unfold fSl at h1
      by_cases a1 : nameB s.name = false
      · rw [if_pos a1] at h1; omega
      rw [if_neg a1] at h1
      by_cases a2 : ordSl p s = true
      · rw [if_pos a2] at h1; omega
      rw [if_neg a2] at h1
      by_cases a3 : nameB s.rig = false
      · rw [if_pos a3] at h1; omega
      refine ⟨fun v hv => ?_, fun y x hp hx => ?_, ?_⟩
      · rcases List.mem_cons.1 hv with rfl | hv
        · simpa using a3
        · exact i1 v hv
      · simp at hx; subst hx; subst hp
        exact sLe_no (by simpa [ordSl] using a2)
      · rw [List.map_cons, List.pairwise_cons]
        refine ⟨fun n hn => ?_, i3⟩
        cases r with
        | nil => simp at hn
        | cons b r =>
          have hb := i2 s b rfl rfl
          rw [List.map_cons] at hn i3
          rcases List.mem_cons.1 hn with rfl | hn
          · exact hb
          · exact ltB_trans hb ((List.pairwise_cons.1 i3).1 n hn)
    · rw [if_pos h1] at h; exact (h1 h).elim
structure GarOk (g : GarD) : Prop extends GarL g where
  rig : ∀ s ∈ g.ss, nameB s.rig = true
  slots : (g.ss.map (·.name)).Nodup
  use : ∀ u ∈ g.us, UseOk u
  uses : (g.us.map (·.name)).Nodup
theorem garOk {g : GarD} (h : gchkG g = 0) : GarOk g := by
  unfold gchkG at h
  by_cases h0 : g.ps.length > 500 ∨ g.ss.length > 100 ∨ g.ms.length > 2000 ∨ g.us.length > 5000
  · rw [if_pos h0] at h; omega
  rw [if_neg h0] at h
  by_cases h1 : chkE fPa none g.ps = 0
  · rw [if_neg (fun h2 => h2 h1)] at h
    by_cases h2 : chkE fSl none g.ss = 0
    · rw [if_neg (fun h3 => h3 h2)] at h
      by_cases h3 : gchkM g = 0
      · rw [if_neg (fun h4 => h4 h3)] at h
        have hs := fSl_run h2
        have hu := usN_run h
        exact ⟨gchkG_l h0, hs.1, hs.2.2.imp fun {a b} hab he => by subst he; exact ltB_irr hab, fun u hm => (hu.1 u hm).1, hu.2⟩
      · rw [if_pos h3] at h; exact (h3 h).elim
    · rw [if_pos h2] at h; exact (h2 h).elim
  · rw [if_pos h1] at h; exact (h1 h).elim
/-! #### all pieces -/
def slotP (g : GarD) (u : GUse) (s : GSlot) : List (GUse × GPiece) := if s.rig = u.rig then (piecesR u s.name (g.ms.filter fun m => decide (m.slot = s.name))).map (fun p => (u, p)) else []
def useP (g : GarD) (u : GUse) : List (GUse × GPiece) := g.ss.flatMap (slotP g u)
def allP (g : GarD) : List (GUse × GPiece) := g.us.flatMap (useP g)
theorem flatMap_take {α β : Type} {l : List α} {f : α → List β} {k : Nat} {x : α} (h : l[k]? = some x) : (l.take (k + 1)).flatMap f = (l.take k).flatMap f ++ f x := by
  rw [List.take_add_one, h, List.flatMap_append]; simp
theorem slotP_each {g : GarD} {u : GUse} {s : GSlot} (hu : UseOk u) : ∀ x ∈ slotP g u s, x.1 = u ∧ (0 ≤ x.2.sec ∧ x.2.sec ≤ 1000000) ∧ (0 ≤ x.2.way ∧ x.2.way ≤ 1000000000) ∧ x.2.use = u.name ∧ x.2.slot = s.name := fun x hx => by
  unfold slotP at hx
  split at hx
  · obtain ⟨p, hp, rfl⟩ := List.mem_map.1 hx
    exact ⟨rfl, pieces_each hu p hp⟩
  · cases hx
theorem slotP_len {g : GarD} {u : GUse} {s : GSlot} (hu : UseOk u) (hm : g.ms.length ≤ 2000) : (slotP g u s).length ≤ 4001 := by
  have h0 := hu.sec
  unfold slotP
  split
  · rw [List.length_map]
    have h1 := piecesR_len (u := u) (slot := s.name) (ms := g.ms.filter fun m => decide (m.slot = s.name)) (by omega)
    have h2 := List.length_filter_le (fun m : GMount => decide (m.slot = s.name)) g.ms
    omega
  · simp
theorem flatMap_len {α β : Type} (f : α → List β) (b : Nat) : ∀ (l : List α), (∀ x ∈ l, (f x).length ≤ b) → (l.flatMap f).length ≤ l.length * b
  | [], _ => by simp
  | x :: r, h => by
    have h1 := h x (by simp)
    have h2 := flatMap_len f b r fun y hy => h y (by simp [hy])
    rw [List.flatMap_cons, List.length_append, List.length_cons, Nat.add_mul]; omega
theorem useP_len {g : GarD} {u : GUse} (hu : UseOk u) (hl : GarL g) (k : Nat) : ((g.ss.take k).flatMap (slotP g u)).length ≤ 400100 := by
  have h1 := flatMap_len (slotP g u) 4001 (g.ss.take k) fun s _ => slotP_len hu hl.m
  have h2 := hl.s
  have h3 : (g.ss.take k).length ≤ 100 := by rw [List.length_take]; omega
  have := Nat.mul_le_mul_right 4001 h3
  omega
theorem useP_full {g : GarD} {u : GUse} (hu : UseOk u) (hl : GarL g) : (useP g u).length ≤ 400100 := by
  have := useP_len hu hl g.ss.length
  rwa [List.take_length] at this
theorem allP_len {g : GarD} (hg : GarOk g) (k : Nat) : ((g.us.take k).flatMap (useP g)).length ≤ 2000500000 := by
  have h1 := flatMap_len (useP g) 400100 (g.us.take k) fun u hu => useP_full (hg.use u (List.mem_of_mem_take hu)) hg.toGarL
  have h2 := hg.u
  have h3 : (g.us.take k).length ≤ 5000 := by rw [List.length_take]; omega
  have := Nat.mul_le_mul_right 400100 h3
  omega
structure PcOk (x : GUse × GPiece) : Prop where
  sec : 0 ≤ x.2.sec ∧ x.2.sec ≤ 1000000
  way : 0 ≤ x.2.way ∧ x.2.way ≤ 1000000000
theorem useP_each {g : GarD} {u : GUse} (hu : UseOk u) : ∀ x ∈ useP g u, x.1 = u ∧ PcOk x ∧ x.2.use = u.name := fun x hx => by
  obtain ⟨s, _, hx⟩ := List.mem_flatMap.1 hx
  have := slotP_each hu x hx
  exact ⟨this.1, ⟨this.2.1, this.2.2.1⟩, this.2.2.2.1⟩
theorem allP_each {g : GarD} (hg : GarOk g) : ∀ x ∈ allP g, PcOk x := fun x hx => by
  obtain ⟨u, hu, hx⟩ := List.mem_flatMap.1 hx
  exact (useP_each (hg.use u hu) x hx).2.1
/-! #### the first sum -/
def selS (f : GPiece → Int) (c : GPiece → Bool) (l : List GPiece) : Int := ((l.filter c).map f).sum
theorem selS_app (f : GPiece → Int) (c : GPiece → Bool) (l m : List GPiece) : selS f c (l ++ m) = selS f c l + selS f c m := by simp [selS]
theorem selS_succ {f : GPiece → Int} {c : GPiece → Bool} {l : List GPiece} {k : Nat} {p : GPiece} (h : l[k]? = some p) : selS f c (l.take (k + 1)) = selS f c (l.take k) + if c p = true then f p else 0 := by
  rw [List.take_add_one, h, selS_app]
  cases hc : c p <;> simp [selS, hc]
theorem selS_none {f : GPiece → Int} {c : GPiece → Bool} {l : List GPiece} (h : ∀ p ∈ l, c p = false) : selS f c l = 0 := by
  rw [selS, List.filter_eq_nil_iff.2 (fun p hp => by rw [h p hp]; simp)]; rfl
theorem selS_all {f : GPiece → Int} {c : GPiece → Bool} {l : List GPiece} (h : ∀ p ∈ l, c p = true) : selS f c l = (l.map f).sum := by
  rw [selS, List.filter_eq_self.2 h]
theorem selS_bd {f : GPiece → Int} {c : GPiece → Bool} {b : Int} (hb : 0 ≤ b) : ∀ {l : List GPiece}, (∀ p ∈ l, 0 ≤ f p ∧ f p ≤ b) → 0 ≤ selS f c l ∧ selS f c l ≤ l.length * b
  | [], _ => by simp [selS]
  | p :: r, h => by
    have h1 := h p (by simp)
    have h2 := selS_bd (c := c) hb (l := r) fun q hq => h q (by simp [hq])
    have h3 : selS f c (p :: r) = (if c p = true then f p else 0) + selS f c r := by
      cases hc : c p <;> simp [selS, hc]
    rw [h3, List.length_cons, Int.natCast_add, Int.add_mul]
    simp only [Int.cast_ofNat_Int, Int.one_mul]
    split <;> omega
def totS (f : GUse → Int) (rig : ByteArray) (us : List GUse) : Int := ((us.filter fun u => decide (u.rig = rig)).map f).sum
theorem totS_succ {f : GUse → Int} {rig : ByteArray} {us : List GUse} {k : Nat} {u : GUse} (h : us[k]? = some u) : totS f rig (us.take (k + 1)) = totS f rig (us.take k) + if u.rig = rig then f u else 0 := by
  rw [List.take_add_one, h, totS, totS, List.filter_append, List.map_append, List.sum_append]
  by_cases hc : u.rig = rig <;> simp [hc]
theorem totS_bd {f : GUse → Int} {rig : ByteArray} {b : Int} (hb : 0 ≤ b) : ∀ {us : List GUse}, (∀ u ∈ us, 0 ≤ f u ∧ f u ≤ b) → 0 ≤ totS f rig us ∧ totS f rig us ≤ us.length * b
  | [], _ => by simp [totS]
  | p :: r, h => by
    have h1 := h p (by simp)
    have h2 := totS_bd (rig := rig) hb (us := r) fun q hq => h q (by simp [hq])
    have h3 : totS f rig (p :: r) = (if p.rig = rig then f p else 0) + totS f rig r := by
      by_cases hc : p.rig = rig <;> simp [totS, hc]
    rw [h3, List.length_cons, Int.natCast_add, Int.add_mul]
    simp only [Int.cast_ofNat_Int, Int.one_mul]
    split <;> omega
def inSl (n : ByteArray) (p : GPiece) : Bool := decide (p.slot = n)
/-- What a use gave to a slot. -/
theorem use_slot {g : GarD} {u : GUse} {s : GSlot} {f : GPiece → Int} {t : Int} (hu : UseOk u) (hf : ∀ slot ms, ((piecesR u slot ms).map f).sum = t) {l : List GSlot} (hn : (l.map (·.name)).Nodup) (hs : s ∈ l) (hr : s.rig = u.rig) : selS f (inSl s.name) ((l.flatMap (slotP g u)).map (·.2)) = t := by
  obtain ⟨a, b, rfl⟩ := List.append_of_mem hs
  rw [List.map_append, List.map_cons, List.nodup_append] at hn
  have hne : ∀ x ∈ a ++ b, x.name ≠ s.name := fun x hx he => by
    rcases List.mem_append.1 hx with hx | hx
    · exact hn.2.2 x.name (List.mem_map.2 ⟨x, hx, rfl⟩) s.name (by simp) he
    · exact (List.nodup_cons.1 hn.2.1).1 (List.mem_map.2 ⟨x, hx, he⟩)
  have hz : ∀ c : List GSlot, (∀ x ∈ c, x.name ≠ s.name) → selS f (inSl s.name) ((c.flatMap (slotP g u)).map (·.2)) = 0 := fun c hc => selS_none fun p hp => by
    obtain ⟨x, hx, rfl⟩ := List.mem_map.1 hp
    obtain ⟨v, hv, hx⟩ := List.mem_flatMap.1 hx
    have := (slotP_each hu x hx).2.2.2.2
    unfold inSl
    rw [this]; exact decide_eq_false (hc v hv)
  rw [List.flatMap_append, List.flatMap_cons, List.map_append, List.map_append, selS_app, selS_app, hz a (fun x hx => hne x (by simp [hx])), hz b (fun x hx => hne x (by simp [hx]))]
  rw [selS_all fun p hp => by
    obtain ⟨x, hx, rfl⟩ := List.mem_map.1 hp
    exact decide_eq_true (slotP_each hu x hx).2.2.2.2]
  have : (slotP g u s).map (·.2) = piecesR u s.name (g.ms.filter fun m => decide (m.slot = s.name)) := by
    unfold slotP; rw [if_pos hr, List.map_map]; exact List.map_id _
  rw [this, hf]; omega
theorem use_slot0 {g : GarD} {u : GUse} {s : GSlot} {f : GPiece → Int} (hu : UseOk u) (hs : s ∈ g.ss) (hn : (g.ss.map (·.name)).Nodup) (hr : s.rig ≠ u.rig) : selS f (inSl s.name) ((useP g u).map (·.2)) = 0 := selS_none fun p hp => by
  obtain ⟨x, hx, rfl⟩ := List.mem_map.1 hp
  obtain ⟨v, hv, hx⟩ := List.mem_flatMap.1 hx
  have h1 := (slotP_each hu x hx).2.2.2.2
  unfold inSl
  rw [h1]
  refine decide_eq_false fun he => ?_
  have : v = s := by
    obtain ⟨i, hi, rfl⟩ := List.mem_iff_getElem.1 hv
    obtain ⟨j, hj, rfl⟩ := List.mem_iff_getElem.1 hs
    have := (List.getElem_inj (h₀ := by simpa using hi) (h₁ := by simpa using hj) hn).1 (by simpa using he)
    subst this; rfl
  subst this
  unfold slotP at hx
  rw [if_neg hr] at hx; cases hx
/-- What was attributed adds up to what the rig was used. -/
theorem slot_total {g : GarD} (hg : GarOk g) {s : GSlot} (hs : s ∈ g.ss) {f : GPiece → Int} {t : GUse → Int} (hf : ∀ u ∈ g.us, ∀ slot ms, ((piecesR u slot ms).map f).sum = t u) : selS f (inSl s.name) ((allP g).map (·.2)) = totS t s.rig g.us := by
  suffices ∀ us : List GUse, (∀ u ∈ us, u ∈ g.us) → selS f (inSl s.name) ((us.flatMap (useP g)).map (·.2)) = totS t s.rig us from this g.us fun u h => h
  intro us
  induction us with
  | nil => intro _; rfl
  | cons u r ih =>
    intro hm
    have hu := hg.use u (hm u (by simp))
    have h3 : totS t s.rig (u :: r) = (if u.rig = s.rig then t u else 0) + totS t s.rig r := by
      by_cases hc : u.rig = s.rig <;> simp [totS, hc]
    rw [List.flatMap_cons, List.map_append, selS_app, ih (fun v hv => hm v (by simp [hv])), h3]
    congr 1
    by_cases hr : u.rig = s.rig
    · rw [if_pos hr]
      exact use_slot (g := g) (s := s) (f := f) hu (hf u (hm u (by simp))) hg.slots hs hr.symm
    · rw [if_neg hr]; exact use_slot0 hu hs hg.slots (fun h => hr h.symm)
/-! #### the second sum -/
abbrev WS := Int × Int × Int × ByteArray
def wrS (part : ByteArray) (fr to : Int) (st : WS) (x : GUse × GPiece) : WS :=
  if x.2.part ≠ part ∨ x.1.fr < fr ∨ x.1.fr ≥ to then st else (st.1 + x.2.sec, st.2.1 + x.2.way, if x.1.name ≠ st.2.2.2 then st.2.2.1 + 1 else st.2.2.1, if x.1.name ≠ st.2.2.2 then x.1.name else st.2.2.2)
def wrF (part : ByteArray) (fr to : Int) (l : List (GUse × GPiece)) : WS := l.foldl (wrS part fr to) (0, 0, 0, noB)
theorem wrF_snoc (part : ByteArray) (fr to : Int) (l : List (GUse × GPiece)) (x : GUse × GPiece) : wrF part fr to (l ++ [x]) = wrS part fr to (wrF part fr to l) x := by rw [wrF, List.foldl_append]; rfl
structure WrB (n : Int) (st : WS) : Prop where
  s : 0 ≤ st.1 ∧ st.1 ≤ n * 1000000
  w : 0 ≤ st.2.1 ∧ st.2.1 ≤ n * 1000000000
  u : 0 ≤ st.2.2.1 ∧ st.2.2.1 ≤ n
theorem wrS_bd {part : ByteArray} {fr to n : Int} {st : WS} {x : GUse × GPiece} (hx : PcOk x) (h : WrB n st) : WrB (n + 1) (wrS part fr to st x) := by
  obtain ⟨⟨a1, a2⟩, ⟨b1, b2⟩, c1, c2⟩ := h
  obtain ⟨⟨d1, d2⟩, e1, e2⟩ := hx
  unfold wrS
  split
  · exact ⟨⟨a1, by omega⟩, ⟨b1, by omega⟩, c1, by omega⟩
  · refine ⟨⟨by dsimp only; omega, by dsimp only; omega⟩, ⟨by dsimp only; omega, by dsimp only; omega⟩, ?_, ?_⟩ <;> dsimp only <;> split <;> omega
theorem wrF_bd {part : ByteArray} {fr to : Int} : ∀ (n : Nat) (l : List (GUse × GPiece)), l.length = n → (∀ x ∈ l, PcOk x) → WrB n (wrF part fr to l)
  | 0, l, hn, _ => by obtain rfl := List.eq_nil_of_length_eq_zero hn; exact ⟨⟨Int.le_refl 0, by show (0 : Int) ≤ _; omega⟩, ⟨Int.le_refl 0, by show (0 : Int) ≤ _; omega⟩, Int.le_refl 0, by show (0 : Int) ≤ _; omega⟩
  | n + 1, l, hn, h => by
    obtain ⟨q, x, rfl⟩ : ∃ q x, l = q ++ [x] := ⟨l.dropLast, l.getLast (by intro h; subst h; simp at hn), (List.dropLast_concat_getLast _).symm⟩
    rw [wrF_snoc]
    exact wrS_bd (h x (by simp)) (wrF_bd n q (by simpa using hn) fun y hy => h y (by simp [hy]))
abbrev WT := Int × Int × KB
def wtS (nm : ByteArray) (st : WT) (p : GPiece) : WT := if p.part = nm then (st.1 + p.sec, st.2.1 + p.way, pS st.2.2 p.use true) else st
def wtF (nm : ByteArray) (l : List GPiece) : WT := l.foldl (wtS nm) (0, 0, [])
theorem wtF_succ {nm : ByteArray} {l : List GPiece} {k : Nat} {p : GPiece} (h : l[k]? = some p) : wtF nm (l.take (k + 1)) = wtS nm (wtF nm (l.take k)) p := by
  rw [List.take_add_one, h, wtF, wtF, List.foldl_append]; rfl
structure WtB (n : Int) (st : WT) : Prop where
  s : 0 ≤ st.1 ∧ st.1 ≤ n * 1000000
  w : 0 ≤ st.2.1 ∧ st.2.1 ≤ n * 1000000000
structure PcOk' (p : GPiece) : Prop where
  sec : 0 ≤ p.sec ∧ p.sec ≤ 1000000
  way : 0 ≤ p.way ∧ p.way ≤ 1000000000
theorem wtS_bd {nm : ByteArray} {n : Int} {st : WT} {p : GPiece} (hx : PcOk' p) (h : WtB n st) : WtB (n + 1) (wtS nm st p) := by
  obtain ⟨⟨a1, a2⟩, ⟨b1, b2⟩⟩ := h
  obtain ⟨⟨d1, d2⟩, e1, e2⟩ := hx
  unfold wtS
  split
  · exact ⟨⟨by dsimp only; omega, by dsimp only; omega⟩, by dsimp only; omega, by dsimp only; omega⟩
  · exact ⟨⟨a1, by omega⟩, b1, by omega⟩
theorem wtF_bd {nm : ByteArray} {l : List GPiece} (h : ∀ p ∈ l, PcOk' p) : ∀ k : Nat, WtB k (wtF nm (l.take k))
  | 0 => ⟨⟨Int.le_refl 0, by show (0 : Int) ≤ _; omega⟩, Int.le_refl 0, by show (0 : Int) ≤ _; omega⟩
  | k + 1 => by
    by_cases hk : k < l.length
    · rw [wtF_succ (List.getElem?_eq_getElem hk)]
      exact wtS_bd (h _ (List.getElem_mem hk)) (wtF_bd h k)
    · have : l.take (k + 1) = l.take k := by rw [List.take_of_length_le (by omega), List.take_of_length_le (by omega)]
      rw [this]
      obtain ⟨⟨a1, a2⟩, b1, b2⟩ := wtF_bd h k (nm := nm)
      exact ⟨⟨a1, by omega⟩, b1, by omega⟩
/-- Both counts of what a part was used, within a use. -/
structure WR (A : List ByteArray) (cur : ByteArray) (a : WS) (b : WT) : Prop where
  s : a.1 = b.1
  w : a.2.1 = b.2.1
  n : a.2.2.1 = b.2.2.length
  here : a.2.2.2 = cur ↔ cur ∈ pKeys b.2.2
  last : a.2.2.2 = noB ∨ a.2.2.2 ∈ cur :: A
  keys : ∀ k ∈ pKeys b.2.2, k ∈ cur :: A
theorem keys_len' (D : KB) : (pKeys D).length = D.length := by rw [pKeys, List.length_map]
theorem pS_in {D : KB} {t : ByteArray} (h : t ∈ pKeys D) : (pS D t true).length = D.length ∧ pKeys (pS D t true) = pKeys D := by
  have h1 := pKeys_pS t true D
  rw [if_pos h] at h1
  exact ⟨by rw [← keys_len', h1, keys_len'], h1⟩
theorem pS_out {D : KB} {t : ByteArray} (h : t ∉ pKeys D) : (pS D t true).length = D.length + 1 ∧ pKeys (pS D t true) = pKeys D ++ [t] := by
  have h1 := pKeys_pS t true D
  rw [if_neg h] at h1
  exact ⟨by rw [← keys_len', h1, List.length_append, keys_len']; rfl, h1⟩
theorem WR.step {A : List ByteArray} {u : GUse} {nm : ByteArray} {a : WS} {b : WT} {x : GUse × GPiece} (h : WR A u.name a b) (h1 : x.1 = u) (h2 : x.2.use = u.name) (hf : 0 ≤ u.fr ∧ u.fr < 86399999999) : WR A u.name (wrS nm 0 86399999999 a x) (wtS nm b x.2) := by
  obtain ⟨v, p⟩ := x
  dsimp only at h1 h2
  subst h1
  unfold wrS wtS
  dsimp only
  by_cases hp : p.part = nm
  · rw [if_neg (fun hh => by rcases hh with hh | hh | hh; exact hh hp; omega; omega), if_pos hp, h2]
    by_cases hl : v.name = a.2.2.2
    · have hk := h.here.1 hl.symm
      rw [if_neg (fun h => h hl), if_neg (fun h => h hl)]
      refine ⟨by dsimp only; rw [h.s], by dsimp only; rw [h.w], ?_, ?_, ?_, ?_⟩
      · dsimp only; rw [(pS_in hk).1]; exact h.n
      · dsimp only; rw [(pS_in hk).2]; exact h.here
      · dsimp only; exact h.last
      · dsimp only; rw [(pS_in hk).2]; exact h.keys
    · have hk : v.name ∉ pKeys b.2.2 := fun hm => hl (h.here.2 hm).symm
      rw [if_pos hl, if_pos hl]
      refine ⟨by dsimp only; rw [h.s], by dsimp only; rw [h.w], ?_, ?_, ?_, ?_⟩
      · dsimp only; rw [(pS_out hk).1, h.n]; rfl
      · dsimp only; rw [(pS_out hk).2]; simp
      · dsimp only; simp
      · dsimp only; rw [(pS_out hk).2]
        intro k hkk
        rcases List.mem_append.1 hkk with hkk | hkk
        · exact h.keys k hkk
        · simp at hkk; simp [hkk]
  · rw [if_pos (.inl hp), if_neg hp]; exact h
theorem WR.fold {A : List ByteArray} {u : GUse} {nm : ByteArray} (hf : 0 ≤ u.fr ∧ u.fr < 86399999999) : ∀ {l : List (GUse × GPiece)} {a : WS} {b : WT}, (∀ x ∈ l, x.1 = u ∧ x.2.use = u.name) → WR A u.name a b → WR A u.name (l.foldl (wrS nm 0 86399999999) a) ((l.map (·.2)).foldl (wtS nm) b)
  | [], a, b, _, h => h
  | x :: r, a, b, hx, h => by
    have h1 := hx x (by simp)
    rw [List.foldl_cons, List.map_cons, List.foldl_cons]
    exact WR.fold hf (fun y hy => hx y (by simp [hy])) (h.step h1.1 h1.2 hf)
/-- The same between two uses. -/
structure WB (A : List ByteArray) (a : WS) (b : WT) : Prop where
  s : a.1 = b.1
  w : a.2.1 = b.2.1
  n : a.2.2.1 = b.2.2.length
  last : a.2.2.2 = noB ∨ a.2.2.2 ∈ A
  keys : ∀ k ∈ pKeys b.2.2, k ∈ A
theorem WB.next {A : List ByteArray} {a : WS} {b : WT} (h : WB A a b) {cur : ByteArray} (h1 : cur ∉ A) (h2 : cur ≠ noB) : WR A cur a b := by
  refine ⟨h.s, h.w, h.n, ⟨fun he => ?_, fun hm => (h1 (h.keys _ hm)).elim⟩, ?_, fun k hk => by simp [h.keys k hk]⟩
  · rcases h.last with h3 | h3
    · exact (h2 (he.symm.trans h3)).elim
    · rw [he] at h3; exact (h1 h3).elim
  · rcases h.last with h3 | h3
    · exact .inl h3
    · exact .inr (by simp [h3])
theorem WR.past {A : List ByteArray} {cur : ByteArray} {a : WS} {b : WT} (h : WR A cur a b) : WB (cur :: A) a b := ⟨h.s, h.w, h.n, h.last, h.keys⟩
theorem wear_uses {g : GarD} {nm : ByteArray} (hg : GarOk g) (hf : ∀ u ∈ g.us, u.fr ≠ 86399999999) : ∀ (us : List GUse) (A : List ByteArray) (a : WS) (b : WT), (∀ u ∈ us, u ∈ g.us ∧ u.name ∉ A) → (us.map (·.name)).Nodup → WB A a b →
    ∃ A', WB A' ((us.flatMap (useP g)).foldl (wrS nm 0 86399999999) a) (((us.flatMap (useP g)).map (·.2)).foldl (wtS nm) b)
  | [], A, a, b, _, _, h => ⟨A, h⟩
  | u :: r, A, a, b, hu, hn, h => by
    have h1 := hu u (by simp)
    have hok := hg.use u h1.1
    have hf1 := hf u h1.1
    have hfr := hok.fr
    rw [List.map_cons, List.nodup_cons] at hn
    rw [List.flatMap_cons, List.foldl_append, List.map_append, List.foldl_append]
    have h2 := WR.fold (nm := nm) (u := u) (A := A) (l := useP g u) ⟨hfr.1, by omega⟩ (fun x hx => (fun q => ⟨q.1, q.2.2⟩) (useP_each hok x hx)) (h.next h1.2 hok.name)
    refine wear_uses hg hf r (u.name :: A) _ _ (fun v hv => ⟨(hu v (by simp [hv])).1, fun hm => ?_⟩) hn.2 h2.past
    rcases List.mem_cons.1 hm with he | hm
    · exact hn.1 (List.mem_map.2 ⟨v, hv, he⟩)
    · exact (hu v (by simp [hv])).2 hm
theorem wear_same {g : GarD} (hg : GarOk g) (hf : ∀ u ∈ g.us, u.fr ≠ 86399999999) (nm : ByteArray) :
    (wrF nm 0 86399999999 (allP g)).1 = (wtF nm ((allP g).map (·.2))).1 ∧ (wrF nm 0 86399999999 (allP g)).2.1 = (wtF nm ((allP g).map (·.2))).2.1 ∧ (wrF nm 0 86399999999 (allP g)).2.2.1 = ((wtF nm ((allP g).map (·.2))).2.2.length : Int) := by
  obtain ⟨A', h⟩ := wear_uses (nm := nm) hg hf g.us [] (0, 0, 0, noB) (0, 0, []) (fun u hu => ⟨hu, by simp⟩) hg.uses ⟨rfl, rfl, rfl, .inl rfl, fun k hk => by simp [pKeys] at hk⟩
  exact ⟨h.s, h.w, h.n⟩
end Go.Proofs.Ytfbmkepogcimlaa

/-
  How activities lie in memory.
-/


namespace Go.Proofs.Ytfbmkepogcimlaa
open Go Go.RowKit Hx
set_option linter.unusedVariables false
def encSmp : Enc SmpR := { size := 7, cells := fun x => [.int .i64 x.at_, .int .i64 x.x, .int .i64 x.y, .int .i64 x.z, .int .i64 x.pulse, .int .i64 x.power, .int .i64 x.steps], val := fun x => .agg #[.int .i64 x.at_, .int .i64 x.x, .int .i64 x.y, .int .i64 x.z, .int .i64 x.pulse, .int .i64 x.power, .int .i64 x.steps], len := fun _ => rfl, ones := fun _ u h => (by simp at h; rcases h with h | h | h | h | h | h | h <;> subst h <;> rfl), pos := by decide, vc := fun _ => rfl }
def mk_encSample (a b c d e f g : Int) : SmpR := ⟨a, b, c, d, e, f, g⟩
def encLap : Enc LapR := { size := 3, cells := fun x => [.int .i64 x.from_, .int .i64 x.to, .string x.name], val := fun x => .agg #[.int .i64 x.from_, .int .i64 x.to, .string x.name], len := fun _ => rfl, ones := fun _ u h => (by simp at h; rcases h with h | h | h <;> subst h <;> rfl), pos := by decide, vc := fun _ => rfl }
def mk_encLap (a b : Int) (c : ByteArray) : LapR := ⟨a, b, c⟩
def encStr : Enc ByteArray := { size := 1, cells := fun x => [.string x], val := fun x => .string x, len := fun _ => rfl, ones := fun _ u h => by simp at h; subst h; rfl, pos := by decide, vc := fun _ => rfl }
/-- An activity's value, and the lists that its slices read as. -/
structure ActV where
  name : ByteArray
  sport : Int
  start : Int
  sa : Option Addr
  sn : Nat
  sc : Nat
  la : Option Addr
  ln : Nat
  lc : Nat
  ta : Option Addr
  tn : Nat
  tc : Nat
  ss : List SmpR
  ls : List LapR
  ts : List ByteArray
def ActV.d (v : ActV) : ActD := ⟨v.name, v.sport, v.start, v.ss, v.ls, v.ts⟩
def maxS : Nat := 9223372036854775807
structure ActV.Ok (C : Nat) (w : World) (v : ActV) : Prop where
  s : Rd encSmp C w v.sa v.sn v.sc v.ss
  l : Rd encLap C w v.la v.ln v.lc v.ls
  t : Rd encStr C w v.ta v.tn v.tc v.ts
  nm : v.name.size ≤ 9223372036854775807
  lm : ∀ x ∈ v.ls, x.name.size ≤ 9223372036854775807
  tm : ∀ x ∈ v.ts, x.size ≤ 9223372036854775807
  lo : ∀ x ∈ v.ss, -9223372036854775808 ≤ x.at_ ∧ x.at_ ≤ 9223372036854775807
theorem ActV.Ok.at {B : Nat} {w0 w : World} {v : ActV} (h : v.Ok B w0) (hb : Below B w0 w) (hB : B ≤ w.heap.size) : v.Ok w.heap.size w := ⟨h.s.at hb hB, h.l.at hb hB, h.t.at hb hB, h.nm, h.lm, h.tm, h.lo⟩
theorem ActV.Ok.below {B : Nat} {w0 w : World} {v : ActV} (h : v.Ok B w0) (hb : Below B w0 w) : v.Ok B w := ⟨h.s.below hb, h.l.below hb, h.t.below hb, h.nm, h.lm, h.tm, h.lo⟩
end Go.Proofs.Ytfbmkepogcimlaa

/-
  More rules: an append of a whole slice to none.
-/


namespace Go.Proofs.Ytfbmkepogcimlaa.Hx
open Go Go.RowKit
set_option linter.unusedVariables false
set_option linter.unusedSimpArgs false
section
variable {P : Program} {N : Fr} {B : Nat} {w0 : World} {Q : Exit → Act → World → Prop} {al : AL} {H : HL} {ops rest : List Oper} {d : Nat} {ty : TypeId} {pos : String} {after : Array Edge}
/-- A loop, its rounds one by one. -/
theorem wp_seq_cutM {x y : Code} {σ : Type} (I : σ → Prop) (M : σ → AL) (L : AL) (G : σ → HL) (G0 : HL) (hL : Sub L al) (hh0 : SubH G0 H)
    (hx : ∀ K : Act → World → Prop, (∀ s al' H', I s → Sub (M s) al' → Sub L al' → SubH (G s) H' → SubH G0 H' → KP N B w0 K al' H') → WP P N B w0 x (Exit.then K Q) al H)
    (hy : ∀ s, I s → WP P N B w0 y Q (M s ++ L) (G s ++ G0)) : WP P N B w0 (.seq x y) Q al H :=
  wp_seq_cut I (fun s => M s ++ L) (fun s => G s ++ G0) (fun K hK => hx K fun s al' H' h1 h2 h3 h4 h5 => (hK s h1).sub (sub_app h2 h3) (subH_app h4 h5)) hy
/-- What H' tells, H tells under other numbers. -/
def Keyed (H : HL) (ks : List (Nat × Nat)) (H' : HL) : Prop := ∀ j e, look H' j = some e → ∃ i, (i, j) ∈ ks ∧ look H i = some e
theorem Sat.keys {w : World} {H' : HL} (h : Sat B w H) (ks : List (Nat × Nat)) (hk : Keyed H ks H') (hd : ∀ p ∈ ks, ∀ q ∈ ks, p.1 = q.1 → p.2 = q.2) : Sat B w H' :=
  ⟨fun j e he => by obtain ⟨i, _, h2⟩ := hk j e he; exact h.ok i e h2, fun j j' e f hj he hf => by
    obtain ⟨i, a1, a2⟩ := hk j e he
    obtain ⟨i', b1, b2⟩ := hk j' f hf
    exact h.apart i i' e f (fun hii => hj (hd _ a1 _ b1 hii)) a2 b2⟩
end
end Go.Proofs.Ytfbmkepogcimlaa.Hx

/-
  Names, titles, Check, Span: program and reference.
-/


namespace Go.Proofs.Ytfbmkepogcimlaa
open Go Go.RowKit Hx
set_option linter.unusedVariables false
set_option linter.unusedSimpArgs false
set_option maxRecDepth 8000
theorem quant_isDigit (c : Int) (w : World) : Calls Try.prog 65 #[.int .u8 c] w fun e w' => e = .returned (.bool (decide (48 ≤ c ∧ c ≤ 57))) ∧ Below w.heap.size w w' := by
  refine enterQ (N := 9) (C := fun _ => True) (H := []) (B := w.heap.size) (args := [_]) Try.func65 rfl rfl rfl (Nat.le_refl _) (Sat.nil _ _) fun Q hQ => ?_
  refine wp_seq' fun K1 hK1 => ?_
  refine wp_reg ?_
  refine ol_r (r_assign rfl) rfl ?_
  refine ol_nil (to_k0 (fun _ _ h => h) (hK1 _ _ _ _ _ ?_))
  clear hK1
  refine wp_seq' fun K2 hK2 => ?_
  refine wp_reg ?_
  refine ol_r (r_move rfl) rfl ?_
  refine ol_r (r_geq rfl rfl) rfl ?_
  refine ol_r (r_move rfl) rfl ?_
  refine ol_split (d := 5) rfl (fun hs5 => ?_) (fun hs5 => ?_)
  ·have phs5 := hs5; try simp only [decide_eq_true_eq, decide_eq_false_iff_not, Bool.not_eq_true', Bool.not_eq_false', Bool.not_true, Bool.not_false] at phs5
   refine ol_g rfl rfl hs5 ?_
   refine ol_r (r_move rfl) rfl ?_
   refine ol_g rfl rfl hs5 ?_
   refine ol_r (r_leq rfl rfl) rfl ?_
   refine ol_r (r_pickT rfl hs5 rfl) rfl ?_
   refine ol_r (r_assign rfl) rfl ?_
   refine ol_nil (to_k0 (fun _ _ h => h) (hK2 _ _ _ _ _ ?_))
   clear hK2
   refine hQ.ret (rvs1 (rv_t rfl)) (fun _ _ h => h) fun w hb hs hB hkd => ?_
   first
     | exact ⟨congrArg (fun b => Ending.returned (Value.bool b)) (decide_eq_decide.2 (by omega)), hb⟩
  ·have phs5 := hs5; try simp only [decide_eq_true_eq, decide_eq_false_iff_not, Bool.not_eq_true', Bool.not_eq_false', Bool.not_true, Bool.not_false] at phs5
   refine ol_s rfl rfl hs5 rfl ?_
   refine ol_s rfl rfl hs5 rfl ?_
   refine ol_r (r_pickF rfl hs5 rfl) rfl ?_
   refine ol_r (r_assign rfl) rfl ?_
   refine ol_nil (to_k0 (fun _ _ h => h) (hK2 _ _ _ _ _ ?_))
   clear hK2
   refine hQ.ret (rvs1 (rv_t rfl)) (fun _ _ h => h) fun w hb hs hB hkd => ?_
   first
     | exact ⟨congrArg (fun b => Ending.returned (Value.bool b)) (decide_eq_false (by omega)).symm, hb⟩
theorem quant_IsName (q : ByteArray) (w : World) (hq0 : q.size ≤ 9223372036854775807) : Calls Try.prog 32 #[.string q] w fun e w' => e = .returned (.bool (nameB q)) ∧ Below w.heap.size w w' := by
  refine enterQ (N := 56) (C := fun _ => True) (H := []) (B := w.heap.size) (args := [_]) Try.func32 rfl rfl rfl (Nat.le_refl _) (Sat.nil _ _) fun Q hQ => ?_
  refine wp_seq' fun K1 hK1 => ?_
  refine wp_reg ?_
  refine ol_r (r_assign rfl) rfl ?_
  refine ol_nil (to_k0 (fun _ _ h => h) (hK1 _ _ _ _ _ ?_))
  clear hK1
  refine wp_seq' fun K2 hK2 => ?_
  refine wp_seq' fun K3 hK3 => ?_
  refine wp_reg ?_
  refine ol_r (r_move rfl) rfl ?_
  refine ol_r (r_lens rfl st9) rfl ?_
  refine ol_r (r_move rfl) rfl ?_
  refine ol_nil (to_k0 (fun _ _ h => h) (hK3 _ _ _ _ _ ?_))
  clear hK3
  refine wp_block' ?_
  apply wp_loopM (σ := Nat) (fun s => s ≤ q.size ∧ ∀ i, i < s → nameC (byteAt q i) = true) (fun s => [(8, .int .i64 s)]) [(0, _), (7, _)] (fun s => []) [] (fun s => q.size - s) (0)
  ·try dsimp only
   exact ⟨Nat.zero_le _, fun i h => by omega⟩
  ·exact (sub_cons rfl sub_nil)
  ·exact (sub_cons rfl (sub_cons rfl sub_nil))
  ·exact subH_nil
  ·exact subH_nil
  ·rintro k ⟨hk, hP⟩
   intro K4 hK4
   refine wp_seq' fun K5 hK5 => ?_
   refine wp_reg ?_
   refine ol_r (r_lss rfl rfl) rfl ?_
   refine ol_nil (to_k0 (fun _ _ h => h) (hK5 _ _ _ _ _ ?_))
   clear hK5
   refine wp_seq' fun K6 hK6 => ?_
   refine wp_condD rfl (fun hc9 => ?_) (fun hc9 => ?_)
   ·refine wp_skip' (to_k0 (fun _ _ h => h) (hK6 _ _ _ _ _ ?_))
    clear hK6
    refine wp_seq' fun K7 hK7 => ?_
    refine wp_block' ?_
    refine wp_seq' fun K8 hK8 => ?_
    refine wp_reg ?_
    refine ol_r (r_move rfl) rfl ?_
    refine ol_r (r_assign rfl) rfl ?_
    refine ol_nil (to_k0 (fun _ _ h => h) (hK8 _ _ _ _ _ ?_))
    clear hK8
    refine wp_seq' fun K9 hK9 => ?_
    refine wp_reg ?_
    refine ol_r (r_move rfl) rfl ?_
    refine ol_r (r_move rfl) rfl ?_
    refine ol_r (r_sidx rfl rfl st9 (by omega)) rfl ?_
    try simp only [Int.toNat_natCast]
    refine ol_r (r_assign rfl) rfl ?_
    refine ol_nil (to_k0 (fun _ _ h => h) (hK9 _ _ _ _ _ ?_))
    clear hK9
    apply wp_seq_cutM (σ := Bool) (fun s => s = decide ((97 ≤ byteAt q k ∧ byteAt q k ≤ 122) ∨ (65 ≤ byteAt q k ∧ byteAt q k ≤ 90))) (fun s => [(5, .bool s)]) [(0, _), (4, _), (7, _), (8, _)] (fun s => []) []
    ·exact (sub_cons rfl (sub_cons rfl (sub_cons rfl (sub_cons rfl sub_nil))))
    ·exact subH_nil
    ·intro K10 hK10
     refine wp_reg ?_
     refine ol_r (r_move rfl) rfl ?_
     refine ol_r (r_geq rfl rfl) rfl ?_
     refine ol_r (r_move rfl) rfl ?_
     refine ol_split (d := 16) rfl (fun hs16 => ?_) (fun hs16 => ?_)
     ·have phs16 := hs16; try simp only [decide_eq_true_eq, decide_eq_false_iff_not, Bool.not_eq_true', Bool.not_eq_false', Bool.not_true, Bool.not_false] at phs16
      refine ol_g rfl rfl hs16 ?_
      refine ol_r (r_move rfl) rfl ?_
      refine ol_g rfl rfl hs16 ?_
      refine ol_r (r_leq rfl rfl) rfl ?_
      refine ol_r (r_pickT rfl hs16 rfl) rfl ?_
      refine ol_r (r_move rfl) rfl ?_
      refine ol_split (d := 20) rfl (fun hs20 => ?_) (fun hs20 => ?_)
      ·have phs20 := hs20; try simp only [decide_eq_true_eq, decide_eq_false_iff_not, Bool.not_eq_true', Bool.not_eq_false', Bool.not_true, Bool.not_false] at phs20
       refine ol_s rfl rfl hs20 rfl ?_
       refine ol_s rfl rfl hs20 rfl ?_
       refine ol_s rfl rfl hs20 rfl ?_
       refine ol_u rfl rfl rfl ?_
       refine ol_u rfl rfl rfl ?_
       refine ol_s rfl rfl hs20 rfl ?_
       refine ol_r (r_pickT rfl hs20 rfl) rfl ?_
       refine ol_r (r_assign rfl) rfl ?_
       refine ol_nil (to_k0 (fun _ _ h => h) (hK10 (_) _ _ ?_ (sub_cons rfl sub_nil) (sub_cons rfl (sub_cons rfl (sub_cons rfl (sub_cons rfl sub_nil)))) subH_nil subH_nil))
       try dsimp only
       first
       | exact (decide_eq_true (by omega)).symm
      ·have phs20 := hs20; try simp only [decide_eq_true_eq, decide_eq_false_iff_not, Bool.not_eq_true', Bool.not_eq_false', Bool.not_true, Bool.not_false] at phs20
       refine ol_g rfl rfl hs20 ?_
       refine ol_r (r_move rfl) rfl ?_
       refine ol_g rfl rfl hs20 ?_
       refine ol_r (r_geq rfl rfl) rfl ?_
       refine ol_g rfl rfl hs20 ?_
       refine ol_r (r_move rfl) rfl ?_
       refine ol_split (d := 23) rfl (fun hs23 => ?_) (fun hs23 => ?_)
       ·have phs23 := hs23; try simp only [decide_eq_true_eq, decide_eq_false_iff_not, Bool.not_eq_true', Bool.not_eq_false', Bool.not_true, Bool.not_false] at phs23
        refine ol_g rfl rfl hs23 ?_
        refine ol_r (r_move rfl) rfl ?_
        refine ol_g rfl rfl hs23 ?_
        refine ol_r (r_leq rfl rfl) rfl ?_
        refine ol_g rfl rfl hs20 ?_
        refine ol_r (r_pickT rfl hs23 rfl) rfl ?_
        refine ol_r (r_pickF rfl hs20 rfl) rfl ?_
        refine ol_r (r_assign rfl) rfl ?_
        refine ol_nil (to_k0 (fun _ _ h => h) (hK10 (_) _ _ ?_ (sub_cons rfl sub_nil) (sub_cons rfl (sub_cons rfl (sub_cons rfl (sub_cons rfl sub_nil)))) subH_nil subH_nil))
        try dsimp only
        first
        | exact decide_eq_decide.2 (by omega)
       ·have phs23 := hs23; try simp only [decide_eq_true_eq, decide_eq_false_iff_not, Bool.not_eq_true', Bool.not_eq_false', Bool.not_true, Bool.not_false] at phs23
        refine ol_s rfl rfl hs23 rfl ?_
        refine ol_s rfl rfl hs23 rfl ?_
        refine ol_g rfl rfl hs20 ?_
        refine ol_r (r_pickF rfl hs23 rfl) rfl ?_
        refine ol_r (r_pickF rfl hs20 rfl) rfl ?_
        refine ol_r (r_assign rfl) rfl ?_
        refine ol_nil (to_k0 (fun _ _ h => h) (hK10 (_) _ _ ?_ (sub_cons rfl sub_nil) (sub_cons rfl (sub_cons rfl (sub_cons rfl (sub_cons rfl sub_nil)))) subH_nil subH_nil))
        try dsimp only
        first
        | exact (decide_eq_false (by omega)).symm
     ·have phs16 := hs16; try simp only [decide_eq_true_eq, decide_eq_false_iff_not, Bool.not_eq_true', Bool.not_eq_false', Bool.not_true, Bool.not_false] at phs16
      refine ol_s rfl rfl hs16 rfl ?_
      refine ol_s rfl rfl hs16 rfl ?_
      refine ol_r (r_pickF rfl hs16 rfl) rfl ?_
      refine ol_r (r_move rfl) rfl ?_
      refine ol_g rfl rfl rfl ?_
      refine ol_r (r_move rfl) rfl ?_
      refine ol_g rfl rfl rfl ?_
      refine ol_r (r_geq rfl rfl) rfl ?_
      refine ol_g rfl rfl rfl ?_
      refine ol_r (r_move rfl) rfl ?_
      refine ol_split (d := 23) rfl (fun hs23 => ?_) (fun hs23 => ?_)
      ·have phs23 := hs23; try simp only [decide_eq_true_eq, decide_eq_false_iff_not, Bool.not_eq_true', Bool.not_eq_false', Bool.not_true, Bool.not_false] at phs23
       refine ol_g rfl rfl hs23 ?_
       refine ol_r (r_move rfl) rfl ?_
       refine ol_g rfl rfl hs23 ?_
       refine ol_r (r_leq rfl rfl) rfl ?_
       refine ol_g rfl rfl rfl ?_
       refine ol_r (r_pickT rfl hs23 rfl) rfl ?_
       refine ol_r (r_pickF rfl rfl rfl) rfl ?_
       refine ol_r (r_assign rfl) rfl ?_
       refine ol_nil (to_k0 (fun _ _ h => h) (hK10 (_) _ _ ?_ (sub_cons rfl sub_nil) (sub_cons rfl (sub_cons rfl (sub_cons rfl (sub_cons rfl sub_nil)))) subH_nil subH_nil))
       try dsimp only
       first
       | exact decide_eq_decide.2 (by omega)
      ·have phs23 := hs23; try simp only [decide_eq_true_eq, decide_eq_false_iff_not, Bool.not_eq_true', Bool.not_eq_false', Bool.not_true, Bool.not_false] at phs23
       refine ol_s rfl rfl hs23 rfl ?_
       refine ol_s rfl rfl hs23 rfl ?_
       refine ol_g rfl rfl rfl ?_
       refine ol_r (r_pickF rfl hs23 rfl) rfl ?_
       refine ol_r (r_pickF rfl rfl rfl) rfl ?_
       refine ol_r (r_assign rfl) rfl ?_
       refine ol_nil (to_k0 (fun _ _ h => h) (hK10 (_) _ _ ?_ (sub_cons rfl sub_nil) (sub_cons rfl (sub_cons rfl (sub_cons rfl (sub_cons rfl sub_nil)))) subH_nil subH_nil))
       try dsimp only
       first
       | exact (decide_eq_false (by omega)).symm
    ·rintro b rfl
     apply wp_seq_cutM (σ := Bool) (fun s => s = !nameC (byteAt q k)) (fun s => [(46, .bool s)]) [(0, _), (7, _), (8, _)] (fun s => []) []
     ·exact (sub_cons rfl (sub_cons rfl (sub_cons rfl sub_nil)))
     ·exact subH_nil
     ·intro K11 hK11
      refine wp_reg ?_
      refine ol_r (r_move rfl) rfl ?_
      refine ol_r (r_not rfl) rfl ?_
      refine ol_r (r_move rfl) rfl ?_
      refine ol_split (d := 30) rfl (fun hs30 => ?_) (fun hs30 => ?_)
      ·have phs30 := hs30; try simp only [decide_eq_true_eq, decide_eq_false_iff_not, Bool.not_eq_true', Bool.not_eq_false', Bool.not_true, Bool.not_false] at phs30
       refine ol_g rfl rfl hs30 ?_
       refine ol_r (r_move rfl) rfl ?_
       refine ol_g rfl rfl hs30 ?_
       refine ol_call rfl rfl cb65 rfl (fun w1 hb1 hs1 hB1 => Calls.mono (quant_isDigit _ _) ?_)
       rintro e w2 ⟨rfl, hb2⟩
       refine After.below rfl hb1 hs1 hB1 hb2 ?_
       clear hb2 hB1 hs1 hb1 w2 w1
       refine ol_g rfl rfl hs30 ?_
       refine ol_r (r_not rfl) rfl ?_
       refine ol_r (r_pickT rfl hs30 rfl) rfl ?_
       refine ol_r (r_move rfl) rfl ?_
       refine ol_split (d := 35) rfl (fun hs35 => ?_) (fun hs35 => ?_)
       ·have phs35 := hs35; try simp only [decide_eq_true_eq, decide_eq_false_iff_not, Bool.not_eq_true', Bool.not_eq_false', Bool.not_true, Bool.not_false] at phs35
        refine ol_g rfl rfl hs35 ?_
        refine ol_r (r_move rfl) rfl ?_
        refine ol_g rfl rfl hs35 ?_
        refine ol_r (r_neq rfl rfl) rfl ?_
        refine ol_r (r_pickT rfl hs35 rfl) rfl ?_
        refine ol_r (r_move rfl) rfl ?_
        refine ol_split (d := 39) rfl (fun hs39 => ?_) (fun hs39 => ?_)
        ·have phs39 := hs39; try simp only [decide_eq_true_eq, decide_eq_false_iff_not, Bool.not_eq_true', Bool.not_eq_false', Bool.not_true, Bool.not_false] at phs39
         refine ol_g rfl rfl hs39 ?_
         refine ol_r (r_move rfl) rfl ?_
         refine ol_g rfl rfl hs39 ?_
         refine ol_r (r_neq rfl rfl) rfl ?_
         refine ol_r (r_pickT rfl hs39 rfl) rfl ?_
         refine ol_r (r_move rfl) rfl ?_
         refine ol_split (d := 43) rfl (fun hs43 => ?_) (fun hs43 => ?_)
         ·have phs43 := hs43; try simp only [decide_eq_true_eq, decide_eq_false_iff_not, Bool.not_eq_true', Bool.not_eq_false', Bool.not_true, Bool.not_false] at phs43
          refine ol_g rfl rfl hs43 ?_
          refine ol_r (r_move rfl) rfl ?_
          refine ol_g rfl rfl hs43 ?_
          refine ol_r (r_neq rfl rfl) rfl ?_
          refine ol_r (r_pickT rfl hs43 rfl) rfl ?_
          refine ol_nil (to_k0 (fun _ _ h => h) (hK11 (_) _ _ ?_ (sub_cons rfl sub_nil) (sub_cons rfl (sub_cons rfl (sub_cons rfl sub_nil))) subH_nil subH_nil))
          try dsimp only
          first
          | exact nn_d (by omega)
         ·have phs43 := hs43; try simp only [decide_eq_true_eq, decide_eq_false_iff_not, Bool.not_eq_true', Bool.not_eq_false', Bool.not_true, Bool.not_false] at phs43
          refine ol_s rfl rfl hs43 rfl ?_
          refine ol_s rfl rfl hs43 rfl ?_
          refine ol_r (r_pickF rfl hs43 rfl) rfl ?_
          refine ol_nil (to_k0 (fun _ _ h => h) (hK11 (_) _ _ ?_ (sub_cons rfl sub_nil) (sub_cons rfl (sub_cons rfl (sub_cons rfl sub_nil))) subH_nil subH_nil))
          try dsimp only
          first
          | exact nn_f (by omega)
        ·have phs39 := hs39; try simp only [decide_eq_true_eq, decide_eq_false_iff_not, Bool.not_eq_true', Bool.not_eq_false', Bool.not_true, Bool.not_false] at phs39
         refine ol_s rfl rfl hs39 rfl ?_
         refine ol_s rfl rfl hs39 rfl ?_
         refine ol_r (r_pickF rfl hs39 rfl) rfl ?_
         refine ol_r (r_move rfl) rfl ?_
         refine ol_s rfl rfl rfl rfl ?_
         refine ol_s rfl rfl rfl rfl ?_
         refine ol_r (r_pickF rfl rfl rfl) rfl ?_
         refine ol_nil (to_k0 (fun _ _ h => h) (hK11 (_) _ _ ?_ (sub_cons rfl sub_nil) (sub_cons rfl (sub_cons rfl (sub_cons rfl sub_nil))) subH_nil subH_nil))
         try dsimp only
         first
         | exact nn_f (by omega)
       ·have phs35 := hs35; try simp only [decide_eq_true_eq, decide_eq_false_iff_not, Bool.not_eq_true', Bool.not_eq_false', Bool.not_true, Bool.not_false] at phs35
        refine ol_s rfl rfl hs35 rfl ?_
        refine ol_s rfl rfl hs35 rfl ?_
        refine ol_r (r_pickF rfl hs35 rfl) rfl ?_
        refine ol_r (r_move rfl) rfl ?_
        refine ol_s rfl rfl rfl rfl ?_
        refine ol_s rfl rfl rfl rfl ?_
        refine ol_r (r_pickF rfl rfl rfl) rfl ?_
        refine ol_r (r_move rfl) rfl ?_
        refine ol_s rfl rfl rfl rfl ?_
        refine ol_s rfl rfl rfl rfl ?_
        refine ol_r (r_pickF rfl rfl rfl) rfl ?_
        refine ol_nil (to_k0 (fun _ _ h => h) (hK11 (_) _ _ ?_ (sub_cons rfl sub_nil) (sub_cons rfl (sub_cons rfl (sub_cons rfl sub_nil))) subH_nil subH_nil))
        try dsimp only
        first
        | exact nn_f (by omega)
      ·have phs30 := hs30; try simp only [decide_eq_true_eq, decide_eq_false_iff_not, Bool.not_eq_true', Bool.not_eq_false', Bool.not_true, Bool.not_false] at phs30
       refine ol_s rfl rfl hs30 rfl ?_
       refine ol_s rfl rfl hs30 rfl ?_
       refine ol_s rfl rfl hs30 rfl ?_
       refine ol_r (r_pickF rfl hs30 rfl) rfl ?_
       refine ol_r (r_move rfl) rfl ?_
       refine ol_s rfl rfl rfl rfl ?_
       refine ol_s rfl rfl rfl rfl ?_
       refine ol_r (r_pickF rfl rfl rfl) rfl ?_
       refine ol_r (r_move rfl) rfl ?_
       refine ol_s rfl rfl rfl rfl ?_
       refine ol_s rfl rfl rfl rfl ?_
       refine ol_r (r_pickF rfl rfl rfl) rfl ?_
       refine ol_r (r_move rfl) rfl ?_
       refine ol_s rfl rfl rfl rfl ?_
       refine ol_s rfl rfl rfl rfl ?_
       refine ol_r (r_pickF rfl rfl rfl) rfl ?_
       refine ol_nil (to_k0 (fun _ _ h => h) (hK11 (_) _ _ ?_ (sub_cons rfl sub_nil) (sub_cons rfl (sub_cons rfl (sub_cons rfl sub_nil))) subH_nil subH_nil))
       try dsimp only
       first
       | exact nn_f (by omega)
     ·rintro b rfl
      refine wp_condNB rfl (fun hc46 => ?_) (fun hc46 => ?_)
      ·refine wp_seq' fun K12 hK12 => ?_
       refine wp_reg ?_
       refine ol_r (r_assign rfl) rfl ?_
       refine ol_nil (to_k0 (fun _ _ h => h) (hK12 _ _ _ _ _ ?_))
       clear hK12
       refine hQ.ret (rvs1 (rv_t rfl)) (fun _ _ h => h) fun w hb hs hB hkd => ?_
       first
         | (refine ⟨?_, hb⟩
            have h1 : nameC (byteAt q k) = false := hc46
            have h2 : nameB q = false := by unfold nameB; rw [bytesAll_not (by omega) h1]; rfl
            rw [h2]
            done)
      ·refine wp_skip' (to_k0 (fun _ _ h => h) (hK7 _ _ _ _ _ ?_))
       clear hK7
       refine wp_reg ?_
       refine ol_r (r_add rfl rfl (by omega)) rfl ?_
       refine ol_r (r_move rfl) rfl ?_
       refine ol_nil (to_k0 (fun _ _ h => h) (hK4 (k + 1) _ _ ?_ ?_ (sub_cons rfl sub_nil) (sub_cons rfl (sub_cons rfl sub_nil)) (by exact subH_nil) subH_nil))
       ·try dsimp only
        exact ⟨by omega, up_to hP hc46⟩
       ·try dsimp only
        omega
   ·refine wp_exit' (to_k0 (fun _ _ h => h) (hK2 _ _ _ _ _ ?_))
    clear hK2
    refine wp_seq' fun K13 hK13 => ?_
    refine wp_reg ?_
    refine ol_r (r_move rfl) rfl ?_
    refine ol_r (r_lens rfl st9) rfl ?_
    refine ol_r (r_geq rfl rfl) rfl ?_
    refine ol_r (r_move rfl) rfl ?_
    refine ol_split (d := 51) rfl (fun hs51 => ?_) (fun hs51 => ?_)
    ·have phs51 := hs51; try simp only [decide_eq_true_eq, decide_eq_false_iff_not, Bool.not_eq_true', Bool.not_eq_false', Bool.not_true, Bool.not_false] at phs51
     refine ol_g rfl rfl hs51 ?_
     refine ol_r (r_move rfl) rfl ?_
     refine ol_g rfl rfl hs51 ?_
     refine ol_r (r_lens rfl st9) rfl ?_
     refine ol_g rfl rfl hs51 ?_
     refine ol_r (r_leq rfl rfl) rfl ?_
     refine ol_r (r_pickT rfl hs51 rfl) rfl ?_
     refine ol_r (r_assign rfl) rfl ?_
     refine ol_nil (to_k0 (fun _ _ h => h) (hK13 _ _ _ _ _ ?_))
     clear hK13
     refine hQ.ret (rvs1 (rv_t rfl)) (fun _ _ h => h) fun w hb hs hB hkd => ?_
     first
       | (refine ⟨?_, hb⟩
          have h1 : bytesAll nameC q = true := bytesAll_iff.2 fun i hi => hP i (by omega)
          unfold nameB
          rw [h1]
          congr 2
          simp only [Bool.true_and]
          first
            | (rw [decide_eq_true (show 1 ≤ q.size by omega), Bool.true_and, decide_eq_decide]; omega)
            | (rw [decide_eq_false (show ¬1 ≤ q.size by omega)]; rfl))
    ·have phs51 := hs51; try simp only [decide_eq_true_eq, decide_eq_false_iff_not, Bool.not_eq_true', Bool.not_eq_false', Bool.not_true, Bool.not_false] at phs51
     refine ol_s rfl rfl hs51 rfl ?_
     refine ol_s rfl rfl hs51 rfl ?_
     refine ol_s rfl rfl hs51 rfl ?_
     refine ol_r (r_pickF rfl hs51 rfl) rfl ?_
     refine ol_r (r_assign rfl) rfl ?_
     refine ol_nil (to_k0 (fun _ _ h => h) (hK13 _ _ _ _ _ ?_))
     clear hK13
     refine hQ.ret (rvs1 (rv_t rfl)) (fun _ _ h => h) fun w hb hs hB hkd => ?_
     first
       | (refine ⟨?_, hb⟩
          have h1 : bytesAll nameC q = true := bytesAll_iff.2 fun i hi => hP i (by omega)
          unfold nameB
          rw [h1]
          congr 2
          simp only [Bool.true_and]
          first
            | (rw [decide_eq_true (show 1 ≤ q.size by omega), Bool.true_and, decide_eq_decide]; omega)
            | (rw [decide_eq_false (show ¬1 ≤ q.size by omega)]; rfl))
end Go.Proofs.Ytfbmkepogcimlaa

/-
  More rules: append of a make, and an owned row cut to its beginning.
-/


namespace Go.Proofs.Ytfbmkepogcimlaa.Hx
open Go Go.RowKit
set_option linter.unusedVariables false
set_option linter.unusedSimpArgs false
section
variable {P : Program} {N : Fr} {B : Nat} {w0 : World} {Q : Exit → Act → World → Prop} {al : AL} {H : HL} {ops rest : List Oper} {d : Nat} {ty : TypeId} {pos : String} {after : Array Edge}
theorem sliced_zero (a : Option Addr) (h cap size : Nat) : sliced a 0 h cap size = .slice a h cap := by
  unfold sliced
  cases a with
  | none => simp
  | some p => simp [add_none, Addr.add]
/-- An owned row's first elements. -/
theorem Sat.cut {w : World} {id n cap h : Nat} {a : Option Addr} {xs : List Value} {e : TypeId} {size : Nat} (hs : Sat B w H) (hr : look H id = some (.row a n cap xs e size)) (hh : h ≤ n) : Sat B w ((id, .row a h cap (xs.take (h * size)) e size) :: H) := by
  refine hs.turn hr ?_ (fun _ _ _ => rfl) (fun b hb => .inl hb)
  obtain ⟨h1, h2⟩ := hs.ok _ _ hr
  refine ⟨by rw [List.length_take, h1]; exact Nat.min_eq_left (Nat.mul_le_mul_right _ hh), ?_⟩
  rcases h2 with ⟨hv, h2⟩ | ⟨g, cap', cur, hv, hb, hg, hnc, hcm, hcs, htake⟩
  · cases hv
    obtain rfl : h = 0 := by omega
    exact .inl ⟨rfl, rfl⟩
  · cases hv
    exact .inr ⟨g, cap, cur, rfl, hb, hg, by omega, hcm, hcs, by rw [← htake, List.take_take, Nat.min_eq_left (Nat.mul_le_mul_right _ hh)]⟩
theorem ol_cutO {s : Operand} {hi : Operand} {id n cap : Nat} {h : Int} {a : Option Addr} {xs : List Value} {t e : TypeId} {size : Nat} (hs : ev al s = some (.slice a n cap)) (hr : look H id = some (.row a n cap xs e size)) (hhi : evo al (some hi) = some (some h)) (hT : Slc P t size)
    (h0 : 0 ≤ h ∧ h ≤ n) (hc : n ≤ cap) (hd : Nat.blt d N.n = true)
    (k : OL P N B w0 ops rest Q ((d, .slice a h.toNat cap) :: al) ((id, .row a h.toNat cap (xs.take (h.toNat * size)) e size) :: H)) :
    OL P N B w0 ops ({ dst := some d, op := .slice t s none (some hi) none, type := ty, pos, after, guard := none } :: rest) Q al H := by
  have hr1 := r_sl (P := P) (N := N) (B := B) (w0 := w0) (H := H) (ty := ty) hs (lo := none) (l := none) (hi := some hi) rfl hhi hT (by simp; omega) hc
  refine ol_r hr1 hd ?_
  have e1 : sliced a ((none : Option Int).getD 0).toNat ((some h).getD (n : Int)).toNat cap size = .slice a h.toNat cap := sliced_zero _ _ _ _
  rw [e1]
  exact fun a1 w hst => k a1 w (hst.step hst.regs hst.below (hst.sat.cut hr (by omega)) hst.base (Kd.refl _ _))
def Kle (H : HL) (ks : List (Nat × Nat)) (H' : HL) : Prop := ∀ j e, look H' j = some e → ∃ i f, (i, j) ∈ ks ∧ look H i = some f ∧ e.le f
theorem kle_nil {H : HL} : Kle H [] [] := fun j e h => by simp [look] at h
theorem kle_cons {H H' : HL} {i k : Nat} {e f : Ent} {ks : List (Nat × Nat)} (h : look H i = some f) (hl : e.le f) (hk : Kle H ks H') : Kle H ((i, k) :: ks) ((k, e) :: H') := fun j g hj => by
  by_cases hkj : k = j
  · subst hkj; rw [look_cons_eq] at hj; cases hj; exact ⟨i, f, by simp, h, hl⟩
  · rw [look_cons_ne _ _ hkj] at hj
    obtain ⟨i', f', h1, h2, h3⟩ := hk j g hj
    exact ⟨i', f', by simp [h1], h2, h3⟩
theorem Sat.kle {B : Nat} {H H' : HL} {w : World} (h : Sat B w H) (ks : List (Nat × Nat)) (hk : Kle H ks H') (hd : ∀ p ∈ ks, ∀ q ∈ ks, p.1 = q.1 → p.2 = q.2) : Sat B w H' :=
  ⟨fun j e he => by obtain ⟨i, f, _, h2, h3⟩ := hk j e he; exact h3.ok (h.ok i f h2), fun j j' e f hj he hf b hb => by
    obtain ⟨i, g, a1, a2, a3⟩ := hk j e he
    obtain ⟨i', g', b1, b2, b3⟩ := hk j' f hf
    exact fun hb' => h.apart i i' g g' (fun hii => hj (hd _ a1 _ b1 hii)) a2 b2 b (a3.own hb) (b3.own hb')⟩
theorem row_le {a : Option Addr} {n c s : Nat} {xs ys : List Value} {e : TypeId} (h : xs = ys) : (Ent.row a n c xs e s).le (.row a n c ys e s) := by subst h; exact Ent.le_refl _
end
end Go.Proofs.Ytfbmkepogcimlaa.Hx

/-
  More rules: what is left of an own row, read from its front.
-/

namespace Go.Proofs.Ytfbmkepogcimlaa.Hx
open Go Go.RowKit
set_option linter.unusedVariables false
set_option linter.unusedSimpArgs false
/-- Where the rest of a row begins. -/
def TlP (a p : Option Addr) (i n size : Nat) : Prop := i < n → p = a.map (·.add (i * size))
theorem TlP.zero {a : Option Addr} {n size : Nat} (h : 0 < n → ∃ g, a = some ⟨g, 0, none⟩) : TlP a a 0 n size := fun hn => by
  obtain ⟨g, rfl⟩ := h hn
  simp only [Option.map_some, add_none, Nat.zero_mul, Nat.add_zero]
theorem TlP.next {a p : Option Addr} {i n size c : Nat} (h : TlP a p i n size) (ha : 0 < n → ∃ g, a = some ⟨g, 0, none⟩) (hc : n ≤ c) : TlP a (if c - i = 1 then p else p.map (·.add (1 * size))) (i + 1) n size := fun hn => by
  obtain ⟨g, rfl⟩ := ha (by omega)
  rw [h (by omega), if_neg (by omega)]
  simp only [Option.map_some, add_none, Nat.add_mul, Nat.add_assoc]
section
variable {P : Program} {N : Fr} {B : Nat} {w0 : World} {Q : Exit → Act → World → Prop} {al : AL} {H : HL} {ops rest tail : List Oper} {d : Nat} {ty : TypeId} {pos : String} {after : Array Edge} {α : Type}
end
end Go.Proofs.Ytfbmkepogcimlaa.Hx

/-
  Garages: values, orders, small functions.
-/






namespace Go.Proofs.Ytfbmkepogcimlaa
open Go Go.RowKit Hx
set_option linter.unusedVariables false
set_option linter.unusedSimpArgs false
set_option maxRecDepth 8000
def encGPart : Enc GPart := { size := 2, cells := fun x => [.string x.name, .int .i64 x.cost], val := fun x => .agg #[.string x.name, .int .i64 x.cost], len := fun _ => rfl, ones := fun _ u h => (by simp at h; rcases h with h | h <;> subst h <;> rfl), pos := by decide, vc := fun _ => rfl }
def encGSlot : Enc GSlot := { size := 2, cells := fun x => [.string x.name, .string x.rig], val := fun x => .agg #[.string x.name, .string x.rig], len := fun _ => rfl, ones := fun _ u h => (by simp at h; rcases h with h | h <;> subst h <;> rfl), pos := by decide, vc := fun _ => rfl }
def encGMount : Enc GMount := { size := 4, cells := fun x => [.string x.slot, .string x.part, .int .i64 x.fr, .int .i64 x.to_], val := fun x => .agg #[.string x.slot, .string x.part, .int .i64 x.fr, .int .i64 x.to_], len := fun _ => rfl, ones := fun _ u h => (by simp at h; rcases h with h | h | h | h <;> subst h <;> rfl), pos := by decide, vc := fun _ => rfl }
def encGUse : Enc GUse := { size := 5, cells := fun x => [.string x.name, .string x.rig, .int .i64 x.fr, .int .i64 x.sec, .int .i64 x.way], val := fun x => .agg #[.string x.name, .string x.rig, .int .i64 x.fr, .int .i64 x.sec, .int .i64 x.way], len := fun _ => rfl, ones := fun _ u h => (by simp at h; rcases h with h | h | h | h | h <;> subst h <;> rfl), pos := by decide, vc := fun _ => rfl }
def encGPiece : Enc GPiece := { size := 5, cells := fun x => [.string x.use, .string x.slot, .string x.part, .int .i64 x.sec, .int .i64 x.way], val := fun x => .agg #[.string x.use, .string x.slot, .string x.part, .int .i64 x.sec, .int .i64 x.way], len := fun _ => rfl, ones := fun _ u h => (by simp at h; rcases h with h | h | h | h | h <;> subst h <;> rfl), pos := by decide, vc := fun _ => rfl }
theorem ty42 : Ty Try.prog 42 encGPart := .inr ⟨ag42, fun _ => rfl⟩
theorem ty34 : Ty Try.prog 34 encGSlot := .inr ⟨ag34, fun _ => rfl⟩
theorem ty155 : Ty Try.prog 155 encGMount := .inr ⟨ag155, fun _ => rfl⟩
theorem ty46 : Ty Try.prog 46 encGUse := .inr ⟨ag46, fun _ => rfl⟩
theorem ty36 : Ty Try.prog 36 encGPiece := .inr ⟨ag36, fun _ => rfl⟩
structure GarV extends GarD where
  pa : Option Addr
  pn : Nat
  pc : Nat
  sa : Option Addr
  sn : Nat
  sc : Nat
  ma : Option Addr
  mn : Nat
  mc : Nat
  ua : Option Addr
  un : Nat
  uc : Nat
structure GarV.Ok (G : GarV) (C : Nat) (w : World) : Prop where
  p : Rd encGPart C w G.pa G.pn G.pc G.ps
  s : Rd encGSlot C w G.sa G.sn G.sc G.ss
  m : Rd encGMount C w G.ma G.mn G.mc G.ms
  u : Rd encGUse C w G.ua G.un G.uc G.us
  zp : ∀ x ∈ G.ps, x.name.size ≤ 9223372036854775807
  zs : ∀ x ∈ G.ss, x.name.size ≤ 9223372036854775807 ∧ x.rig.size ≤ 9223372036854775807
  zu : ∀ x ∈ G.us, x.name.size ≤ 9223372036854775807 ∧ x.rig.size ≤ 9223372036854775807
theorem GarV.Ok.at {G : GarV} {B : Nat} {w0 w : World} (h : G.Ok B w0) (hb : Below B w0 w) (hB : B ≤ w.heap.size) : G.Ok w.heap.size w := ⟨h.p.at hb hB, h.s.at hb hB, h.m.at hb hB, h.u.at hb hB, h.zp, h.zs, h.zu⟩
theorem strK : KeyT Try.prog 9 Value.string := KeyT.basic Try.underlying9 (fun a => trivial) (fun a b h => by cases h; rfl)
theorem mk43 : MapK Try.prog 43 Value.string Value.bool false := ⟨_, _, Try.underlying43, strK, fun _ => Try.zeroValue4 _⟩
theorem mk157 : MapK Try.prog 157 Value.string (Value.int .i64) 0 := ⟨_, _, Try.underlying157, strK, fun _ => Try.zeroValue3 _⟩
theorem gear_in (n a b : Int) (w : World) : Calls Try.prog 58 #[.int .i64 n, .int .i64 a, .int .i64 b] w fun e w' => e = .returned (.bool (inB n a b)) ∧ Below w.heap.size w w' := by
  refine enterQ (N := 15) (C := fun _ => True) (H := []) (B := w.heap.size) (args := [_, _, _]) Try.func58 rfl rfl rfl (Nat.le_refl _) (Sat.nil _ _) fun Q hQ => ?_
  refine wp_seq' fun K1 hK1 => ?_
  refine wp_reg ?_
  refine ol_r (r_assign rfl) rfl ?_
  refine ol_nil (to_k0 (fun _ _ h => h) (hK1 _ _ _ _ _ ?_))
  clear hK1
  refine wp_seq' fun K2 hK2 => ?_
  refine wp_reg ?_
  refine ol_r (r_move rfl) rfl ?_
  refine ol_r (r_move rfl) rfl ?_
  refine ol_r (r_geq rfl rfl) rfl ?_
  refine ol_r (r_move rfl) rfl ?_
  refine ol_split (d := 10) rfl (fun hs10 => ?_) (fun hs10 => ?_)
  ·have phs10 := hs10; try simp only [decide_eq_true_eq, decide_eq_false_iff_not, Bool.not_eq_true', Bool.not_eq_false', Bool.not_true, Bool.not_false] at phs10
   refine ol_g rfl rfl hs10 ?_
   refine ol_r (r_move rfl) rfl ?_
   refine ol_g rfl rfl hs10 ?_
   refine ol_r (r_move rfl) rfl ?_
   refine ol_g rfl rfl hs10 ?_
   refine ol_r (r_leq rfl rfl) rfl ?_
   refine ol_r (r_pickT rfl hs10 rfl) rfl ?_
   refine ol_r (r_assign rfl) rfl ?_
   refine ol_nil (to_k0 (fun _ _ h => h) (hK2 _ _ _ _ _ ?_))
   clear hK2
   refine hQ.ret (rvs1 (rv_t rfl)) (fun _ _ h => h) fun w hb hs hB hkd => ?_
   exact ⟨by simp [inB, hs10], hb⟩
  ·have phs10 := hs10; try simp only [decide_eq_true_eq, decide_eq_false_iff_not, Bool.not_eq_true', Bool.not_eq_false', Bool.not_true, Bool.not_false] at phs10
   refine ol_s rfl rfl hs10 rfl ?_
   refine ol_s rfl rfl hs10 rfl ?_
   refine ol_s rfl rfl hs10 rfl ?_
   refine ol_r (r_pickF rfl hs10 rfl) rfl ?_
   refine ol_r (r_assign rfl) rfl ?_
   refine ol_nil (to_k0 (fun _ _ h => h) (hK2 _ _ _ _ _ ?_))
   clear hK2
   refine hQ.ret (rvs1 (rv_t rfl)) (fun _ _ h => h) fun w hb hs hB hkd => ?_
   exact ⟨by simp [inB, hs10], hb⟩
theorem gear_isMoment (n : Int) (w : World) : Calls Try.prog 35 #[.int .i64 n] w fun e w' => e = .returned (.bool (momB n)) ∧ Below w.heap.size w w' := by
  refine enterQ (N := 5) (C := fun _ => True) (H := []) (B := w.heap.size) (args := [_]) Try.func35 rfl rfl rfl (Nat.le_refl _) (Sat.nil _ _) fun Q hQ => ?_
  refine wp_seq' fun K1 hK1 => ?_
  refine wp_reg ?_
  refine ol_r (r_assign rfl) rfl ?_
  refine ol_nil (to_k0 (fun _ _ h => h) (hK1 _ _ _ _ _ ?_))
  clear hK1
  refine wp_seq' fun K2 hK2 => ?_
  refine wp_reg ?_
  refine ol_r (r_move rfl) rfl ?_
  refine ol_call rfl rfl cb58 rfl (fun w1 hb1 hs1 hB1 => Calls.mono (gear_in _ _ _ _) ?_)
  rintro e w2 ⟨rfl, hb2⟩
  refine After.below rfl hb1 hs1 hB1 hb2 ?_
  clear hb2 hB1 hs1 hb1 w2 w1
  refine ol_r (r_assign rfl) rfl ?_
  refine ol_nil (to_k0 (fun _ _ h => h) (hK2 _ _ _ _ _ ?_))
  clear hK2
  refine hQ.ret (rvs1 (rv_t rfl)) (fun _ _ h => h) fun w hb hs hB hkd => ?_
  exact ⟨rfl, hb⟩
theorem gear_end (m : GMount) (w : World) : Calls Try.prog 86 #[encGMount.val m] w fun e w' => e = .returned (.int .i64 (endM m)) ∧ Below w.heap.size w w' := by
  refine enterQ (N := 8) (C := fun _ => True) (H := []) (B := w.heap.size) (args := [_]) Try.func86 rfl rfl rfl (Nat.le_refl _) (Sat.nil _ _) fun Q hQ => ?_
  refine wp_seq' fun K1 hK1 => ?_
  refine wp_reg ?_
  refine ol_box 1 rfl rfl rfl fun b1 => ?_
  refine ol_r (r_assign rfl) rfl ?_
  refine ol_nil (to_k0 (fun _ _ h => h) (hK1 _ _ _ _ _ ?_))
  clear hK1
  refine wp_seq' fun K2 hK2 => ?_
  refine wp_seq' fun K3 hK3 => ?_
  refine wp_reg ?_
  refine ol_r (r_fa (o' := 3) rfl fl155_3 rfl) rfl ?_
  refine ol_r (r_ld (id := 1) rfl rfl rfl sc3) rfl ?_
  refine ol_r (r_lss rfl rfl) rfl ?_
  refine ol_nil (to_k0 (fun _ _ h => h) (hK3 _ _ _ _ _ ?_))
  clear hK3
  first | refine wp_condD rfl (fun hc5 => ?_) (fun hc5 => ?_) | refine wp_condN rfl (fun hc5 => ?_) (fun hc5 => ?_) | refine wp_condNB rfl (fun hc5 => ?_) (fun hc5 => ?_) | refine wp_cond' rfl (fun hc5 => ?_) (fun hc5 => ?_)
  ·refine wp_seq' fun K4 hK4 => ?_
   refine wp_reg ?_
   refine ol_r (r_assign rfl) rfl ?_
   refine ol_nil (to_k0 (fun _ _ h => h) (hK4 _ _ _ _ _ ?_))
   clear hK4
   refine hQ.ret (rvs1 (rv_t rfl)) (fun _ _ h => h) fun w hb hs hB hkd => ?_
   exact ⟨by unfold endM; rw [if_pos hc5], hb⟩
  ·refine wp_skip' (to_k0 (fun _ _ h => h) (hK2 _ _ _ _ _ ?_))
   clear hK2
   refine wp_seq' fun K5 hK5 => ?_
   refine wp_reg ?_
   refine ol_r (r_fa (o' := 3) rfl fl155_3 rfl) rfl ?_
   refine ol_r (r_ld (id := 1) rfl rfl rfl sc3) rfl ?_
   refine ol_r (r_assign rfl) rfl ?_
   refine ol_nil (to_k0 (fun _ _ h => h) (hK5 _ _ _ _ _ ?_))
   clear hK5
   refine hQ.ret (rvs1 (rv_t rfl)) (fun _ _ h => h) fun w hb hs hB hkd => ?_
   exact ⟨by unfold endM; rw [if_neg hc5], hb⟩
theorem gar_isNaN (x : Int) (w : World) : Calls Try.prog 106 #[.int .i64 x] w fun e w' => e = .returned (.bool false) ∧ Below w.heap.size w w' := by
  refine enterQ (N := 6) (C := fun _ => True) (H := []) (B := w.heap.size) (args := [_]) Try.func106 rfl rfl rfl (Nat.le_refl _) (Sat.nil _ _) fun Q hQ => ?_
  refine wp_seq' fun K1 hK1 => ?_
  refine wp_reg ?_
  refine ol_r (r_assign rfl) rfl ?_
  refine ol_nil (to_k0 (fun _ _ h => h) (hK1 _ _ _ _ _ ?_))
  clear hK1
  refine wp_seq' fun K2 hK2 => ?_
  refine wp_reg ?_
  refine ol_r (r_move rfl) rfl ?_
  refine ol_r (r_move rfl) rfl ?_
  refine ol_r (r_neq rfl rfl) rfl ?_
  refine ol_r (r_assign rfl) rfl ?_
  refine ol_nil (to_k0 (fun _ _ h => h) (hK2 _ _ _ _ _ ?_))
  clear hK2
  refine hQ.ret (rvs1 (rv_t rfl)) (fun _ _ h => h) fun w hb hs hB hkd => ?_
  exact ⟨by simp, hb⟩
theorem gar_Compare (x y : Int) (w : World) : Calls Try.prog 75 #[.int .i64 x, .int .i64 y] w fun e w' => e = .returned (.int .i64 (gcmpI x y)) ∧ Below w.heap.size w w' := by
  refine enterQ (N := 20) (C := fun _ => True) (H := []) (B := w.heap.size) (args := [_, _]) Try.func75 rfl rfl rfl (Nat.le_refl _) (Sat.nil _ _) fun Q hQ => ?_
  refine wp_seq' fun K1 hK1 => ?_
  refine wp_reg ?_
  refine ol_r (r_assign rfl) rfl ?_
  refine ol_nil (to_k0 (fun _ _ h => h) (hK1 _ _ _ _ _ ?_))
  clear hK1
  refine wp_seq' fun K2 hK2 => ?_
  refine wp_reg ?_
  refine ol_r (r_move rfl) rfl ?_
  refine ol_call rfl rfl cb106 rfl (fun w1 hb1 hs1 hB1 => Calls.mono (gar_isNaN _ _) ?_)
  rintro e w2 ⟨rfl, hb2⟩
  refine After.below rfl hb1 hs1 hB1 hb2 ?_
  clear hb2 hB1 hs1 hb1 w2 w1
  refine ol_r (r_assign rfl) rfl ?_
  refine ol_nil (to_k0 (fun _ _ h => h) (hK2 _ _ _ _ _ ?_))
  clear hK2
  refine wp_seq' fun K3 hK3 => ?_
  refine wp_reg ?_
  refine ol_r (r_move rfl) rfl ?_
  refine ol_call rfl rfl cb106 rfl (fun w1 hb1 hs1 hB1 => Calls.mono (gar_isNaN _ _) ?_)
  rintro e w2 ⟨rfl, hb2⟩
  refine After.below rfl hb1 hs1 hB1 hb2 ?_
  clear hb2 hB1 hs1 hb1 w2 w1
  refine ol_r (r_assign rfl) rfl ?_
  refine ol_nil (to_k0 (fun _ _ h => h) (hK3 _ _ _ _ _ ?_))
  clear hK3
  refine wp_seq' fun K4 hK4 => ?_
  refine wp_seq' fun K5 hK5 => ?_
  refine wp_reg ?_
  refine ol_r (r_move rfl) rfl ?_
  refine ol_nil (to_k0 (fun _ _ h => h) (hK5 _ _ _ _ _ ?_))
  clear hK5
  first | refine wp_condD rfl (fun hc11 => ?_) (fun hc11 => ?_) | refine wp_condN rfl (fun hc11 => ?_) (fun hc11 => ?_) | refine wp_condNB rfl (fun hc11 => ?_) (fun hc11 => ?_) | refine wp_cond' rfl (fun hc11 => ?_) (fun hc11 => ?_)
  ·refine wp_seq' fun K6 hK6 => ?_
   refine wp_seq' fun K7 hK7 => ?_
   refine wp_reg ?_
   refine ol_r (r_move rfl) rfl ?_
   refine ol_nil (to_k0 (fun _ _ h => h) (hK7 _ _ _ _ _ ?_))
   clear hK7
   first | refine wp_condD rfl (fun hc12 => ?_) (fun hc12 => ?_) | refine wp_condN rfl (fun hc12 => ?_) (fun hc12 => ?_) | refine wp_condNB rfl (fun hc12 => ?_) (fun hc12 => ?_) | refine wp_cond' rfl (fun hc12 => ?_) (fun hc12 => ?_)
   ·refine wp_seq' fun K8 hK8 => ?_
    refine wp_reg ?_
    refine ol_r (r_assign rfl) rfl ?_
    refine ol_nil (to_k0 (fun _ _ h => h) (hK8 _ _ _ _ _ ?_))
    clear hK8
    refine hQ.ret (rvs1 (rv_t rfl)) (fun _ _ h => h) fun w hb hs hB hkd => ?_
    first
      | exact ⟨by unfold gcmpI; rw [if_pos (by omega)], hb⟩
      | exact ⟨by unfold gcmpI; rw [if_neg (by omega), if_pos (by omega)], hb⟩
      | exact ⟨by unfold gcmpI; rw [if_neg (by omega), if_neg (by omega)], hb⟩
      | (exfalso; simp_all; done)
   ·refine wp_skip' (to_k0 (fun _ _ h => h) (hK6 _ _ _ _ _ ?_))
    clear hK6
    refine wp_seq' fun K9 hK9 => ?_
    refine wp_reg ?_
    refine ol_r (r_assign rfl) rfl ?_
    refine ol_nil (to_k0 (fun _ _ h => h) (hK9 _ _ _ _ _ ?_))
    clear hK9
    refine hQ.ret (rvs1 (rv_t rfl)) (fun _ _ h => h) fun w hb hs hB hkd => ?_
    first
      | exact ⟨by unfold gcmpI; rw [if_pos (by omega)], hb⟩
      | exact ⟨by unfold gcmpI; rw [if_neg (by omega), if_pos (by omega)], hb⟩
      | exact ⟨by unfold gcmpI; rw [if_neg (by omega), if_neg (by omega)], hb⟩
      | (exfalso; simp_all; done)
  ·refine wp_skip' (to_k0 (fun _ _ h => h) (hK4 _ _ _ _ _ ?_))
   clear hK4
   refine wp_seq' fun K10 hK10 => ?_
   refine wp_seq' fun K11 hK11 => ?_
   refine wp_reg ?_
   refine ol_r (r_move rfl) rfl ?_
   refine ol_nil (to_k0 (fun _ _ h => h) (hK11 _ _ _ _ _ ?_))
   clear hK11
   first | refine wp_condD rfl (fun hc13 => ?_) (fun hc13 => ?_) | refine wp_condN rfl (fun hc13 => ?_) (fun hc13 => ?_) | refine wp_condNB rfl (fun hc13 => ?_) (fun hc13 => ?_) | refine wp_cond' rfl (fun hc13 => ?_) (fun hc13 => ?_)
   ·refine wp_seq' fun K12 hK12 => ?_
    refine wp_reg ?_
    refine ol_r (r_assign rfl) rfl ?_
    refine ol_nil (to_k0 (fun _ _ h => h) (hK12 _ _ _ _ _ ?_))
    clear hK12
    refine hQ.ret (rvs1 (rv_t rfl)) (fun _ _ h => h) fun w hb hs hB hkd => ?_
    first
      | exact ⟨by unfold gcmpI; rw [if_pos (by omega)], hb⟩
      | exact ⟨by unfold gcmpI; rw [if_neg (by omega), if_pos (by omega)], hb⟩
      | exact ⟨by unfold gcmpI; rw [if_neg (by omega), if_neg (by omega)], hb⟩
      | (exfalso; simp_all; done)
   ·refine wp_skip' (to_k0 (fun _ _ h => h) (hK10 _ _ _ _ _ ?_))
    clear hK10
    refine wp_seq' fun K13 hK13 => ?_
    refine wp_seq' fun K14 hK14 => ?_
    refine wp_reg ?_
    refine ol_r (r_move rfl) rfl ?_
    refine ol_r (r_move rfl) rfl ?_
    refine ol_r (r_lss rfl rfl) rfl ?_
    refine ol_nil (to_k0 (fun _ _ h => h) (hK14 _ _ _ _ _ ?_))
    clear hK14
    first | refine wp_condD rfl (fun hc16 => ?_) (fun hc16 => ?_) | refine wp_condN rfl (fun hc16 => ?_) (fun hc16 => ?_) | refine wp_condNB rfl (fun hc16 => ?_) (fun hc16 => ?_) | refine wp_cond' rfl (fun hc16 => ?_) (fun hc16 => ?_)
    ·refine wp_seq' fun K15 hK15 => ?_
     refine wp_reg ?_
     refine ol_r (r_assign rfl) rfl ?_
     refine ol_nil (to_k0 (fun _ _ h => h) (hK15 _ _ _ _ _ ?_))
     clear hK15
     refine hQ.ret (rvs1 (rv_t rfl)) (fun _ _ h => h) fun w hb hs hB hkd => ?_
     first
       | exact ⟨by unfold gcmpI; rw [if_pos (by omega)], hb⟩
       | exact ⟨by unfold gcmpI; rw [if_neg (by omega), if_pos (by omega)], hb⟩
       | exact ⟨by unfold gcmpI; rw [if_neg (by omega), if_neg (by omega)], hb⟩
       | (exfalso; simp_all; done)
    ·refine wp_skip' (to_k0 (fun _ _ h => h) (hK13 _ _ _ _ _ ?_))
     clear hK13
     refine wp_seq' fun K16 hK16 => ?_
     refine wp_seq' fun K17 hK17 => ?_
     refine wp_reg ?_
     refine ol_r (r_move rfl) rfl ?_
     refine ol_r (r_move rfl) rfl ?_
     refine ol_r (r_gtr rfl rfl) rfl ?_
     refine ol_nil (to_k0 (fun _ _ h => h) (hK17 _ _ _ _ _ ?_))
     clear hK17
     first | refine wp_condD rfl (fun hc19 => ?_) (fun hc19 => ?_) | refine wp_condN rfl (fun hc19 => ?_) (fun hc19 => ?_) | refine wp_condNB rfl (fun hc19 => ?_) (fun hc19 => ?_) | refine wp_cond' rfl (fun hc19 => ?_) (fun hc19 => ?_)
     ·refine wp_seq' fun K18 hK18 => ?_
      refine wp_reg ?_
      refine ol_r (r_assign rfl) rfl ?_
      refine ol_nil (to_k0 (fun _ _ h => h) (hK18 _ _ _ _ _ ?_))
      clear hK18
      refine hQ.ret (rvs1 (rv_t rfl)) (fun _ _ h => h) fun w hb hs hB hkd => ?_
      first
        | exact ⟨by unfold gcmpI; rw [if_pos (by omega)], hb⟩
        | exact ⟨by unfold gcmpI; rw [if_neg (by omega), if_pos (by omega)], hb⟩
        | exact ⟨by unfold gcmpI; rw [if_neg (by omega), if_neg (by omega)], hb⟩
        | (exfalso; simp_all; done)
     ·refine wp_skip' (to_k0 (fun _ _ h => h) (hK16 _ _ _ _ _ ?_))
      clear hK16
      refine wp_seq' fun K19 hK19 => ?_
      refine wp_reg ?_
      refine ol_r (r_assign rfl) rfl ?_
      refine ol_nil (to_k0 (fun _ _ h => h) (hK19 _ _ _ _ _ ?_))
      clear hK19
      refine hQ.ret (rvs1 (rv_t rfl)) (fun _ _ h => h) fun w hb hs hB hkd => ?_
      first
        | exact ⟨by unfold gcmpI; rw [if_pos (by omega)], hb⟩
        | exact ⟨by unfold gcmpI; rw [if_neg (by omega), if_pos (by omega)], hb⟩
        | exact ⟨by unfold gcmpI; rw [if_neg (by omega), if_neg (by omega)], hb⟩
        | (exfalso; simp_all; done)
theorem gorL_next {xs : List Int} {k : Nat} (h : ∀ x ∈ xs.take k, x = 0) : gorL xs = gorL (xs.drop k) := by
  induction k generalizing xs with
  | zero => rfl
  | succ k ih =>
    cases xs with
    | nil => rfl
    | cons x r =>
      have hx := h x (by simp)
      rw [gorL, if_neg (by simp [hx]), List.drop_succ_cons]
      exact ih fun y hy => h y (by simp [hy])
theorem gar_Or (a : Option Addr) (n c : Nat) (xs : List Int) (w : World) (hl : Rd encI w.heap.size w a n c xs) :
    Calls Try.prog 87 #[.slice a n c] w fun e w' => e = .returned (.int .i64 (gorL xs)) ∧ Below w.heap.size w w' := by
  have hn := hl.len
  have hf := hl.fit
  refine enterQ (N := 18) (C := fun _ => True) (H := []) (B := w.heap.size) (args := [_]) Try.func87 rfl rfl rfl (Nat.le_refl _) (Sat.nil _ _) fun Q hQ => ?_
  refine wp_seq' fun K1 hK1 => ?_
  refine wp_reg ?_
  refine ol_r (r_assign rfl) rfl ?_
  refine ol_nil (to_k0 (fun _ _ h => h) (hK1 _ _ _ _ _ ?_))
  clear hK1
  refine wp_seq' fun K2 hK2 => ?_
  refine wp_reg ?_
  refine ol_r (r_assign rfl) rfl ?_
  refine ol_nil (to_k0 (fun _ _ h => h) (hK2 _ _ _ _ _ ?_))
  clear hK2
  refine wp_seq' fun K3 hK3 => ?_
  refine wp_seq' fun K4 hK4 => ?_
  refine wp_reg ?_
  refine ol_r (r_move rfl) rfl ?_
  refine ol_r (r_len rfl sl61) rfl ?_
  refine ol_r (r_move rfl) rfl ?_
  refine ol_nil (to_k0 (fun _ _ h => h) (hK4 _ _ _ _ _ ?_))
  clear hK4
  refine wp_block' ?_
  apply wp_loopM (σ := Nat) (fun s => s ≤ n ∧ ∀ x ∈ xs.take s, x = 0) (fun s => [(8, .int .i64 s)]) [(3, _), (6, _), (7, _)] (fun s => []) [] (fun s => n - s) (0)
  ·try dsimp only
   exact ⟨Nat.zero_le _, fun x hx => by simp at hx⟩
  ·exact (sub_cons rfl sub_nil)
  ·exact (sub_cons rfl (sub_cons rfl (sub_cons rfl sub_nil)))
  ·exact subH_nil
  ·exact subH_nil
  ·rintro k ⟨hk, hP⟩
   intro K5 hK5
   refine wp_seq' fun K6 hK6 => ?_
   refine wp_reg ?_
   refine ol_r (r_lss rfl rfl) rfl ?_
   refine ol_nil (to_k0 (fun _ _ h => h) (hK6 _ _ _ _ _ ?_))
   clear hK6
   refine wp_seq' fun K7 hK7 => ?_
   first | refine wp_condD rfl (fun hc9 => ?_) (fun hc9 => ?_) | refine wp_condN rfl (fun hc9 => ?_) (fun hc9 => ?_) | refine wp_condNB rfl (fun hc9 => ?_) (fun hc9 => ?_) | refine wp_cond' rfl (fun hc9 => ?_) (fun hc9 => ?_)
   ·refine wp_skip' (to_k0 (fun _ _ h => h) (hK7 _ _ _ _ _ ?_))
    clear hK7
    refine wp_seq' fun K8 hK8 => ?_
    refine wp_block' ?_
    refine wp_seq' fun K9 hK9 => ?_
    refine wp_reg ?_
    refine ol_ixr hl rfl rfl sl61 (by omega) rfl fun x10 hx10 => ?_
    try simp only [Int.toNat_natCast] at hx10
    refine ol_r (r_ldw rfl (fun w1 hb1 hs1 hB1 => show Loads _ _ _ _ (.int .i64 x10) from Rd.loads hl ty3 hx10 hb1)) rfl ?_
    refine ol_r (r_assign rfl) rfl ?_
    refine ol_nil (to_k0 (fun _ _ h => h) (hK9 _ _ _ _ _ ?_))
    clear hK9
    refine wp_seq' fun K10 hK10 => ?_
    refine wp_reg ?_
    refine ol_r (r_move rfl) rfl ?_
    refine ol_r (r_move rfl) rfl ?_
    refine ol_r (r_neq rfl rfl) rfl ?_
    refine ol_nil (to_k0 (fun _ _ h => h) (hK10 _ _ _ _ _ ?_))
    clear hK10
    first | refine wp_condD rfl (fun hc14 => ?_) (fun hc14 => ?_) | refine wp_condN rfl (fun hc14 => ?_) (fun hc14 => ?_) | refine wp_condNB rfl (fun hc14 => ?_) (fun hc14 => ?_) | refine wp_cond' rfl (fun hc14 => ?_) (fun hc14 => ?_)
    ·refine wp_seq' fun K11 hK11 => ?_
     refine wp_reg ?_
     refine ol_r (r_move rfl) rfl ?_
     refine ol_r (r_assign rfl) rfl ?_
     refine ol_nil (to_k0 (fun _ _ h => h) (hK11 _ _ _ _ _ ?_))
     clear hK11
     refine hQ.ret (rvs1 (rv_t rfl)) (fun _ _ h => h) fun w hb hs hB hkd => ?_
     rw [gorL_next hP, drop_cons_get hx10, gorL, if_pos hc14]
     exact ⟨rfl, hb⟩
    ·refine wp_skip' (to_k0 (fun _ _ h => h) (hK8 _ _ _ _ _ ?_))
     clear hK8
     refine wp_reg ?_
     refine ol_r (r_add rfl rfl (by omega)) rfl ?_
     refine ol_r (r_move rfl) rfl ?_
     refine ol_nil (to_k0 (fun _ _ h => h) (hK5 (k + 1) _ _ ?_ ?_ (sub_cons rfl sub_nil) (sub_cons rfl (sub_cons rfl (sub_cons rfl sub_nil))) (by exact subH_nil) subH_nil))
     ·try dsimp only
      refine ⟨by omega, fun x hx => ?_⟩
      rw [take_succ_get hx10] at hx
      rcases List.mem_append.1 hx with h | h
      · exact hP x h
      · simp at h; omega
     ·try dsimp only
      omega
   ·refine wp_exit' (to_k0 (fun _ _ h => h) (hK3 _ _ _ _ _ ?_))
    clear hK3
    refine wp_seq' fun K12 hK12 => ?_
    refine wp_reg ?_
    refine ol_r (r_move rfl) rfl ?_
    refine ol_r (r_assign rfl) rfl ?_
    refine ol_nil (to_k0 (fun _ _ h => h) (hK12 _ _ _ _ _ ?_))
    clear hK12
    refine hQ.ret (rvs1 (rv_t rfl)) (fun _ _ h => h) fun w hb hs hB hkd => ?_
    rw [gorL_next hP, List.drop_eq_nil_of_le (by omega)]
    exact ⟨rfl, hb⟩
def layS106_ren : Go.Shelf.Ren := ⟨fun | 0 => 0 | 1 => 1 | 2 => 2 | 106 => 88 | 111 => 14 | 122 => 75 | 125 => 83 | 128 => 118 | 129 => 119 | 134 => 128 | 190 => 55 | 193 => 26 | 194 => 56 | 213 => 121 | 215 => 106 | 258 => 82 | 264 => 94 | 265 => 143 | 302 => 109 | 303 => 110 | 304 => 111 | 305 => 112 | 306 => 113 | 307 => 114 | 308 => 115 | 309 => 116 | 310 => 117 | 329 => 136 | 330 => 137 | 333 => 135 | 334 => 138 | 335 => 139 | 336 => 140 | 344 => 146 | 347 => 149 | 348 => 150 | 349 => 151 | 350 => 152 | 351 => 153 | 352 => 154 | 353 => 155 | 354 => 156 | 355 => 157 | 356 => 158 | 357 => 159 | 358 => 160 | 359 => 161 | 360 => 162 | 361 => 163 | 363 => 164 | 366 => 165 | n => n, fun | 0 => 0 | 1 => 1 | 2 => 2 | 3 => 3 | 4 => 4 | 5 => 5 | 6 => 6 | 7 => 7 | 8 => 8 | 9 => 9 | 10 => 10 | 11 => 11 | 12 => 12 | 13 => 13 | 14 => 14 | 15 => 15 | 16 => 16 | 17 => 17 | 18 => 18 | 19 => 19 | 20 => 20 | 21 => 21 | 22 => 198 | 27 => 160 | 28 => 61 | 31 => 55 | 34 => 64 | 41 => 130 | 43 => 141 | 46 => 152 | 47 => 151 | 51 => 202 | 52 => 201 | 53 => 170 | 54 => 203 | 74 => 205 | 75 => 206 | 80 => 225 | 81 => 231 | 100 => 120 | 101 => 88 | 102 => 121 | 104 => 95 | 111 => 98 | 127 => 235 | 131 => 139 | 135 => 150 | 143 => 224 | 144 => 240 | 145 => 241 | 148 => 171 | 149 => 172 | 164 => 242 | 182 => 194 | 183 => 195 | 188 => 193 | 189 => 196 | 190 => 197 | 191 => 199 | 192 => 200 | 218 => 213 | 219 => 214 | 220 => 215 | 222 => 217 | 224 => 216 | 225 => 218 | 228 => 222 | 229 => 145 | 231 => 223 | 238 => 226 | 239 => 227 | 240 => 228 | 241 => 229 | 242 => 230 | 243 => 232 | 244 => 233 | 245 => 234 | 246 => 236 | 247 => 237 | 248 => 238 | 249 => 239 | n => n, fun n => n⟩
theorem layS106 : Go.Proofs.Lays.n106 Try.prog layS106_ren := { mixed := by kernel_rfl, f106 := Try.func88.trans (congrArg some (by kernel_rfl)), f213 := Try.func121.trans (congrArg some (by kernel_rfl)), f265 := Try.func143.trans (congrArg some (by kernel_rfl)), t3 := Try.underlying3, a3 := Try.isAgg3, z3 := Try.sizeOf3, v3 := Try.zeroValue3, t9 := Try.underlying9, a9 := Try.isAgg9, z9 := Try.sizeOf9, v9 := Try.zeroValue9 }

theorem gar_Compares (a b : ByteArray) (w : World) : Calls Try.prog 88 #[.string a, .string b] w fun e w' => e = .returned (.int .i64 (gcmpS a b)) ∧ Below w.heap.size w w' := by
  refine (Any.strings_Compare layS106 a b w).mono ?_
  rintro e w' ⟨he, rfl⟩
  exact ⟨he, Below.refl _ _⟩
theorem gear_mountOrder (a b : GMount) (w : World) : Calls Try.prog 85 #[encGMount.val a, encGMount.val b] w fun e w' => e = .returned (.int .i64 (mcf a b)) ∧ Below w.heap.size w w' := by
  refine enterQ (N := 17) (C := fun _ => True) (H := []) (B := w.heap.size) (args := [_, _]) Try.func85 rfl rfl rfl (Nat.le_refl _) (Sat.nil _ _) fun Q hQ => ?_
  refine wp_seq' fun K1 hK1 => ?_
  refine wp_reg ?_
  refine ol_box 2 rfl rfl rfl fun b2 => ?_
  refine ol_box 3 rfl rfl rfl fun b3 => ?_
  refine ol_r (r_assign rfl) rfl ?_
  refine ol_nil (to_k0 (fun _ _ h => h) (hK1 _ _ _ _ _ ?_))
  clear hK1
  apply wp_seq_cutM (σ := Unit) (fun s => True) (fun s => [(4, .int .i64 (mcf a b))]) [] (fun s => []) [(2, _), (3, _)]
  ·exact sub_nil
  ·exact (subH_same rfl (subH_same rfl subH_nil))
  ·intro K2 hK2
   refine wp_rega [(999, [(2, _), (3, _)])] (by kernel_rfl) ⟨.inr (subH_same rfl (subH_same rfl subH_nil)), trivial⟩ ?_
   refine aq_r 0 999 rfl (by kernel_rfl) (by kernel_rfl) (by kernel_rfl) (.head _) (by kernel_rfl) (by kernel_rfl) rfl (r_fa (o' := 2) rfl fl155_2 rfl) ?_
   refine aq_r 1 999 rfl (by kernel_rfl) (by kernel_rfl) (by kernel_rfl) (.head _) (by kernel_rfl) (by kernel_rfl) rfl (r_ld (id := 2) rfl rfl rfl sc3) ?_
   refine aq_r 2 999 rfl (by kernel_rfl) (by kernel_rfl) (by kernel_rfl) (.head _) (by kernel_rfl) (by kernel_rfl) rfl (r_fa (o' := 2) rfl fl155_2 rfl) ?_
   refine aq_r 3 999 rfl (by kernel_rfl) (by kernel_rfl) (by kernel_rfl) (.head _) (by kernel_rfl) (by kernel_rfl) rfl (r_ld (id := 3) rfl rfl rfl sc3) ?_
   refine aq_r 5 999 rfl (by kernel_rfl) (by kernel_rfl) (by kernel_rfl) (.head _) (by kernel_rfl) (by kernel_rfl) rfl (r_fa (o' := 0) rfl fl155_0 rfl) ?_
   refine aq_r 6 999 rfl (by kernel_rfl) (by kernel_rfl) (by kernel_rfl) (.head _) (by kernel_rfl) (by kernel_rfl) rfl (r_ld (id := 2) rfl rfl rfl sc9) ?_
   refine aq_r 7 999 rfl (by kernel_rfl) (by kernel_rfl) (by kernel_rfl) (.head _) (by kernel_rfl) (by kernel_rfl) rfl (r_fa (o' := 0) rfl fl155_0 rfl) ?_
   refine aq_r 8 999 rfl (by kernel_rfl) (by kernel_rfl) (by kernel_rfl) (.head _) (by kernel_rfl) (by kernel_rfl) rfl (r_ld (id := 3) rfl rfl rfl sc9) ?_
   refine aq_one (i := 4) (by kernel_rfl) rfl fun K3 hK3 => ?_
   refine ol_call rfl rfl cb75 rfl (fun w1 hb1 hs1 hB1 => Calls.mono (gar_Compare _ _ _) ?_)
   rintro e w2 ⟨rfl, hb2⟩
   refine After.below rfl hb1 hs1 hB1 hb2 ?_
   clear hb2 hB1 hs1 hb1 w2 w1
   refine ol_nil (to_k0 (fun _ _ h => h) (hK3 _ _ ⟨.inr (by repeat' first | exact subH_nil | refine subH_same rfl ?_ | (refine subH_blk rfl (by repeat' first | exact sub_nil | refine sub_cons rfl ?_) ?_)), trivial⟩ ?_))
   clear hK3
   refine aq_one (i := 9) (by kernel_rfl) rfl fun K4 hK4 => ?_
   refine ol_call rfl rfl cb88 rfl (fun w1 hb1 hs1 hB1 => Calls.mono (gar_Compares _ _ _) ?_)
   rintro e w2 ⟨rfl, hb2⟩
   refine After.below rfl hb1 hs1 hB1 hb2 ?_
   clear hb2 hB1 hs1 hb1 w2 w1
   refine ol_nil (to_k0 (fun _ _ h => h) (hK4 _ _ ⟨.inr (by repeat' first | exact subH_nil | refine subH_same rfl ?_ | (refine subH_blk rfl (by repeat' first | exact sub_nil | refine sub_cons rfl ?_) ?_)), trivial⟩ ?_))
   clear hK4
   refine aq_one (i := 10) (by kernel_rfl) rfl fun K5 hK5 => ?_
   refine ol_bsN 15 rfl rw61 rfl rfl (fun _ => by kernel_rfl) rfl fun a15 => ?_
   refine ol_nil (to_k0 (fun _ _ h => h) (hK5 _ _ ⟨.inr (by repeat' first | exact subH_nil | refine subH_same rfl ?_ | (refine subH_blk rfl (by repeat' first | exact sub_nil | refine sub_cons rfl ?_) ?_)), trivial⟩ ?_))
   clear hK5
   refine aq_one (i := 11) (by kernel_rfl) rfl fun K6 hK6 => ?_
   refine ol_call rfl rfl cb87 rfl (fun w1 hb1 hs1 hB1 => Calls.mono (gar_Or _ _ _ [gcmpI a.fr b.fr, gcmpS a.slot b.slot] _ (Sat.rd hs1 (E := encI) (id := 15) rfl rfl)) ?_)
   rintro e w2 ⟨rfl, hb2⟩
   refine After.below rfl hb1 hs1 hB1 hb2 ?_
   clear hb2 hB1 hs1 hb1 w2 w1
   refine ol_nil (to_k0 (fun _ _ h => h) (hK6 _ _ ⟨.inr (by repeat' first | exact subH_nil | refine subH_same rfl ?_ | (refine subH_blk rfl (by repeat' first | exact sub_nil | refine sub_cons rfl ?_) ?_)), trivial⟩ ?_))
   clear hK6
   refine aq_r 12 999 rfl (by kernel_rfl) (by kernel_rfl) (by kernel_rfl) (.head _) (by kernel_rfl) (by kernel_rfl) rfl (r_assign rfl) ?_
   refine aq_done (by kernel_rfl) ?_
   refine (to_k0 (fun _ _ h => h) (hK2 (()) _ _ ?_ (sub_cons rfl sub_nil) sub_nil subH_nil (subH_same rfl (subH_same rfl subH_nil))))
   try dsimp only
   all_goals trivial
  ·rintro s hI
   refine hQ.ret (rvs1 (rv_t rfl)) (fun _ _ h => h) fun w hb hs hB hkd => ?_
   exact ⟨rfl, hb⟩
theorem gear_useOrder (a b : GUse) (w : World) : Calls Try.prog 61 #[encGUse.val a, encGUse.val b] w fun e w' => e = .returned (.int .i64 (ucf a b)) ∧ Below w.heap.size w w' := by
  refine enterQ (N := 17) (C := fun _ => True) (H := []) (B := w.heap.size) (args := [_, _]) Try.func61 rfl rfl rfl (Nat.le_refl _) (Sat.nil _ _) fun Q hQ => ?_
  refine wp_seq' fun K1 hK1 => ?_
  refine wp_reg ?_
  refine ol_box 2 rfl rfl rfl fun b2 => ?_
  refine ol_box 3 rfl rfl rfl fun b3 => ?_
  refine ol_r (r_assign rfl) rfl ?_
  refine ol_nil (to_k0 (fun _ _ h => h) (hK1 _ _ _ _ _ ?_))
  clear hK1
  apply wp_seq_cutM (σ := Unit) (fun s => True) (fun s => [(4, .int .i64 (ucf a b))]) [] (fun s => []) [(2, _), (3, _)]
  ·exact sub_nil
  ·exact (subH_same rfl (subH_same rfl subH_nil))
  ·intro K2 hK2
   refine wp_rega [(999, [(2, _), (3, _)])] (by kernel_rfl) ⟨.inr (subH_same rfl (subH_same rfl subH_nil)), trivial⟩ ?_
   refine aq_r 0 999 rfl (by kernel_rfl) (by kernel_rfl) (by kernel_rfl) (.head _) (by kernel_rfl) (by kernel_rfl) rfl (r_fa (o' := 2) rfl fl46_2 rfl) ?_
   refine aq_r 1 999 rfl (by kernel_rfl) (by kernel_rfl) (by kernel_rfl) (.head _) (by kernel_rfl) (by kernel_rfl) rfl (r_ld (id := 2) rfl rfl rfl sc3) ?_
   refine aq_r 2 999 rfl (by kernel_rfl) (by kernel_rfl) (by kernel_rfl) (.head _) (by kernel_rfl) (by kernel_rfl) rfl (r_fa (o' := 2) rfl fl46_2 rfl) ?_
   refine aq_r 3 999 rfl (by kernel_rfl) (by kernel_rfl) (by kernel_rfl) (.head _) (by kernel_rfl) (by kernel_rfl) rfl (r_ld (id := 3) rfl rfl rfl sc3) ?_
   refine aq_r 5 999 rfl (by kernel_rfl) (by kernel_rfl) (by kernel_rfl) (.head _) (by kernel_rfl) (by kernel_rfl) rfl (r_fa (o' := 0) rfl fl46_0 rfl) ?_
   refine aq_r 6 999 rfl (by kernel_rfl) (by kernel_rfl) (by kernel_rfl) (.head _) (by kernel_rfl) (by kernel_rfl) rfl (r_ld (id := 2) rfl rfl rfl sc9) ?_
   refine aq_r 7 999 rfl (by kernel_rfl) (by kernel_rfl) (by kernel_rfl) (.head _) (by kernel_rfl) (by kernel_rfl) rfl (r_fa (o' := 0) rfl fl46_0 rfl) ?_
   refine aq_r 8 999 rfl (by kernel_rfl) (by kernel_rfl) (by kernel_rfl) (.head _) (by kernel_rfl) (by kernel_rfl) rfl (r_ld (id := 3) rfl rfl rfl sc9) ?_
   refine aq_one (i := 4) (by kernel_rfl) rfl fun K3 hK3 => ?_
   refine ol_call rfl rfl cb75 rfl (fun w1 hb1 hs1 hB1 => Calls.mono (gar_Compare _ _ _) ?_)
   rintro e w2 ⟨rfl, hb2⟩
   refine After.below rfl hb1 hs1 hB1 hb2 ?_
   clear hb2 hB1 hs1 hb1 w2 w1
   refine ol_nil (to_k0 (fun _ _ h => h) (hK3 _ _ ⟨.inr (by repeat' first | exact subH_nil | refine subH_same rfl ?_ | (refine subH_blk rfl (by repeat' first | exact sub_nil | refine sub_cons rfl ?_) ?_)), trivial⟩ ?_))
   clear hK3
   refine aq_one (i := 9) (by kernel_rfl) rfl fun K4 hK4 => ?_
   refine ol_call rfl rfl cb88 rfl (fun w1 hb1 hs1 hB1 => Calls.mono (gar_Compares _ _ _) ?_)
   rintro e w2 ⟨rfl, hb2⟩
   refine After.below rfl hb1 hs1 hB1 hb2 ?_
   clear hb2 hB1 hs1 hb1 w2 w1
   refine ol_nil (to_k0 (fun _ _ h => h) (hK4 _ _ ⟨.inr (by repeat' first | exact subH_nil | refine subH_same rfl ?_ | (refine subH_blk rfl (by repeat' first | exact sub_nil | refine sub_cons rfl ?_) ?_)), trivial⟩ ?_))
   clear hK4
   refine aq_one (i := 10) (by kernel_rfl) rfl fun K5 hK5 => ?_
   refine ol_bsN 15 rfl rw61 rfl rfl (fun _ => by kernel_rfl) rfl fun a15 => ?_
   refine ol_nil (to_k0 (fun _ _ h => h) (hK5 _ _ ⟨.inr (by repeat' first | exact subH_nil | refine subH_same rfl ?_ | (refine subH_blk rfl (by repeat' first | exact sub_nil | refine sub_cons rfl ?_) ?_)), trivial⟩ ?_))
   clear hK5
   refine aq_one (i := 11) (by kernel_rfl) rfl fun K6 hK6 => ?_
   refine ol_call rfl rfl cb87 rfl (fun w1 hb1 hs1 hB1 => Calls.mono (gar_Or _ _ _ [gcmpI a.fr b.fr, gcmpS a.name b.name] _ (Sat.rd hs1 (E := encI) (id := 15) rfl rfl)) ?_)
   rintro e w2 ⟨rfl, hb2⟩
   refine After.below rfl hb1 hs1 hB1 hb2 ?_
   clear hb2 hB1 hs1 hb1 w2 w1
   refine ol_nil (to_k0 (fun _ _ h => h) (hK6 _ _ ⟨.inr (by repeat' first | exact subH_nil | refine subH_same rfl ?_ | (refine subH_blk rfl (by repeat' first | exact sub_nil | refine sub_cons rfl ?_) ?_)), trivial⟩ ?_))
   clear hK6
   refine aq_r 12 999 rfl (by kernel_rfl) (by kernel_rfl) (by kernel_rfl) (.head _) (by kernel_rfl) (by kernel_rfl) rfl (r_assign rfl) ?_
   refine aq_done (by kernel_rfl) ?_
   refine (to_k0 (fun _ _ h => h) (hK2 (()) _ _ ?_ (sub_cons rfl sub_nil) sub_nil subH_nil (subH_same rfl (subH_same rfl subH_nil))))
   try dsimp only
   all_goals trivial
  ·rintro s hI
   refine hQ.ret (rvs1 (rv_t rfl)) (fun _ _ h => h) fun w hb hs hB hkd => ?_
   exact ⟨rfl, hb⟩
theorem chkU_8 {u : GUse} {t : Bool} (h : nameB u.name = false ∨ nameB u.rig = false) : gchkU u t = 8 := if_pos h
theorem chkU_5 {u : GUse} {t : Bool} (h : ¬(nameB u.name = false ∨ nameB u.rig = false)) (h2 : t = true) : gchkU u t = 5 := by rw [gchkU, if_neg h, if_pos h2]
theorem chkU_9 {u : GUse} {t : Bool} (h : ¬(nameB u.name = false ∨ nameB u.rig = false)) (h2 : t = false) (h3 : momB u.fr = false ∨ inB u.sec 1 1000000 = false ∨ inB u.way 0 1000000000 = false) : gchkU u t = 9 := by rw [gchkU, if_neg h, if_neg (by rw [h2]; simp), if_pos h3]
theorem chkU_0 {u : GUse} {t : Bool} (h : ¬(nameB u.name = false ∨ nameB u.rig = false)) (h2 : t = false) (h3 : ¬(momB u.fr = false ∨ inB u.sec 1 1000000 = false ∨ inB u.way 0 1000000000 = false)) : gchkU u t = 0 := by rw [gchkU, if_neg h, if_neg (by rw [h2]; simp), if_neg h3]
theorem gear_checkUse (u : GUse) (t : Bool) (w : World) (h1 : u.name.size ≤ 9223372036854775807) (h2 : u.rig.size ≤ 9223372036854775807) : Calls Try.prog 60 #[encGUse.val u, .bool t] w fun e w' => e = .returned (.int .i64 (gchkU u t)) ∧ Below w.heap.size w w' := by
  refine enterQ (N := 35) (C := fun _ => True) (H := []) (B := w.heap.size) (args := [_, _]) Try.func60 rfl rfl rfl (Nat.le_refl _) (Sat.nil _ _) fun Q hQ => ?_
  refine wp_seq' fun K1 hK1 => ?_
  refine wp_reg ?_
  refine ol_box 2 rfl rfl rfl fun b2 => ?_
  refine ol_r (r_assign rfl) rfl ?_
  refine ol_nil (to_k0 (fun _ _ h => h) (hK1 _ _ _ _ _ ?_))
  clear hK1
  refine wp_seq' fun K2 hK2 => ?_
  refine wp_block' ?_
  refine wp_seq' fun K3 hK3 => ?_
  refine wp_reg ?_
  refine ol_r (r_fa (o' := 0) rfl fl46_0 rfl) rfl ?_
  refine ol_r (r_ld (id := 2) rfl rfl rfl sc9) rfl ?_
  refine ol_call rfl rfl cb32 rfl (fun w1 hb1 hs1 hB1 => Calls.mono (quant_IsName u.name _ h1) ?_)
  rintro e w2 ⟨rfl, hb2⟩
  refine After.below rfl hb1 hs1 hB1 hb2 ?_
  clear hb2 hB1 hs1 hb1 w2 w1
  refine ol_r (r_not rfl) rfl ?_
  refine ol_r (r_move rfl) rfl ?_
  refine ol_split (d := 10) rfl (fun hs10 => ?_) (fun hs10 => ?_)
  ·have phs10 := hs10; try simp only [decide_eq_true_eq, decide_eq_false_iff_not, Bool.not_eq_true', Bool.not_eq_false', Bool.not_true, Bool.not_false] at phs10
   refine ol_s rfl rfl hs10 rfl ?_
   refine ol_s rfl rfl hs10 rfl ?_
   refine ol_s rfl rfl hs10 rfl ?_
   refine ol_s rfl rfl hs10 rfl ?_
   refine ol_r (r_pickT rfl hs10 rfl) rfl ?_
   refine ol_r (r_assign rfl) rfl ?_
   refine ol_nil (to_k0 (fun _ _ h => h) (hK3 _ _ _ _ _ ?_))
   clear hK3
   refine wp_condT rfl ?_
   refine wp_seq' fun K4 hK4 => ?_
   refine wp_reg ?_
   refine ol_r (r_assign rfl) rfl ?_
   refine ol_nil (to_k0 (fun _ _ h => h) (hK4 _ _ _ _ _ ?_))
   clear hK4
   refine hQ.ret (rvs1 (rv_t rfl)) (fun _ _ h => h) fun w hb hs hB hkd => ?_
   exact ⟨by rw [chkU_8 (.inl phs10)], hb⟩
  ·have phs10 := hs10; try simp only [decide_eq_true_eq, decide_eq_false_iff_not, Bool.not_eq_true', Bool.not_eq_false', Bool.not_true, Bool.not_false] at phs10
   refine ol_g rfl rfl hs10 ?_
   refine ol_r (r_fa (o' := 1) rfl fl46_1 rfl) rfl ?_
   refine ol_g rfl rfl hs10 ?_
   refine ol_r (r_ld (id := 2) rfl rfl rfl sc9) rfl ?_
   refine ol_g rfl rfl hs10 ?_
   refine ol_call rfl rfl cb32 rfl (fun w1 hb1 hs1 hB1 => Calls.mono (quant_IsName u.rig _ h2) ?_)
   rintro e w2 ⟨rfl, hb2⟩
   refine After.below rfl hb1 hs1 hB1 hb2 ?_
   clear hb2 hB1 hs1 hb1 w2 w1
   refine ol_g rfl rfl hs10 ?_
   refine ol_r (r_not rfl) rfl ?_
   refine ol_r (r_pickF rfl hs10 rfl) rfl ?_
   refine ol_r (r_assign rfl) rfl ?_
   refine ol_nil (to_k0 (fun _ _ h => h) (hK3 _ _ _ _ _ ?_))
   clear hK3
   first | refine wp_condD rfl (fun hc5 => ?_) (fun hc5 => ?_) | refine wp_condN rfl (fun hc5 => ?_) (fun hc5 => ?_) | refine wp_condNB rfl (fun hc5 => ?_) (fun hc5 => ?_) | refine wp_cond' rfl (fun hc5 => ?_) (fun hc5 => ?_)
   ·refine wp_seq' fun K5 hK5 => ?_
    refine wp_reg ?_
    refine ol_r (r_assign rfl) rfl ?_
    refine ol_nil (to_k0 (fun _ _ h => h) (hK5 _ _ _ _ _ ?_))
    clear hK5
    refine hQ.ret (rvs1 (rv_t rfl)) (fun _ _ h => h) fun w hb hs hB hkd => ?_
    exact ⟨by rw [chkU_8 (.inr hc5)], hb⟩
   ·refine wp_seq' fun K6 hK6 => ?_
    refine wp_reg ?_
    refine ol_r (r_move rfl) rfl ?_
    refine ol_r (r_assign rfl) rfl ?_
    refine ol_nil (to_k0 (fun _ _ h => h) (hK6 _ _ _ _ _ ?_))
    clear hK6
    first | refine wp_condD rfl (fun hc16 => ?_) (fun hc16 => ?_) | refine wp_condN rfl (fun hc16 => ?_) (fun hc16 => ?_) | refine wp_condNB rfl (fun hc16 => ?_) (fun hc16 => ?_) | refine wp_cond' rfl (fun hc16 => ?_) (fun hc16 => ?_)
    ·refine wp_seq' fun K7 hK7 => ?_
     refine wp_reg ?_
     refine ol_r (r_assign rfl) rfl ?_
     refine ol_nil (to_k0 (fun _ _ h => h) (hK7 _ _ _ _ _ ?_))
     clear hK7
     refine hQ.ret (rvs1 (rv_t rfl)) (fun _ _ h => h) fun w hb hs hB hkd => ?_
     exact ⟨by rw [chkU_5 (by simp [phs10, hc5]) hc16], hb⟩
    ·refine wp_seq' fun K8 hK8 => ?_
     refine wp_reg ?_
     refine ol_r (r_fa (o' := 2) rfl fl46_2 rfl) rfl ?_
     refine ol_r (r_ld (id := 2) rfl rfl rfl sc3) rfl ?_
     refine ol_call rfl rfl cb35 rfl (fun w1 hb1 hs1 hB1 => Calls.mono (gear_isMoment _ _) ?_)
     rintro e w2 ⟨rfl, hb2⟩
     refine After.below rfl hb1 hs1 hB1 hb2 ?_
     clear hb2 hB1 hs1 hb1 w2 w1
     refine ol_r (r_not rfl) rfl ?_
     refine ol_r (r_move rfl) rfl ?_
     refine ol_split (d := 23) rfl (fun hs23 => ?_) (fun hs23 => ?_)
     ·have phs23 := hs23; try simp only [decide_eq_true_eq, decide_eq_false_iff_not, Bool.not_eq_true', Bool.not_eq_false', Bool.not_true, Bool.not_false] at phs23
      refine ol_s rfl rfl hs23 rfl ?_
      refine ol_s rfl rfl hs23 rfl ?_
      refine ol_s rfl rfl hs23 rfl ?_
      refine ol_s rfl rfl hs23 rfl ?_
      refine ol_r (r_pickT rfl hs23 rfl) rfl ?_
      refine ol_r (r_move rfl) rfl ?_
      refine ol_s rfl rfl rfl rfl ?_
      refine ol_s rfl rfl rfl rfl ?_
      refine ol_s rfl rfl rfl rfl ?_
      refine ol_s rfl rfl rfl rfl ?_
      refine ol_r (r_pickT rfl rfl rfl) rfl ?_
      refine ol_r (r_assign rfl) rfl ?_
      refine ol_nil (to_k0 (fun _ _ h => h) (hK8 _ _ _ _ _ ?_))
      clear hK8
      refine wp_condT rfl ?_
      refine wp_seq' fun K9 hK9 => ?_
      refine wp_reg ?_
      refine ol_r (r_assign rfl) rfl ?_
      refine ol_nil (to_k0 (fun _ _ h => h) (hK9 _ _ _ _ _ ?_))
      clear hK9
      refine hQ.ret (rvs1 (rv_t rfl)) (fun _ _ h => h) fun w hb hs hB hkd => ?_
      exact ⟨by rw [chkU_9 (by simp [phs10, hc5]) hc16 (.inl phs23)], hb⟩
     ·have phs23 := hs23; try simp only [decide_eq_true_eq, decide_eq_false_iff_not, Bool.not_eq_true', Bool.not_eq_false', Bool.not_true, Bool.not_false] at phs23
      refine ol_g rfl rfl hs23 ?_
      refine ol_r (r_fa (o' := 3) rfl fl46_3 rfl) rfl ?_
      refine ol_g rfl rfl hs23 ?_
      refine ol_r (r_ld (id := 2) rfl rfl rfl sc3) rfl ?_
      refine ol_g rfl rfl hs23 ?_
      refine ol_call rfl rfl cb58 rfl (fun w1 hb1 hs1 hB1 => Calls.mono (gear_in _ _ _ _) ?_)
      rintro e w2 ⟨rfl, hb2⟩
      refine After.below rfl hb1 hs1 hB1 hb2 ?_
      clear hb2 hB1 hs1 hb1 w2 w1
      refine ol_g rfl rfl hs23 ?_
      refine ol_r (r_not rfl) rfl ?_
      refine ol_r (r_pickF rfl hs23 rfl) rfl ?_
      refine ol_r (r_move rfl) rfl ?_
      refine ol_split (d := 29) rfl (fun hs29 => ?_) (fun hs29 => ?_)
      ·have phs29 := hs29; try simp only [decide_eq_true_eq, decide_eq_false_iff_not, Bool.not_eq_true', Bool.not_eq_false', Bool.not_true, Bool.not_false] at phs29
       refine ol_s rfl rfl hs29 rfl ?_
       refine ol_s rfl rfl hs29 rfl ?_
       refine ol_s rfl rfl hs29 rfl ?_
       refine ol_s rfl rfl hs29 rfl ?_
       refine ol_r (r_pickT rfl hs29 rfl) rfl ?_
       refine ol_r (r_assign rfl) rfl ?_
       refine ol_nil (to_k0 (fun _ _ h => h) (hK8 _ _ _ _ _ ?_))
       clear hK8
       refine wp_condT rfl ?_
       refine wp_seq' fun K10 hK10 => ?_
       refine wp_reg ?_
       refine ol_r (r_assign rfl) rfl ?_
       refine ol_nil (to_k0 (fun _ _ h => h) (hK10 _ _ _ _ _ ?_))
       clear hK10
       refine hQ.ret (rvs1 (rv_t rfl)) (fun _ _ h => h) fun w hb hs hB hkd => ?_
       exact ⟨by rw [chkU_9 (by simp [phs10, hc5]) hc16 (.inr (.inl phs29))], hb⟩
      ·have phs29 := hs29; try simp only [decide_eq_true_eq, decide_eq_false_iff_not, Bool.not_eq_true', Bool.not_eq_false', Bool.not_true, Bool.not_false] at phs29
       refine ol_g rfl rfl hs29 ?_
       refine ol_r (r_fa (o' := 4) rfl fl46_4 rfl) rfl ?_
       refine ol_g rfl rfl hs29 ?_
       refine ol_r (r_ld (id := 2) rfl rfl rfl sc3) rfl ?_
       refine ol_g rfl rfl hs29 ?_
       refine ol_call rfl rfl cb58 rfl (fun w1 hb1 hs1 hB1 => Calls.mono (gear_in _ _ _ _) ?_)
       rintro e w2 ⟨rfl, hb2⟩
       refine After.below rfl hb1 hs1 hB1 hb2 ?_
       clear hb2 hB1 hs1 hb1 w2 w1
       refine ol_g rfl rfl hs29 ?_
       refine ol_r (r_not rfl) rfl ?_
       refine ol_r (r_pickF rfl hs29 rfl) rfl ?_
       refine ol_r (r_assign rfl) rfl ?_
       refine ol_nil (to_k0 (fun _ _ h => h) (hK8 _ _ _ _ _ ?_))
       clear hK8
       first | refine wp_condD rfl (fun hc18 => ?_) (fun hc18 => ?_) | refine wp_condN rfl (fun hc18 => ?_) (fun hc18 => ?_) | refine wp_condNB rfl (fun hc18 => ?_) (fun hc18 => ?_) | refine wp_cond' rfl (fun hc18 => ?_) (fun hc18 => ?_)
       ·refine wp_seq' fun K11 hK11 => ?_
        refine wp_reg ?_
        refine ol_r (r_assign rfl) rfl ?_
        refine ol_nil (to_k0 (fun _ _ h => h) (hK11 _ _ _ _ _ ?_))
        clear hK11
        refine hQ.ret (rvs1 (rv_t rfl)) (fun _ _ h => h) fun w hb hs hB hkd => ?_
        exact ⟨by rw [chkU_9 (by simp [phs10, hc5]) hc16 (.inr (.inr hc18))], hb⟩
       ·refine wp_skip' (to_k0 (fun _ _ h => h) (hK2 _ _ _ _ _ ?_))
        clear hK2
        refine wp_seq' fun K12 hK12 => ?_
        refine wp_reg ?_
        refine ol_r (r_assign rfl) rfl ?_
        refine ol_nil (to_k0 (fun _ _ h => h) (hK12 _ _ _ _ _ ?_))
        clear hK12
        refine hQ.ret (rvs1 (rv_t rfl)) (fun _ _ h => h) fun w hb hs hB hkd => ?_
        exact ⟨by rw [chkU_0 (by simp [phs10, hc5]) hc16 (by simp [phs23, phs29, hc18])], hb⟩
end Go.Proofs.Ytfbmkepogcimlaa

/-
  Garages among the arguments, opened.
-/


namespace Go.Proofs.Ytfbmkepogcimlaa
open Go Hx Go.ChangeShapes Go.WideShapes Go.ChangeAt Go.RowKit
set_option linter.unusedVariables false
set_option maxRecDepth 8000
section
variable {H : Type} {enc : TypeId × Value → H} {W : World} {base : Nat} {sp : Nat → Bool} {held : Bool}
theorem cells_encGPartP : ∀ n cs (x : DataW H × List MemPlace), DataW.trod enc Try.prog W base sp held n 42 cs = some x → ∃ y, cs = encGPart.cells y ∧ y.name.size ≤ 9223372036854775807 := by
  intro n cs x h
  obtain ⟨hl, hv⟩ := leaves (ts := [9, 3]) 4 (by kernel_rfl) h
  match cs, hl with
  | [v0, v1], _ =>
    obtain ⟨a0, rfl, w0⟩ := (hv 0 9 v0 rfl rfl).string Try.underlying9
    obtain ⟨a1, rfl, w1⟩ := (hv 1 3 v1 rfl rfl).int (k := .i64) Try.underlying3
    exact ⟨⟨a0, a1⟩, rfl, (by unfold maxLen at w0; show a0.size ≤ _; omega)⟩
theorem cells_encGSlotP : ∀ n cs (x : DataW H × List MemPlace), DataW.trod enc Try.prog W base sp held n 34 cs = some x → ∃ y, cs = encGSlot.cells y ∧ (y.name.size ≤ 9223372036854775807 ∧ y.rig.size ≤ 9223372036854775807) := by
  intro n cs x h
  obtain ⟨hl, hv⟩ := leaves (ts := [9, 9]) 4 (by kernel_rfl) h
  match cs, hl with
  | [v0, v1], _ =>
    obtain ⟨a0, rfl, w0⟩ := (hv 0 9 v0 rfl rfl).string Try.underlying9
    obtain ⟨a1, rfl, w1⟩ := (hv 1 9 v1 rfl rfl).string Try.underlying9
    exact ⟨⟨a0, a1⟩, rfl, ⟨(by unfold maxLen at w0; show a0.size ≤ _; omega), (by unfold maxLen at w1; show a1.size ≤ _; omega)⟩⟩
theorem cells_encGMountP : ∀ n cs (x : DataW H × List MemPlace), DataW.trod enc Try.prog W base sp held n 155 cs = some x → ∃ y, cs = encGMount.cells y ∧ True := by
  intro n cs x h
  obtain ⟨hl, hv⟩ := leaves (ts := [9, 9, 3, 3]) 4 (by kernel_rfl) h
  match cs, hl with
  | [v0, v1, v2, v3], _ =>
    obtain ⟨a0, rfl, w0⟩ := (hv 0 9 v0 rfl rfl).string Try.underlying9
    obtain ⟨a1, rfl, w1⟩ := (hv 1 9 v1 rfl rfl).string Try.underlying9
    obtain ⟨a2, rfl, w2⟩ := (hv 2 3 v2 rfl rfl).int (k := .i64) Try.underlying3
    obtain ⟨a3, rfl, w3⟩ := (hv 3 3 v3 rfl rfl).int (k := .i64) Try.underlying3
    exact ⟨⟨a0, a1, a2, a3⟩, rfl, trivial⟩
theorem cells_encGUseP : ∀ n cs (x : DataW H × List MemPlace), DataW.trod enc Try.prog W base sp held n 46 cs = some x → ∃ y, cs = encGUse.cells y ∧ (y.name.size ≤ 9223372036854775807 ∧ y.rig.size ≤ 9223372036854775807) := by
  intro n cs x h
  obtain ⟨hl, hv⟩ := leaves (ts := [9, 9, 3, 3, 3]) 4 (by kernel_rfl) h
  match cs, hl with
  | [v0, v1, v2, v3, v4], _ =>
    obtain ⟨a0, rfl, w0⟩ := (hv 0 9 v0 rfl rfl).string Try.underlying9
    obtain ⟨a1, rfl, w1⟩ := (hv 1 9 v1 rfl rfl).string Try.underlying9
    obtain ⟨a2, rfl, w2⟩ := (hv 2 3 v2 rfl rfl).int (k := .i64) Try.underlying3
    obtain ⟨a3, rfl, w3⟩ := (hv 3 3 v3 rfl rfl).int (k := .i64) Try.underlying3
    obtain ⟨a4, rfl, w4⟩ := (hv 4 3 v4 rfl rfl).int (k := .i64) Try.underlying3
    exact ⟨⟨a0, a1, a2, a3, a4⟩, rfl, ⟨(by unfold maxLen at w0; show a0.size ≤ _; omega), (by unfold maxLen at w1; show a1.size ≤ _; omega)⟩⟩
theorem open_gar {n : Nat} {cs : List Value} {x : DataW H × List MemPlace} (h : DataW.trod enc Try.prog W base sp held n 27 cs = some x) :
    ∃ G : GarV, cs = [.slice G.pa G.pn G.pc, .slice G.sa G.sn G.sc, .slice G.ma G.mn G.mc, .slice G.ua G.un G.uc] ∧ G.Ok W.heap.size W := by
  obtain ⟨hl, hv⟩ := leaves (ts := [22, 23, 24, 25]) 5 (by kernel_rfl) h
  match cs, hl with
  | [v0, v1, v2, v3], _ =>
    obtain ⟨n0, d0, p0, h0, _⟩ := hv 0 22 v0 rfl rfl
    obtain ⟨n1, d1, p1, h1, _⟩ := hv 1 23 v1 rfl rfl
    obtain ⟨n2, d2, p2, h2, _⟩ := hv 2 24 v2 rfl rfl
    obtain ⟨n3, d3, p3, h3, _⟩ := hv 3 25 v3 rfl rfl
    obtain ⟨pa, pn, pc, ps, e0, r0, q0⟩ := open_rowsP encGPart _ Try.underlying22 (by kernel_rfl) cells_encGPartP h0
    obtain ⟨sa, sn, sc, ss, e1, r1, q1⟩ := open_rowsP encGSlot _ Try.underlying23 (by kernel_rfl) cells_encGSlotP h1
    obtain ⟨ma, mn, mc, ms, e2, r2, q2⟩ := open_rowsP encGMount _ Try.underlying24 (by kernel_rfl) cells_encGMountP h2
    obtain ⟨ua, un, uc, us, e3, r3, q3⟩ := open_rowsP encGUse _ Try.underlying25 (by kernel_rfl) cells_encGUseP h3
    cases e0; cases e1; cases e2; cases e3
    exact ⟨{ ps := ps, ss := ss, ms := ms, us := us, pa := pa, pn := pn, pc := pc, sa := sa, sn := sn, sc := sc, ma := ma, mn := mn, mc := mc, ua := ua, un := un, uc := uc }, rfl, ⟨r0, r1, r2, r3, q0, q1, q3⟩⟩
end
end Go.Proofs.Ytfbmkepogcimlaa

/-
  Maps: an entry that is asked for and written (m[k] op= v).
-/

namespace Go.Proofs.Ytfbmkepogcimlaa.Hx
open Go Go.RowKit Go.MapKept
set_option linter.unusedVariables false
set_option linter.unusedSimpArgs false
set_option linter.unusedSectionVars false
section
variable {α β : Type} [DecidableEq α] {K : α → Value} {V : β → Value}
/-- The map while an entry is open: the entry is there. -/
def MapEk (K : α → Value) (V : β → Value) (D : List (α × β)) (k : α) (u : β) (st : Nat) (o : Obj) : Prop := ∃ j, kIdx (pKeys (pS D k u)) k = some j ∧ MapE (pEnc K V (pS D k u)) j st o
theorem kIdx_pS (k : α) (v : β) : ∀ D : List (α × β), ∃ j, kIdx (pKeys (pS D k v)) k = some j
  | [] => ⟨0, by simp [pS, pKeys, kIdx]⟩
  | (a, b) :: r => by
    rw [pS]
    by_cases h : a = k
    · rw [if_pos h]; exact ⟨0, by simp [pKeys, kIdx, h]⟩
    · rw [if_neg h]
      obtain ⟨j, hj⟩ := kIdx_pS k v r
      refine ⟨j + 1, ?_⟩
      rw [pKeys, List.map_cons, kIdx, if_neg h]
      show (kIdx (pKeys (pS r k v)) k).map (· + 1) = _
      rw [hj]; rfl
theorem pS_pS (k : α) (u v : β) : ∀ D : List (α × β), pS (pS D k u) k v = pS D k v
  | [] => by simp [pS]
  | (a, b) :: r => by
    rw [pS]
    by_cases h : a = k
    · rw [if_pos h, pS, if_pos h, pS, if_pos h]
    · rw [if_neg h, pS, if_neg h, pS_pS k u v r, pS, if_neg h]
theorem pS_same {k : α} {u : β} : ∀ {D : List (α × β)}, pO D k = some u → pS D k u = D
  | [], h => by simp [pO] at h
  | (a, b) :: r, h => by
    rw [pO] at h
    rw [pS]
    by_cases ha : a = k
    · rw [if_pos ha] at h ⊢; cases h; rfl
    · rw [if_neg ha] at h ⊢; rw [pS_same h]
theorem modify_keys : ∀ (l : List MapEntry) (j : Nat) (f : MapEntry → MapEntry), (∀ e, l[j]? = some e → (f e).key = e.key ∧ (f e).val = e.val ∧ (f e).born = e.born) → (l.modify j f).map (fun e => (e.key, e.val)) = l.map (fun e => (e.key, e.val)) ∧ (l.modify j f).map (·.born) = l.map (·.born)
  | [], j, f, _ => by simp
  | e :: l, 0, f, h => by
    obtain ⟨h1, h2, h3⟩ := h e rfl
    simp [h1, h2, h3]
  | e :: l, j + 1, f, h => by
    obtain ⟨h1, h2⟩ := modify_keys l j f (fun e' he => h e' (by simpa using he))
    rw [List.modify_succ_cons, List.map_cons, List.map_cons, List.map_cons, List.map_cons, h1, h2]
    exact ⟨rfl, rfl⟩
theorem born_lt {l : List MapEntry} {l' : List MapEntry} {clock : Nat} (h : l'.map (·.born) = l.map (·.born)) (hc : ∀ x ∈ l, x.born < clock) : ∀ x ∈ l', x.born < clock := fun x hx => by
  have h1 : x.born ∈ l.map (·.born) := by rw [← h]; exact List.mem_map.2 ⟨x, hx, rfl⟩
  obtain ⟨y, hy, e⟩ := List.mem_map.1 h1
  rw [← e]; exact hc y hy
theorem modify_val (v : β) : ∀ (l : List MapEntry) (D : List (α × β)) (j : Nat) (k : α) (u : β), l.map (fun e => (e.key, e.val)) = pEnc K V D → D[j]? = some (k, u) → (l.modify j fun e => { e with val := V v }).map (fun e => (e.key, e.val)) = pEnc K V (D.set j (k, v)) ∧ (l.modify j fun e => { e with val := V v }).map (·.born) = l.map (·.born)
  | [], [], j, k, u, _, hj => by simp at hj
  | [], d :: D, j, k, u, h, _ => by simp [pEnc] at h
  | e :: l, [], j, k, u, h, _ => by simp [pEnc] at h
  | e :: l, d :: D, 0, k, u, h, hj => by
    simp at hj; subst hj
    simp [pEnc] at h ⊢
    exact ⟨h.1.1, h.2⟩
  | e :: l, d :: D, j + 1, k, u, h, hj => by
    have h1 : l.map (fun e => (e.key, e.val)) = pEnc K V D := by simp [pEnc] at h ⊢; exact h.2
    have h2 : (e.key, e.val) = (K d.1, V d.2) := by simp [pEnc] at h ⊢; exact h.1
    obtain ⟨a1, a2⟩ := modify_val v l D j k u h1 (by simpa using hj)
    rw [List.modify_succ_cons, List.map_cons, List.map_cons, List.map_cons, List.set_cons_succ, a1, a2, h2]
    exact ⟨rfl, rfl⟩
theorem entry_run {P : Program} {t : TypeId} {z : β} (hT : MapK P t K V z) {b clock : Nat} {ents : Array MapEntry} {D : List (α × β)} {w : World} (hb : w.heap[b]? = some (.map ents clock)) (he : ents.toList.map (fun e => (e.key, e.val)) = pEnc K V D) (hc : ∀ x ∈ ents.toList, x.born < clock) (hn : (ents.toList.map (·.born)).Nodup) (k : α) :
    ∃ o st, (Instr.mapEntry t (.map (some b)) (K k)).run P w = .ok (.tuple #[V ((pO D k).getD z), .int .i64 (st : Nat)]) { w with heap := w.heap.setIfInBounds b o } ∧ MapEk K V D k ((pO D k).getD z) st o := by
  obtain ⟨kt, et, hm, hK, hz⟩ := hT
  have hf := found (P := P) hK he k w
  simp only [Instr.mapEntry, Sem.run_bind, run_underlying hm, Result.andThen_ok, MapKept.run_getObj_map hb, hK.chk, hf]
  cases hj : kIdx (pKeys D) k with
  | none =>
    obtain ⟨h1, _, h3⟩ := pS_none hj
    have hlen := ents_len he
    obtain ⟨j, hj2⟩ := kIdx_pS k z D
    have hjl : j = D.length := by
      have h5 := kIdx_some hj2
      rw [h1 z, pKeys, List.map_append, List.getElem?_append] at h5
      by_cases hlt : j < (D.map (·.1)).length
      · rw [if_pos hlt] at h5
        exact absurd (List.mem_of_getElem? h5) (kIdx_none.1 hj)
      · rw [if_neg hlt] at h5
        have := (List.getElem?_eq_some_iff.1 h5).1
        simp at this hlt; omega
    refine ⟨.map (ents.push { key := K k, val := V z, born := clock }) (clock + 1), clock, ?_, j, by rw [h3]; exact hj2, _, _, rfl, ?_, ?_, ?_, ?_⟩
    · simp only [h3, Option.map_none, Option.bind_none, hz, Sem.run_bind, Result.andThen_ok, run_setObj_map _ hb, Sem.run_pure, goInt, Option.getD_none]
    · rw [h3, Option.getD_none, h1 z]; simp [pEnc] at he ⊢; exact he
    · intro x hx
      simp at hx
      rcases hx with hx | rfl
      · have := hc x (by simpa using hx); omega
      · exact Nat.lt_succ_self _
    · simp only [Array.toList_push, List.map_append, List.map_cons, List.map_nil]
      refine List.nodup_append.2 ⟨hn, by simp, fun x hx y hy => ?_⟩
      simp at hy; subst hy
      obtain ⟨e, he', rfl⟩ := List.mem_map.1 hx
      have := hc e he'; omega
    · rw [hjl, ← hlen]
      simp
  | some j =>
    obtain ⟨h1, _, b', h3, h4⟩ := pS_some hj
    obtain ⟨e, he1, he2, he3⟩ := ents_at he h4
    have he1' := he1
    rw [Array.getElem?_toList] at he1
    have hps : pS D k b' = D := pS_same h3
    have hkb : (Instr.keyThatStays (K k) (K k)).run P w = .ok (K k) w := by simp [Instr.keyThatStays, hK.bits k]
    obtain ⟨m1, m2⟩ := modify_keys ents.toList j (fun e => { e with key := K k }) (fun e' h => by rw [he1'] at h; cases h; exact ⟨he2.symm, rfl, rfl⟩)
    refine ⟨.map (ents.modify j fun e => { e with key := K k }) clock, e.born, ?_, j, by rw [h3, Option.getD_some, hps]; exact hj, _, _, rfl, ?_, ?_, ?_, ?_⟩
    · simp only [h3, Option.map_some, Option.bind_some, he1, Option.getD_some, he2, Sem.run_bind, hkb, Result.andThen_ok, run_setObj_map _ hb, Sem.run_pure, goInt]
    · rw [h3, Option.getD_some, hps, Array.toList_modify, m1]; exact he
    · rw [Array.toList_modify]; exact born_lt m2 hc
    · rw [Array.toList_modify, m2]; exact hn
    · rw [Array.toList_modify, m2, List.getElem?_map, he1']; rfl
theorem estore_run {P : Program} {t : TypeId} {z : β} {b clock st j : Nat} {ents : Array MapEntry} {D : List (α × β)} {k : α} {u : β} {w : World} (hb : w.heap[b]? = some (.map ents clock)) (hj : kIdx (pKeys (pS D k u)) k = some j) (he : ents.toList.map (fun e => (e.key, e.val)) = pEnc K V (pS D k u)) (hc : ∀ x ∈ ents.toList, x.born < clock) (hn : (ents.toList.map (·.born)).Nodup) (hst : (ents.toList.map (·.born))[j]? = some st) (v : β) :
    ∃ o, (Instr.entryStore t (.map (some b)) (.int .i64 (st : Nat)) (V v)).run P w = .ok () { w with heap := w.heap.setIfInBounds b o } ∧ MapO (pEnc K V (pS D k v)) o := by
  obtain ⟨h1, _, b', h3, h4⟩ := pS_some hj
  have hfi : ents.findIdx? (fun e => (e.born : Int) == (st : Int)) = some j := by
    rw [List.getElem?_map] at hst
    obtain ⟨e, he1, he2⟩ := Option.map_eq_some_iff.1 hst
    have hjl := (List.getElem?_eq_some_iff.1 he1).1
    refine Array.findIdx?_eq_some_iff_getElem.2 ⟨by simpa using hjl, ?_, fun i hi => ?_⟩
    · have : ents[j]'(by simpa using hjl) = e := by rw [← Array.getElem_toList]; exact (List.getElem?_eq_some_iff.1 he1).2
      simp [this, he2]
    · have hil : i < ents.toList.length := by omega
      have hne := (List.pairwise_iff_getElem.1 hn) i j (by simpa using hil) (by simpa using hjl) hi
      simp only [List.getElem_map] at hne
      have h5 : ents.toList[j] = e := (List.getElem?_eq_some_iff.1 he1).2
      rw [h5, he2] at hne
      simp only [beq_iff_eq]
      rw [← Array.getElem_toList]
      omega
  refine ⟨.map (ents.modify j fun e => { e with val := V v }) clock, ?_, ents.modify j (fun e => { e with val := V v }), clock, rfl, ?_, ?_, ?_⟩
  · simp only [Instr.entryStore, Sem.run_bind, MapKept.run_getObj_map hb, Result.andThen_ok, asInt, asIntOf, Sem.run_pure, hfi, run_setObj_map _ hb]
  · have := (modify_val (K := K) v ents.toList _ j k b' he h4).1
    rw [Array.toList_modify, this, ← h1 v, pS_pS]
  · rw [Array.toList_modify]; exact born_lt (modify_val (K := K) v ents.toList _ j k b' he h4).2 hc
  · rw [Array.toList_modify, (modify_val (K := K) v ents.toList _ j k b' he h4).2]; exact hn
end
section
variable {P : Program} {N : Fr} {B : Nat} {w0 : World} {Q : Exit → Act → World → Prop} {al : AL} {H : HL} {ops rest : List Oper} {d : Nat} {ty : TypeId} {pos : String} {after : Array Edge} {α β : Type} [DecidableEq α] {K : α → Value} {V : β → Value} {z : β}
theorem ol_mapentry {m ky : Operand} {t : TypeId} {b id : Nat} {D : List (α × β)} {k : α} (hm : ev al m = some (.map (some b))) (hk : ev al ky = some (K k)) (hH : look H id = some (.ob b (MapO (pEnc K V D)))) (hT : MapK P t K V z) (hC : N.c b) (hd : Nat.blt d N.n = true)
    (kk : ∀ st : Nat, OL P N B w0 ops rest Q ((d, .tuple #[V ((pO D k).getD z), .int .i64 (st : Int)]) :: al) ((id, .ob b (MapEk K V D k ((pO D k).getD z) st)) :: H)) :
    OL P N B w0 ops ({ dst := some d, op := .mapEntry t m ky, type := ty, pos, after, guard := none } :: rest) Q al H := by
  intro a w hst
  refine wpList_plain rfl fun K' hK' => ?_
  obtain ⟨_, o, hb, ⟨ents, clock, rfl, he, hc, hn⟩, _⟩ := hst.sat.ok _ _ hH
  obtain ⟨o', st, hrun, ho'⟩ := entry_run hT hb he hc hn k
  have hkn : Obj.known o' = true := by obtain ⟨_, _, _, _, rfl, _⟩ := ho'; rfl
  unfold Oper.wp
  simp only [execOp, hst.regs.eval hm, hst.regs.eval hk, Sem.run_bind, hrun, Result.andThen_ok, Sem.run_pure, Oper.upon_value]
  exact hK' _ _ (kk st _ _ (hst.turnO (hst.regs.put (by simpa using hd) _) hH hb ho' hkn hC))
theorem ol_entrystore {m s x : Operand} {t : TypeId} {b id st : Nat} {D : List (α × β)} {k : α} {u v : β} (hm : ev al m = some (.map (some b))) (hs : ev al s = some (.int .i64 (st : Int))) (hx : ev al x = some (V v)) (hH : look H id = some (.ob b (MapEk K V D k u st))) (hC : N.c b)
    (kk : OL P N B w0 ops rest Q al ((id, .ob b (MapO (pEnc K V (pS D k v)))) :: H)) :
    OL P N B w0 ops ({ dst := none, op := .entryStore t m s x, type := ty, pos, after, guard := none } :: rest) Q al H := by
  intro a w hst
  refine wpList_plain rfl fun K' hK' => ?_
  obtain ⟨_, o, hb, ⟨j, hj, ents, clock, rfl, he, hc, hn, hst'⟩, _⟩ := hst.sat.ok _ _ hH
  obtain ⟨o', hrun, ho'⟩ := estore_run (P := P) (t := t) (z := u) hb hj he hc hn hst' v
  unfold Oper.wp
  simp only [execOp, hst.regs.eval hm, hst.regs.eval hs, hst.regs.eval hx, Sem.run_bind, hrun, Result.andThen_ok, Sem.run_pure, Oper.upon_skip]
  exact hK' _ _ (kk _ _ (hst.turnO hst.regs hH hb ho' ho'.known hC))
end
end Go.Proofs.Ytfbmkepogcimlaa.Hx
