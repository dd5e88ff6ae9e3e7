/-
  Curves and their merges: plain part.
-/
import Derived.Sort.EncStr
import Derived.MapKept
import Derived.Maps.RangeRun
import Derived.Shelf.SlIter.Collect
import Derived.Shelf.SlSortCmp.NoneTotal
import Derived.Shelf.Slices.CompactS
import Derived.Shelf.Small.Strs
import Derived.Test.YtafkojlccknicaaXmA



namespace Go.Proofs.Ytafkojlccknicaa
set_option linter.unusedVariables false
set_option linter.unusedSimpArgs false
def bErr (b : BestR) : Int :=
  if b.found = false then (if b.sum = 0 ∧ b.at_ = 0 then 0 else 2)
  else if 0 ≤ b.sum ∧ b.sum ≤ b.size * 1000000000 ∧ 0 ≤ b.at_ ∧ b.at_ ≤ 1000000 - b.size then 0 else 9
def bErrs : List BestR → Int
  | [] => 0
  | b :: r => if bErr b = 0 then bErrs r else bErr b
def szs (c : List BestR) : List Int := c.map (·.size)
def chkC (c : List BestR) : Int := if sizesC (szs c) ≠ 0 then sizesC (szs c) else bErrs c
theorem bErrs_of : ∀ {c : List BestR}, (∀ x ∈ c, bErr x = 0) → bErrs c = 0
  | [], _ => rfl
  | b :: r, h => by rw [bErrs, if_pos (h b (by simp))]; exact bErrs_of fun x hx => h x (List.mem_cons_of_mem _ hx)
theorem bErrs_next {c : List BestR} {k : Nat} {b : BestR} (h : c[k]? = some b) (hb : bErr b = 0) : bErrs (c.drop k) = bErrs (c.drop (k + 1)) := by
  rw [drop_cons_get h, bErrs, if_pos hb]
theorem bErrs_bad {c : List BestR} {k : Nat} {b : BestR} (h : c[k]? = some b) (hb : bErr b ≠ 0) : bErrs (c.drop k) = bErr b := by
  rw [drop_cons_get h, bErrs, if_neg hb]
def RisingB (c : List BestR) : Prop := (szs c).Pairwise (· < ·)
theorem rising_pair {xs : List Int} : Rising xs ↔ xs.Pairwise (· < ·) := by
  rw [List.pairwise_iff_getElem]
  constructor
  · intro h i j hi hj hij
    exact h i j _ _ hij (List.getElem?_eq_getElem hi) (List.getElem?_eq_getElem hj)
  · intro h i j x y hij hx hy
    obtain ⟨hi, rfl⟩ := List.getElem?_eq_some_iff.1 hx
    obtain ⟨hj, rfl⟩ := List.getElem?_eq_some_iff.1 hy
    exact h i j hi hj hij
/-- What a right curve is. -/
structure CurveOk (c : List BestR) : Prop where
  len : 0 < c.length ∧ c.length ≤ 100
  sz : ∀ x ∈ c, 1 ≤ x.size ∧ x.size ≤ 1000000
  up : RisingB c
  ok : ∀ x ∈ c, bErr x = 0
theorem chkG_of : ∀ (xs : List Int) (p : Option Int), (∀ x ∈ xs, 1 ≤ x ∧ x ≤ 1000000) → xs.Pairwise (· < ·) → (∀ y ∈ p, ∀ x ∈ xs, y < x) → chkG (inB · 1 1000000) (fun y x => decide (x ≤ y)) p xs = 0
  | [], p, _, _, _ => rfl
  | x :: r, p, h1, h2, h3 => by
    rw [List.pairwise_cons] at h2
    have hx := h1 x (by simp)
    rw [chkG_cons, if_neg (by rw [show inB x 1 1000000 = true from inB_iff.2 hx]; simp)]
    have ho : ordG (fun y x : Int => decide (x ≤ y)) p x = false := by
      cases p with
      | none => rfl
      | some y => exact decide_eq_false (by have := h3 y rfl x (by simp); omega)
    rw [if_neg (by rw [ho]; simp)]
    exact chkG_of r (some x) (fun y hy => h1 y (List.mem_cons_of_mem _ hy)) h2.2 fun y hy z hz => by cases hy; exact h2.1 z hz
theorem CurveOk.chk {c : List BestR} (h : CurveOk c) : chkC c = 0 := by
  have hl : (szs c).length = c.length := List.length_map _
  have h1 : sizesC (szs c) = 0 := by
    unfold sizesC
    rw [if_neg (by have := h.len; omega), if_neg (by have := h.len; omega)]
    exact chkG_of _ _ (fun x hx => by obtain ⟨y, hy, rfl⟩ := List.mem_map.1 hx; exact h.sz y hy) h.up (fun y hy => by cases hy)
  unfold chkC
  rw [if_neg (fun h => h h1)]
  exact bErrs_of h.ok
/-- Is a worse than b? -/
def lessB (a b : BestR) : Bool := b.found && (!a.found || decide (a.sum < b.sum))
def lkB : List BestR → Int → Option BestR
  | [], _ => none
  | b :: r, s => if b.size = s then some b else lkB r s
def pkO : Option BestR → Option BestR → Option BestR
  | none, y => y
  | some x, none => some x
  | some x, some y => some (if lessB x y = true then y else x)
def noB : BestR := ⟨0, 0, 0, false⟩
def mgR : List BestR → List BestR → List BestR
  | [], b => b
  | x :: a, [] => x :: a
  | x :: a, y :: b => if x.size < y.size then x :: mgR a (y :: b) else if y.size < x.size then y :: mgR (x :: a) b else (if lessB x y = true then y else x) :: mgR a b
termination_by a b => a.length + b.length
/-- The better of two that may be there, or none. -/
def pkV (x y : Option BestR) : BestR := (pkO x y).getD noB
def mgP (a b : List BestR) : List BestR := (ordI (szs a ++ szs b)).map fun s => pkV (lkB a s) (lkB b s)
/-- What Merge returns. -/
def mergeV (a b : List BestR) : List BestR × Int :=
  if chkC a ≠ 0 then ([], chkC a) else if chkC b ≠ 0 then ([], chkC b) else if 100 < (mgR a b).length then ([], 3) else (mgR a b, 0)
/-- What Beats returns. -/
def btsL (a b : List BestR) : List Int := (a.filter fun x => lessB ((lkB b x.size).getD noB) x).map (·.size)
def beatsV (a b : List BestR) : List Int × Int :=
  if chkC a ≠ 0 then ([], chkC a) else if chkC b ≠ 0 then ([], chkC b) else (btsL a b, 0)
end Go.Proofs.Ytafkojlccknicaa

/-
  Activities with other samples. No program stands here.
-/

namespace Go.Proofs.Ytafkojlccknicaa
set_option linter.unusedVariables false
def SmpR.back (by_ : Int) (x : SmpR) : SmpR := ⟨x.at_ - by_, x.x, x.y, x.z, x.pulse, x.power, x.steps⟩
def backS (by_ : Int) (l : List SmpR) : List SmpR := l.map (SmpR.back by_)
def lapAt (by_ span n : Int) : Int := min (max (n - by_) 0) span
def LapR.back (by_ span : Int) (x : LapR) : LapR := ⟨lapAt by_ span x.from_, lapAt by_ span x.to, x.name⟩
def backL (by_ span : Int) (l : List LapR) : List LapR := (l.map (LapR.back by_ span)).filter fun x => decide (x.from_ < x.to)
def partD (a : ActD) (l : List SmpR) (by_ : Int) : ActD := ⟨a.name, a.sport, a.start + by_, backS by_ l, backL by_ (spanL (backS by_ l)) a.ls, a.ts⟩
def noA : ActD := ⟨ByteArray.empty, 0, 0, [], [], []⟩
/-- The part, if it is right. -/
def partR (a : ActD) (l : List SmpR) (by_ : Int) : ActD × Int := if chkA (partD a l by_) ≠ 0 then (noA, chkA (partD a l by_)) else (partD a l by_, 0)
end Go.Proofs.Ytafkojlccknicaa

/-
  Join: plain part.
-/



namespace Go.Proofs.Ytafkojlccknicaa
open Go Hx
set_option linter.unusedVariables false
set_option linter.unusedSimpArgs false
/-! #### names in order -/
def bytesB (b : ByteArray) : List UInt8 := b.data.toList
def ofB (l : List UInt8) : ByteArray := ⟨l.toArray⟩
theorem ofB_bytesB (b : ByteArray) : ofB (bytesB b) = b := by simp [ofB, bytesB]
theorem bytesB_ofB (l : List UInt8) : bytesB (ofB l) = l := by simp [ofB, bytesB]
theorem bytesB_inj {x y : ByteArray} (h : bytesB x = bytesB y) : x = y := by rw [← ofB_bytesB x, h, ofB_bytesB]
theorem less_eq : ∀ (x y : List UInt8), Op.bytesLess x y = decide (x < y)
  | [], [] => by simp [Op.bytesLess]
  | _ :: _, [] => by simp [Op.bytesLess]
  | [], _ :: _ => by simp [Op.bytesLess]
  | a :: x, b :: y => by
    rw [Op.bytesLess, less_eq x y]
    simp only [List.cons_lt_cons_iff]
    by_cases h1 : a < b <;> by_cases h2 : a = b <;> by_cases h3 : x < y <;> simp [h1, h2, h3]
theorem sLt_iff {x y : ByteArray} : sLt x y = true ↔ bytesB x < bytesB y := by
  unfold sLt; rw [less_eq, ByteArray.toList_eq, ByteArray.toList_eq, decide_eq_true_iff]; rfl
theorem sEq_iff {x y : ByteArray} : sEq x y = true ↔ x = y := by
  unfold sEq
  rw [ByteArray.toList_eq, ByteArray.toList_eq, beq_iff_eq]
  exact ⟨fun h => bytesB_inj h, fun h => by rw [h]⟩
def ltB (x y : ByteArray) : Prop := bytesB x < bytesB y
theorem ltB_trans {x y z : ByteArray} (h : ltB x y) (h2 : ltB y z) : ltB x z := List.lt_trans h h2
theorem ltB_tri (x y : ByteArray) (h : ¬ltB x y) (h2 : x ≠ y) : ltB y x := by
  apply Classical.byContradiction
  intro h3
  exact h2 (bytesB_inj (List.le_antisymm (List.not_lt.1 h3) (List.not_lt.1 h)))
/-- The names of both, as the reference does it. -/
def tagR : List ByteArray → List ByteArray → List ByteArray
  | [], b => b
  | x :: a, [] => x :: a
  | x :: a, y :: b => if sLt x y = true then x :: tagR a (y :: b) else if sEq x y = true then y :: tagR a b else y :: tagR (x :: a) b
termination_by a b => a.length + b.length
/-- .. and as the program does it. -/
def ordBA (xs : List ByteArray) : List ByteArray := (Go.Lib.compact ((xs.map bytesB).mergeSort fun x y => decide (x ≤ y))).map ofB
theorem sortB_pair (xs : List (List UInt8)) : (xs.mergeSort fun x y => decide (x ≤ y)).Pairwise (· ≤ ·) := by
  have h := List.pairwise_mergeSort (le := fun x y : List UInt8 => decide (x ≤ y)) (fun a b c h1 h2 => decide_eq_true (List.le_trans (of_decide_eq_true h1) (of_decide_eq_true h2))) (fun a b => by
    rcases List.le_total a b with h | h
    · simp [h]
    · simp [h]) xs
  exact h.imp fun h => of_decide_eq_true h
theorem ordBA_up (xs : List ByteArray) : (ordBA xs).Pairwise ltB := by
  unfold ordBA
  rw [List.pairwise_map]
  refine (compact_strict (le := (· ≤ ·)) (fun a => List.le_refl a) (fun a b h1 h2 => List.le_antisymm h1 h2) (sortB_pair (xs.map bytesB))).imp fun {a b} h => ?_
  show bytesB (ofB a) < bytesB (ofB b)
  rw [bytesB_ofB, bytesB_ofB]
  apply Decidable.byContradiction
  intro h3
  exact h.2 (List.le_antisymm h.1 (List.not_lt.1 h3))
theorem mem_ordBA {xs : List ByteArray} {x : ByteArray} : x ∈ ordBA xs ↔ x ∈ xs := by
  unfold ordBA
  rw [List.mem_map]
  constructor
  · rintro ⟨l, hl, rfl⟩
    rw [mem_compact, List.mem_mergeSort, List.mem_map] at hl
    obtain ⟨y, hy, rfl⟩ := hl
    rw [ofB_bytesB]; exact hy
  · intro h
    exact ⟨bytesB x, by rw [mem_compact, List.mem_mergeSort]; exact List.mem_map_of_mem h, ofB_bytesB x⟩
/-! #### samples and laps -/
def SmpR.fwd (by_ : Int) (x : SmpR) : SmpR := ⟨x.at_ + by_, x.x, x.y, x.z, x.pulse, x.power, x.steps⟩
def LapR.fwd (by_ : Int) (x : LapR) : LapR := ⟨x.from_ + by_, x.to + by_, x.name⟩
def joinK (az bs : List SmpR) (by_ : Int) : Nat → List SmpR
  | 0 => az
  | k + 1 => match bs[k]? with
    | some s => if 0 < k ∨ az.length = 0 ∨ spanL az < s.at_ + by_ then joinK az bs by_ k ++ [s.fwd by_] else joinK az bs by_ k
    | none => joinK az bs by_ k
def fwdL (by_ : Int) (l : List LapR) : List LapR := l.map (LapR.fwd by_)
def joinD (a b : ActD) : ActD := ⟨a.name, a.sport, a.start, joinK a.ss b.ss (b.start - a.start) b.ss.length, a.ls ++ fwdL (b.start - a.start) b.ls, tagR a.ts b.ts⟩
/-- What Join returns. -/
def joinR (a b : ActD) : ActD × Int :=
  if chkA a ≠ 0 then (noA, chkA a) else if chkA b ≠ 0 then (noA, chkA b)
  else if a.sport ≠ b.sport then (noA, 7) else if b.start - a.start < spanL a.ss then (noA, 11)
  else if 20000 < (joinD a b).ss.length ∨ 200 < (joinD a b).ls.length ∨ 20 < (joinD a b).ts.length then (noA, 3)
  else if chkA (joinD a b) ≠ 0 then (noA, chkA (joinD a b)) else (joinD a b, 0)
section
variable {a b : ActD}
end
end Go.Proofs.Ytafkojlccknicaa

/-
  Regions that draw their order, whose head only reads (calls too) and whose tail writes; pointers that are not nil.
-/

namespace Go.Proofs.Ytafkojlccknicaa.Hx
open Go Go.RowKit
set_option linter.unusedVariables false
set_option linter.unusedSimpArgs false
set_option linter.unusedSectionVars false
section
variable {P : Program} {ops : Array Oper} {md : Region.Mode} {C : World → Prop}
def wpAnyM (P : Program) (md : Region.Mode) (ops : Array Oper) (C : World → Prop) (n : Nat) (L : Array Bool → Act → Prop) : Nat → Array Bool → Act → Prop
  | 0, listed, a => L listed a
  | f + 1, listed, a =>
    Region.ready md ops listed ≠ [] ∧ ∀ i ∈ Region.ready md ops listed, i < n ∧ qOp P ops C i (wpAnyM P md ops C n L f (listed.setIfInBounds i true)) a
end
section
variable {P : Program} {N : Fr} {B : Nat} {w0 : World} {Q : Exit → Act → World → Prop} {al : AL} {H : HL}
theorem r_nilS {x : Operand} {ty : TypeId} {p : Option Addr} (hx : ev al x = some (.pointer p)) (hp : p.isSome = true) : Runs P N B w0 (.nilCheck x) ty al H (.pointer p) := fun a w hst => by
  cases p with
  | none => cases hp
  | some q => simp [execOp, hst.regs.eval hx]
end
end Go.Proofs.Ytafkojlccknicaa.Hx

/-
  More rules: maps with keys of any kind; their iterators.
-/



namespace Go.Proofs.Ytafkojlccknicaa.Hx
open Go Go.RowKit Go.MapKept
set_option linter.unusedVariables false
set_option linter.unusedSimpArgs false
set_option linter.unusedSectionVars false
section
variable {α β : Type} [DecidableEq α]
/-- The place of a key. -/
def kIdx : List α → α → Option Nat
  | [], _ => none
  | a :: r, k => if a = k then some 0 else (kIdx r k).map (· + 1)
theorem kIdx_none {k : α} : ∀ {l : List α}, kIdx l k = none ↔ k ∉ l
  | [] => by simp [kIdx]
  | a :: r => by
    rw [kIdx]
    by_cases h : a = k
    · rw [if_pos h]; simp [h]
    · rw [if_neg h, Option.map_eq_none_iff, kIdx_none (l := r)]; simp [Ne.symm h]
/-- What a map has for a key; put; taken away. -/
def pO : List (α × β) → α → Option β
  | [], _ => none
  | (a, b) :: r, k => if a = k then some b else pO r k
def pS : List (α × β) → α → β → List (α × β)
  | [], k, v => [(k, v)]
  | (a, b) :: r, k, v => if a = k then (a, v) :: r else (a, b) :: pS r k v
def pD : List (α × β) → α → List (α × β)
  | [], _ => []
  | (a, b) :: r, k => if a = k then r else (a, b) :: pD r k
def pKeys (D : List (α × β)) : List α := D.map (·.1)
theorem pO_none {k : α} : ∀ {D : List (α × β)}, pO D k = none ↔ k ∉ pKeys D
  | [] => by simp [pO, pKeys]
  | (a, b) :: r => by
    rw [pO]
    by_cases h : a = k
    · rw [if_pos h]; simp [pKeys, h]
    · rw [if_neg h, pO_none (D := r)]; simp [pKeys, Ne.symm h]
theorem pO_mem {k : α} {v : β} : ∀ {D : List (α × β)}, pO D k = some v → (k, v) ∈ D
  | [], h => by simp [pO] at h
  | (a, b) :: r, h => by
    rw [pO] at h
    by_cases ha : a = k
    · rw [if_pos ha] at h; cases h; subst ha; exact List.mem_cons_self ..
    · rw [if_neg ha] at h; exact List.mem_cons_of_mem _ (pO_mem h)
theorem pO_pS (v : β) (k j : α) : ∀ D : List (α × β), pO (pS D k v) j = if k = j then some v else pO D j
  | [] => by simp [pS, pO]
  | (a, b) :: r => by
    rw [pS]
    by_cases h : a = k
    · subst h; rw [if_pos rfl, pO, pO]
      by_cases h2 : a = j
      · rw [if_pos h2, if_pos h2]
      · rw [if_neg h2, if_neg h2, if_neg h2]
    · rw [if_neg h, pO, pO, pO_pS v k j r]
      by_cases h2 : a = j
      · subst h2; rw [if_pos rfl, if_neg (fun e => h e.symm), if_pos rfl]
      · rw [if_neg h2, if_neg h2]
theorem pKeys_pS (k : α) (v : β) : ∀ D : List (α × β), pKeys (pS D k v) = if k ∈ pKeys D then pKeys D else pKeys D ++ [k]
  | [] => by simp [pS, pKeys]
  | (a, b) :: r => by
    rw [pS]
    by_cases h : a = k
    · rw [if_pos h]; simp [pKeys, h]
    · have ih := pKeys_pS k v r
      rw [if_neg h]
      show a :: pKeys (pS r k v) = if k ∈ a :: pKeys r then a :: pKeys r else a :: pKeys r ++ [k]
      rw [ih]
      by_cases h2 : k ∈ pKeys r
      · rw [if_pos h2, if_pos (List.mem_cons_of_mem _ h2)]
      · rw [if_neg h2, if_neg (by simp [h2, Ne.symm h])]; rfl
theorem nodup_pS {D : List (α × β)} {k : α} {v : β} (h : (pKeys D).Nodup) : (pKeys (pS D k v)).Nodup := by
  rw [pKeys_pS]
  split
  · exact h
  · rename_i hk
    exact List.nodup_append.2 ⟨h, by simp, fun a ha b hb => by simp at hb; subst hb; intro e; subst e; exact hk ha⟩
theorem pD_sub (k : α) : ∀ D : List (α × β), (pD D k).Sublist D
  | [] => List.Sublist.refl _
  | (a, b) :: r => by
    rw [pD]
    by_cases h : a = k
    · rw [if_pos h]; exact List.sublist_cons_self _ _
    · rw [if_neg h]; exact (pD_sub k r).cons_cons _
theorem nodup_pD {D : List (α × β)} {k : α} (h : (pKeys D).Nodup) : (pKeys (pD D k)).Nodup := h.sublist ((pD_sub k D).map _)
theorem pO_pD (k j : α) : ∀ {D : List (α × β)}, (pKeys D).Nodup → pO (pD D k) j = if k = j then none else pO D j
  | [], _ => by simp [pD, pO]
  | (a, b) :: r, hn => by
    have hn' := List.nodup_cons.1 (show (a :: pKeys r).Nodup from hn)
    rw [pD]
    by_cases h : a = k
    · subst h; rw [if_pos rfl]
      by_cases h2 : a = j
      · subst h2; rw [if_pos rfl]; exact pO_none.2 hn'.1
      · rw [if_neg h2, pO, if_neg h2]
    · rw [if_neg h, pO, pO, pO_pD k j hn'.2]
      by_cases h2 : a = j
      · subst h2; rw [if_pos rfl, if_neg (fun e => h e.symm), if_pos rfl]
      · rw [if_neg h2, if_neg h2]
theorem pS_none {k : α} : ∀ {D : List (α × β)}, kIdx (pKeys D) k = none → (∀ v, pS D k v = D ++ [(k, v)]) ∧ pD D k = D ∧ pO D k = none
  | [], _ => by simp [pS, pD, pO]
  | (a, b) :: r, h => by
    rw [pKeys, List.map_cons, kIdx] at h
    by_cases ha : a = k
    · rw [if_pos ha] at h; cases h
    · rw [if_neg ha, Option.map_eq_none_iff] at h
      obtain ⟨h1, h2, h3⟩ := pS_none (D := r) h
      refine ⟨fun v => by rw [pS, if_neg ha, h1 v]; rfl, by rw [pD, if_neg ha, h2], by rw [pO, if_neg ha, h3]⟩
theorem pS_some {k : α} : ∀ {D : List (α × β)} {j : Nat}, kIdx (pKeys D) k = some j → (∀ v, pS D k v = D.set j (k, v)) ∧ pD D k = D.eraseIdx j ∧ ∃ b, pO D k = some b ∧ D[j]? = some (k, b)
  | [], j, h => by simp [pKeys, kIdx] at h
  | (a, b) :: r, j, h => by
    rw [pKeys, List.map_cons, kIdx] at h
    by_cases ha : a = k
    · rw [if_pos ha] at h; cases h
      subst ha
      refine ⟨fun v => by rw [pS, if_pos rfl]; rfl, by rw [pD, if_pos rfl]; rfl, b, by rw [pO, if_pos rfl], by simp⟩
    · rw [if_neg ha] at h
      obtain ⟨i, hi, rfl⟩ := Option.map_eq_some_iff.1 h
      obtain ⟨h1, h2, b', h3, h4⟩ := pS_some (D := r) hi
      refine ⟨fun v => by rw [pS, if_neg ha, h1 v]; rfl, by rw [pD, if_neg ha, h2]; rfl, b', by rw [pO, if_neg ha, h3], by simpa using h4⟩
def pEnc (K : α → Value) (V : β → Value) (D : List (α × β)) : List (Value × Value) := D.map fun e => (K e.1, V e.2)
end
/-- Keys of a type. -/
structure KeyT (P : Program) (kt : TypeId) {α : Type} [DecidableEq α] (K : α → Value) : Prop where
  chk : ∀ e a w, (Instr.checkKey e 10000 kt (K a)).run P w = .ok () w
  bits : ∀ a, Instr.sameBits 10000 (K a) (K a) = true
  find : ∀ (k : α) (l : List MapEntry) (ks : List α) w, l.map (·.key) = ks.map K → (Instr.findKey kt (K k) l).run P w = .ok ((kIdx ks k).bind fun j => l[j]?.map fun e => (j, e.val)) w
/-- Keys that are compared by what they are made of. -/
theorem KeyT.agg {P : Program} {kt : TypeId} {α : Type} [DecidableEq α] {K : α → Value} {d : TypeDesc} (hk : P.underlying kt = some d) (hnow : ∀ a b, Instr.sameNow d (K a) (K b) = none) (chk : ∀ e a w, (Instr.checkKey e 10000 kt (K a)).run P w = .ok () w) (bits : ∀ a, Instr.sameBits 10000 (K a) (K a) = true)
    (heq : ∀ a b w, (Op.equal kt (K a) (K b)).run P w = .ok (decide (a = b)) w) : KeyT P kt K := by
  refine ⟨chk, bits, fun k l ks w hl => ?_⟩
  have ask : ∀ (l : List MapEntry) (ks : List α) (i : Nat), l.map (·.key) = ks.map K → (Instr.findAsking kt (K k) l i).run P w = .ok ((kIdx ks k).bind fun j => l[j]?.map fun e => (i + j, e.val)) w := by
    intro l
    induction l with
    | nil =>
      intro ks i h
      cases ks with
      | nil => rfl
      | cons a r => simp at h
    | cons e l ih =>
      intro ks i h
      cases ks with
      | nil => simp at h
      | cons a r =>
        rw [List.map_cons, List.map_cons, List.cons.injEq] at h
        have hh := heq k a w
        simp only [Instr.findAsking, Sem.run_bind, h.1, hh, Result.andThen_ok]
        rw [kIdx]
        by_cases ha : a = k
        · subst ha; simp
        · rw [if_neg ha]
          have : decide (k = a) = false := decide_eq_false (Ne.symm ha)
          rw [this]
          simp only [Bool.false_eq_true, if_false]
          rw [ih r (i + 1) h.2]
          cases kIdx r k with
          | none => rfl
          | some j => simp [Nat.add_assoc, Nat.add_comm 1 j]
  cases l with
  | nil =>
    have : ks = [] := by cases ks with
      | nil => rfl
      | cons a r => simp at hl
    subst this
    simp [Instr.findKey, run_underlying hk, Result.andThen, Instr.findNow, kIdx]
  | cons e l =>
    cases ks with
    | nil => simp at hl
    | cons a r =>
      have h1 : e.key = K a := by simp at hl; exact hl.1
      have h2 : Instr.findNow d (K k) (e :: l) 0 = none := by rw [Instr.findNow, h1, hnow]
      have h3 := ask (e :: l) (a :: r) 0 hl
      simp only [Nat.zero_add] at h3
      simp only [Instr.findKey, Sem.run_bind, run_underlying hk, Result.andThen_ok, h2]
      exact h3
/-- Keys of a basic type. -/
theorem KeyT.basic {P : Program} {kt : TypeId} {α : Type} [DecidableEq α] {K : α → Value} {d : TypeDesc} (hk : P.underlying kt = some d) (hkey : ∀ a, IsKey d (K a)) (hinj : ∀ a b, K a = K b → a = b) : KeyT P kt K := by
  refine ⟨fun e a w => run_checkKey hk (hkey a) e 9999, fun a => sameBits_self (hkey a) _, fun k l ks w hl => ?_⟩
  have now : ∀ (l : List MapEntry) (ks : List α) (i : Nat), l.map (·.key) = ks.map K → Instr.findNow d (K k) l i = some ((kIdx ks k).bind fun j => l[j]?.map fun e => (i + j, e.val)) := by
    intro l
    induction l with
    | nil =>
      intro ks i h
      cases ks with
      | nil => rfl
      | cons a r => simp at h
    | cons e l ih =>
      intro ks i h
      cases ks with
      | nil => simp at h
      | cons a r =>
        rw [List.map_cons, List.map_cons, List.cons.injEq] at h
        obtain ⟨q, hq, hiff⟩ := sameNow_of_keys (hkey k) (hkey a)
        rw [Instr.findNow, h.1, hq, kIdx]
        cases q with
        | true =>
          have : a = k := hinj _ _ (hiff.1 rfl).symm
          rw [if_pos this]; simp
        | false =>
          have : a ≠ k := fun he => by subst he; have := hiff.2 rfl; cases this
          rw [if_neg this]
          show Instr.findNow d (K k) l (i + 1) = _
          rw [ih r (i + 1) h.2]
          cases kIdx r k with
          | none => rfl
          | some j => simp [Nat.add_assoc, Nat.add_comm 1 j]
  have h3 := now l ks 0 hl
  simp only [Nat.zero_add] at h3
  exact run_findKey hk h3
/-- A map's type. -/
structure MapK (P : Program) (t : TypeId) {α β : Type} [DecidableEq α] (K : α → Value) (V : β → Value) (z : β) : Prop where
  ty : ∃ kt et, P.underlying t = some (.map kt et) ∧ KeyT P kt K ∧ ∀ w, (zeroValue et).run P w = .ok (V z) w
/-- A map's object, by its entries. -/
def MapO (es : List (Value × Value)) (o : Obj) : Prop := ∃ ents clock, o = .map ents clock ∧ ents.toList.map (fun e => (e.key, e.val)) = es ∧ (∀ x ∈ ents.toList, x.born < clock) ∧ (ents.toList.map (·.born)).Nodup
/-- The same, while it is gone through: the entries' numbers too. -/
def MapB (es : List (Value × Value)) (bs : List Nat) (clock : Nat) (o : Obj) : Prop := ∃ ents, o = .map ents clock ∧ ents.toList.map (fun e => (e.key, e.val)) = es ∧ ents.toList.map (·.born) = bs
/-- The same, with the number of the entry at a place. -/
def MapE (es : List (Value × Value)) (j : Nat) (st : Nat) (o : Obj) : Prop := ∃ ents clock, o = .map ents clock ∧ ents.toList.map (fun e => (e.key, e.val)) = es ∧ (∀ x ∈ ents.toList, x.born < clock) ∧ (ents.toList.map (·.born)).Nodup ∧ (ents.toList.map (·.born))[j]? = some st
/-- An iterator that has gone to these places. -/
def IterO (b : Nat) (bs : List Nat) (clock : Nat) (js : List Nat) (o : Obj) : Prop := ∃ seen, o = .mapIter (some b) clock seen clock ∧ (seen.toList = js.map fun j => bs.getD j 0) ∧ ∀ j ∈ js, j < bs.length
theorem MapO.known {es : List (Value × Value)} {o : Obj} (h : MapO es o) : Obj.known o = true := by obtain ⟨_, _, rfl, _⟩ := h; rfl
/-- An object that was there before. -/
def Ob (C : Nat) (w : World) (b : Nat) (f : Obj → Prop) : Prop := b < C ∧ ∃ o, w.heap[b]? = some o ∧ f o
theorem Ob.below {C b : Nat} {w w' : World} {f : Obj → Prop} (h : Ob C w b f) (hb : Below C w w') : Ob C w' b f := by
  obtain ⟨h1, o, h2, h3⟩ := h
  exact ⟨h1, o, by rw [hb.block b h1]; exact h2, h3⟩
theorem Ob.at {B b : Nat} {w0 w : World} {f : Obj → Prop} (h : Ob B w0 b f) (hb : Below B w0 w) (hB : B ≤ w.heap.size) : Ob w.heap.size w b f :=
  ⟨by have := h.1; omega, (h.below hb).2⟩
theorem Sat.ob {B id b : Nat} {w : World} {H : HL} {f : Obj → Prop} (h : Sat B w H) (hH : look H id = some (.ob b f)) : Ob w.heap.size w b f := by
  obtain ⟨_, o, h1, h2, _⟩ := h.ok _ _ hH
  exact ⟨(Array.getElem?_eq_some_iff.1 h1).1, o, h1, h2⟩
section
variable {α β : Type} {K : α → Value} {V : β → Value}
theorem ents_keys {l : List MapEntry} {D : List (α × β)} (h : l.map (fun e => (e.key, e.val)) = pEnc K V D) : l.map (·.key) = (pKeys D).map K := by
  have := congrArg (List.map Prod.fst) h
  unfold pEnc pKeys at *
  simpa [List.map_map, Function.comp_def] using this
theorem ents_at {l : List MapEntry} {D : List (α × β)} (h : l.map (fun e => (e.key, e.val)) = pEnc K V D) {j : Nat} {k : α} {b : β} (hj : D[j]? = some (k, b)) : ∃ e, l[j]? = some e ∧ e.key = K k ∧ e.val = V b := by
  have h1 : (l.map (fun e => (e.key, e.val)))[j]? = some (K k, V b) := by rw [h, pEnc, List.getElem?_map, hj]; rfl
  rw [List.getElem?_map] at h1
  obtain ⟨e, he, h2⟩ := Option.map_eq_some_iff.1 h1
  rw [Prod.mk.injEq] at h2
  exact ⟨e, he, h2.1, h2.2⟩
theorem ents_len {l : List MapEntry} {D : List (α × β)} (h : l.map (fun e => (e.key, e.val)) = pEnc K V D) : l.length = D.length := by
  have := congrArg List.length h
  simpa [pEnc] using this
end
section
variable {α β : Type} [DecidableEq α] {K : α → Value} {V : β → Value}
/-- What a look-up finds. -/
theorem found {P : Program} {kt : TypeId} (hK : KeyT P kt K) {l : List MapEntry} {D : List (α × β)} (h : l.map (fun e => (e.key, e.val)) = pEnc K V D) (k : α) (w : World) :
    (Instr.findKey kt (K k) l).run P w = .ok ((kIdx (pKeys D) k).bind fun j => (pO D k).map fun b => (j, V b)) w := by
  rw [hK.find k l (pKeys D) w (ents_keys h)]
  cases hj : kIdx (pKeys D) k with
  | none => rfl
  | some j =>
    obtain ⟨_, _, b, h3, h4⟩ := pS_some hj
    obtain ⟨e, he, _, hv⟩ := ents_at h h4
    simp [he, hv, h3]
theorem look_run {P : Program} {t : TypeId} {z : β} (hT : MapK P t K V z) {b clock : Nat} {ents : Array MapEntry} {D : List (α × β)} {w : World} (hb : w.heap[b]? = some (.map ents clock)) (he : ents.toList.map (fun e => (e.key, e.val)) = pEnc K V D) (k : α) (c : Bool) :
    (Instr.lookup t (.map (some b)) (K k) c).run P w = .ok (if c then .tuple #[V ((pO D k).getD z), .bool (pO D k).isSome] else V ((pO D k).getD z)) w := by
  obtain ⟨kt, et, hm, hK, hz⟩ := hT
  have hf := found (P := P) hK he k w
  simp only [Instr.lookup, Sem.run_bind, run_underlying hm, Result.andThen_ok, MapKept.run_getObj_map hb, Sem.run_pure, hK.chk, hf]
  cases hj : kIdx (pKeys D) k with
  | none =>
    have := (pS_none hj).2.2
    simp [hz w, this, Sem.run_pure]
  | some j =>
    obtain ⟨_, _, v, h3, _⟩ := pS_some hj
    simp [h3, Sem.run_pure]
/-- What a write makes of the entries. -/
theorem set_run {P : Program} {t : TypeId} {z : β} (hT : MapK P t K V z) {b clock : Nat} {ents : Array MapEntry} {D : List (α × β)} {w : World} (hb : w.heap[b]? = some (.map ents clock)) (he : ents.toList.map (fun e => (e.key, e.val)) = pEnc K V D) (hc : ∀ x ∈ ents.toList, x.born < clock) (hn : (ents.toList.map (·.born)).Nodup) (k : α) (v : β) :
    ∃ o, (Instr.mapUpdate t (.map (some b)) (K k) (V v)).run P w = .ok () { w with heap := w.heap.setIfInBounds b o } ∧ MapO (pEnc K V (pS D k v)) o := by
  obtain ⟨kt, et, hm, hK, hz⟩ := hT
  have hf := found (P := P) hK he k w
  simp only [Instr.mapUpdate, Sem.run_bind, run_underlying hm, Result.andThen_ok, MapKept.run_getObj_map hb, hK.chk, hf]
  cases hj : kIdx (pKeys D) k with
  | none =>
    obtain ⟨h1, _, h3⟩ := pS_none hj
    refine ⟨_, run_setObj_map _ hb, _, _, rfl, ?_, ?_, ?_⟩
    · rw [h1 v]; simp [pEnc] at he ⊢; exact he
    · intro x hx
      simp at hx
      rcases hx with hx | rfl
      · have := hc x (by simpa using hx); omega
      · exact Nat.lt_succ_self _
    · simp only [Array.toList_push, List.map_append, List.map_cons, List.map_nil]
      refine List.nodup_append.2 ⟨hn, by simp, fun x hx y hy => ?_⟩
      simp at hy; subst hy
      obtain ⟨e, he', rfl⟩ := List.mem_map.1 hx
      have := hc e he'; omega
  | some j =>
    obtain ⟨h1, _, b', h3, h4⟩ := pS_some hj
    obtain ⟨e, he1, he2, he3⟩ := ents_at he h4
    rw [Array.getElem?_toList] at he1
    simp only [h3, Option.map_some, Option.bind_some, he1, Option.getD_some, he2]
    have hkb : (Instr.keyThatStays (K k) (K k)).run P w = .ok (K k) w := by simp [Instr.keyThatStays, hK.bits k]
    simp only [Sem.run_bind, hkb, Result.andThen_ok]
    have hmap : ∀ (l : List MapEntry) (D : List (α × β)) (j : Nat), l.map (fun e => (e.key, e.val)) = pEnc K V D → (l.modify j fun e => { key := K k, val := V v, born := e.born }).map (fun e => (e.key, e.val)) = pEnc K V (D.set j (k, v)) ∧ (l.modify j fun e => { key := K k, val := V v, born := e.born }).map (·.born) = l.map (·.born) := by
      intro l
      induction l with
      | nil => intro D j h; cases D with
        | nil => simp [pEnc]
        | cons d D => simp [pEnc] at h
      | cons e l ih =>
        intro D j h
        cases D with
        | nil => simp [pEnc] at h
        | cons d D =>
          simp only [pEnc, List.map_cons, List.cons.injEq] at h
          cases j with
          | zero => simp [pEnc]; exact h.2
          | succ j =>
            have := ih D j h.2
            simp only [pEnc] at this
            simp only [List.modify_succ_cons, List.map_cons, List.set_cons_succ, pEnc, this.1, this.2, h.1]
            refine ⟨?_, ?_⟩ <;> first | trivial | rfl
    have hm2 := hmap ents.toList D j he
    refine ⟨_, run_setObj_map _ hb, _, _, rfl, ?_, ?_, ?_⟩
    · rw [h1 v, Array.toList_modify]; exact hm2.1
    · intro x hx
      have hx2 : x.born ∈ (ents.modify j fun e => { key := K k, val := V v, born := e.born }).toList.map (·.born) := List.mem_map_of_mem hx
      rw [Array.toList_modify, hm2.2] at hx2
      obtain ⟨y, hy, e⟩ := List.mem_map.1 hx2
      rw [← e]; exact hc y hy
    · rw [Array.toList_modify, hm2.2]; exact hn
theorem del_run {P : Program} {t tk : TypeId} {z : β} (hT : MapK P t K V z) {b clock : Nat} {ents : Array MapEntry} {D : List (α × β)} {w : World} (hb : w.heap[b]? = some (.map ents clock)) (he : ents.toList.map (fun e => (e.key, e.val)) = pEnc K V D) (hc : ∀ x ∈ ents.toList, x.born < clock) (hn : (ents.toList.map (·.born)).Nodup) (k : α) (ty : TypeId) :
    ∃ o, (Builtin.delete_ #[t, tk] ty #[.map (some b), K k]).run P w = .ok (.tuple #[]) { w with heap := w.heap.setIfInBounds b o } ∧ MapO (pEnc K V (pD D k)) o := by
  obtain ⟨kt, et, hm, hK, hz⟩ := hT
  have hf := found (P := P) hK he k w
  have hst : ∀ o : Obj, (setObj b o).run P w = .ok () { w with heap := w.heap.setIfInBounds b o } := fun o => run_setObj_map _ hb
  cases hj : kIdx (pKeys D) k with
  | none =>
    obtain ⟨_, h2, h3⟩ := pS_none hj
    rw [hj] at hf
    refine ⟨.map ents clock, ?_, ents, clock, rfl, by rw [h2]; exact he, hc, hn⟩
    simp [Builtin.delete_, run_underlying hm, MapKept.run_getObj_map hb, hK.chk, hf, hst, Result.andThen]
  | some j =>
    obtain ⟨_, h2, b', h3, h4⟩ := pS_some hj
    rw [hj, h3] at hf
    have hlt : j < ents.size := by
      have h5 := ents_len he
      have h6 := (List.getElem?_eq_some_iff.1 h4).1
      rw [Array.length_toList] at h5; omega
    refine ⟨.map (ents.eraseIdxIfInBounds j) clock, ?_, ents.eraseIdxIfInBounds j, clock, rfl, ?_, ?_, ?_⟩
    · simp [Builtin.delete_, run_underlying hm, MapKept.run_getObj_map hb, hK.chk, hf, hst, Result.andThen]
    · have : (ents.eraseIdxIfInBounds j).toList = ents.toList.eraseIdx j := by unfold Array.eraseIdxIfInBounds; rw [dif_pos hlt, Array.toList_eraseIdx]
      rw [this, ChangeMaps.map_eraseIdx, he, h2]
      unfold pEnc
      rw [ChangeMaps.map_eraseIdx]
    · have : (ents.eraseIdxIfInBounds j).toList = ents.toList.eraseIdx j := by unfold Array.eraseIdxIfInBounds; rw [dif_pos hlt, Array.toList_eraseIdx]
      rw [this]
      exact fun x hx => hc x ((List.eraseIdx_sublist _ _).subset hx)
    · have : (ents.eraseIdxIfInBounds j).toList = ents.toList.eraseIdx j := by unfold Array.eraseIdxIfInBounds; rw [dif_pos hlt, Array.toList_eraseIdx]
      rw [this]
      exact hn.sublist ((List.eraseIdx_sublist _ _).map _)
end
section
variable {P : Program} {N : Fr} {B : Nat} {w0 : World} {Q : Exit → Act → World → Prop} {al : AL} {H : HL} {ops rest : List Oper} {d : Nat} {ty : TypeId} {pos : String} {after : Array Edge}
variable {α β : Type} [DecidableEq α] {K : α → Value} {V : β → Value} {z : β}
theorem r_look {x ix : Operand} {t : TypeId} {b id : Nat} {D : List (α × β)} {k : α} {c : Bool} (hx : ev al x = some (.map (some b))) (hi : ev al ix = some (K k)) (hH : look H id = some (.ob b (MapO (pEnc K V D)))) (hT : MapK P t K V z) :
    Runs P N B w0 (.lookup t x ix c) ty al H (if c then .tuple #[V ((pO D k).getD z), .bool (pO D k).isSome] else V ((pO D k).getD z)) := fun a w hst => by
  obtain ⟨_, o, hb, ⟨ents, clock, rfl, he, _⟩, _⟩ := hst.sat.ok _ _ hH
  simp only [execOp, hst.regs.eval hx, hst.regs.eval hi, Sem.run_bind, look_run hT hb he k c, Result.andThen_ok, Sem.run_pure]
theorem r_lookR {x ix : Operand} {t : TypeId} {b : Nat} {D : List (α × β)} {k : α} {c : Bool} (hl : Ob B w0 b (MapO (pEnc K V D))) (hx : ev al x = some (.map (some b))) (hi : ev al ix = some (K k)) (hT : MapK P t K V z) :
    Runs P N B w0 (.lookup t x ix c) ty al H (if c then .tuple #[V ((pO D k).getD z), .bool (pO D k).isSome] else V ((pO D k).getD z)) := fun a w hst => by
  obtain ⟨_, o, hb, ⟨ents, clock, rfl, he, _⟩⟩ := hl.below hst.below
  simp only [execOp, hst.regs.eval hx, hst.regs.eval hi, Sem.run_bind, look_run hT hb he k c, Result.andThen_ok, Sem.run_pure]
theorem r_look1 {x ix : Operand} {t : TypeId} {b id : Nat} {D : List (α × β)} {k : α} (hx : ev al x = some (.map (some b))) (hi : ev al ix = some (K k)) (hH : look H id = some (.ob b (MapO (pEnc K V D)))) (hT : MapK P t K V z) : Runs P N B w0 (.lookup t x ix false) ty al H (V ((pO D k).getD z)) := r_look (c := false) hx hi hH hT
theorem r_look2 {x ix : Operand} {t : TypeId} {b id : Nat} {D : List (α × β)} {k : α} (hx : ev al x = some (.map (some b))) (hi : ev al ix = some (K k)) (hH : look H id = some (.ob b (MapO (pEnc K V D)))) (hT : MapK P t K V z) : Runs P N B w0 (.lookup t x ix true) ty al H (.tuple #[V ((pO D k).getD z), .bool (pO D k).isSome]) := r_look (c := true) hx hi hH hT
theorem r_lookR1 {x ix : Operand} {t : TypeId} {b : Nat} {D : List (α × β)} {k : α} (hl : Ob B w0 b (MapO (pEnc K V D))) (hx : ev al x = some (.map (some b))) (hi : ev al ix = some (K k)) (hT : MapK P t K V z) : Runs P N B w0 (.lookup t x ix false) ty al H (V ((pO D k).getD z)) := r_lookR (c := false) hl hx hi hT
theorem r_lookR2 {x ix : Operand} {t : TypeId} {b : Nat} {D : List (α × β)} {k : α} (hl : Ob B w0 b (MapO (pEnc K V D))) (hx : ev al x = some (.map (some b))) (hi : ev al ix = some (K k)) (hT : MapK P t K V z) : Runs P N B w0 (.lookup t x ix true) ty al H (.tuple #[V ((pO D k).getD z), .bool (pO D k).isSome]) := r_lookR (c := true) hl hx hi hT
theorem r_mlen {x : Operand} {t : TypeId} {b id : Nat} {D : List (α × β)} (hx : ev al x = some (.map (some b))) (hH : look H id = some (.ob b (MapO (pEnc K V D)))) (hT : MapK P t K V z) :
    Runs P N B w0 (.call { callee := .builtin .len, args := #[x], argTypes := #[t] }) ty al H (.int .i64 (D.length : Int)) := fun a w hst => by
  obtain ⟨_, o, hb, ⟨ents, clock, rfl, he, _⟩, _⟩ := hst.sat.ok _ _ hH
  obtain ⟨kt, et, hm, _, _⟩ := hT
  have hl := ents_len he
  rw [Array.length_toList] at hl
  simp [BigFrame.execOp_builtin, BigFrame.builtin_len, hst.regs.eval hx, Builtin.len_, run_underlying hm, MapKept.run_getObj_map hb, Result.andThen, goInt, hl]
theorem ol_mkmapO {t : TypeId} (id : Nat) (hd : Nat.blt d N.n = true) (k : ∀ b, OL P N B w0 ops rest Q ((d, .map (some b)) :: al) ((id, .ob b (MapO [])) :: H)) :
    OL P N B w0 ops ({ dst := some d, op := .makeMap t none, type := ty, pos, after, guard := none } :: rest) Q al H := by
  intro a w hst
  refine wpList_plain rfl fun K hK => ?_
  unfold Oper.wp
  simp only [execOp, Option.map_none, Instr.makeMap, Sem.run_bind, Sem.run_pure, Result.andThen_ok, run_newObj, Oper.upon_value]
  have hal : ({ w with heap := w.heap.push (.map #[] 0) } : World) = w.alloc (.map #[] 0) := rfl
  rw [hal]
  refine hK _ _ (k w.heap.size _ _ (hst.step (hst.regs.put (by simpa using hd) _) (hst.below.alloc hst.base _) ?_ (by have := hst.base; simp; omega) (Kd.alloc w _)))
  exact hst.sat.new id (e := .ob w.heap.size (MapO [])) ⟨hst.base, _, (heap_alloc w _).1, ⟨#[], 0, rfl, rfl, by simp, by simp⟩, rfl⟩ (fun k hk => (heap_alloc w _).2 k hk) (fun b hb => by simp only [Ent.own, Option.some.injEq] at hb; omega)
/-- A state whose one object was turned. -/
theorem ol_mkmapE {α β : Type} (K : α → Value) (V : β → Value) {t : TypeId} (id : Nat) (hd : Nat.blt d N.n = true) (k : ∀ b, OL P N B w0 ops rest Q ((d, .map (some b)) :: al) ((id, .ob b (MapO (pEnc K V []))) :: H)) :
    OL P N B w0 ops ({ dst := some d, op := .makeMap t none, type := ty, pos, after, guard := none } :: rest) Q al H := ol_mkmapO id hd k
theorem St.turnO {a a' : Act} {al' : AL} {w : World} {b id : Nat} {f g : Obj → Prop} {o o' : Obj} (hst : St N B w0 al H a w) (hr : Regs N al' a') (hH : look H id = some (.ob b f)) (ho : w.heap[b]? = some o) (hg : g o') (hk : Obj.known o' = true) (hC : N.c b) :
    St N B w0 al' ((id, .ob b g) :: H) a' { w with heap := w.heap.setIfInBounds b o' } := by
  obtain ⟨hB, o1, h1, _, hk1⟩ := hst.sat.ok _ _ hH
  rw [ho] at h1; cases h1
  have hlt := (Array.getElem?_eq_some_iff.1 ho).1
  refine hst.step hr (Below.setBlk hst.below hB _) ?_ (by simpa using hst.base) (Kd.one b (fun k _ hk => setBlk_other w b k _ hk) (fun o ho' => .inr ⟨hC, by rw [ho] at ho'; cases ho'; exact hk1⟩))
  exact hst.sat.turn hH (e' := .ob b g) ⟨hB, o', by simp [hlt], hg, hk⟩ (fun k _ hk => setBlk_other w b k _ (fun e => hk (by simp [Ent.own, e]))) (fun b' hb' => .inl hb')
theorem ol_mapset {m ky x : Operand} {t : TypeId} {b id : Nat} {D : List (α × β)} {k : α} {v : β} (hm : ev al m = some (.map (some b))) (hk : ev al ky = some (K k)) (hx : ev al x = some (V v)) (hH : look H id = some (.ob b (MapO (pEnc K V D)))) (hT : MapK P t K V z) (hC : N.c b)
    (kk : OL P N B w0 ops rest Q al ((id, .ob b (MapO (pEnc K V (pS D k v)))) :: H)) :
    OL P N B w0 ops ({ dst := none, op := .mapUpdate t m ky x, type := ty, pos, after, guard := none } :: rest) Q al H := by
  intro a w hst
  refine wpList_plain rfl fun K' hK' => ?_
  obtain ⟨_, o, hb, ⟨ents, clock, rfl, he, hc, hn⟩, _⟩ := hst.sat.ok _ _ hH
  obtain ⟨o', hrun, ho'⟩ := set_run hT hb he hc hn k v
  unfold Oper.wp
  simp only [execOp, hst.regs.eval hm, hst.regs.eval hk, hst.regs.eval hx, Sem.run_bind, hrun, Result.andThen_ok, Sem.run_pure, Oper.upon_skip]
  exact hK' _ _ (kk _ _ (hst.turnO hst.regs hH hb ho' ho'.known hC))
theorem ol_mapdel {m ky : Operand} {t tk : TypeId} {b id : Nat} {D : List (α × β)} {k : α} (hm : ev al m = some (.map (some b))) (hk : ev al ky = some (K k)) (hH : look H id = some (.ob b (MapO (pEnc K V D)))) (hT : MapK P t K V z) (hC : N.c b)
    (kk : OL P N B w0 ops rest Q al ((id, .ob b (MapO (pEnc K V (pD D k)))) :: H)) :
    OL P N B w0 ops ({ dst := none, op := .call { callee := .builtin .delete, args := #[m, ky], argTypes := #[t, tk] }, type := ty, pos, after, guard := none } :: rest) Q al H := by
  intro a w hst
  refine wpList_plain rfl fun K' hK' => ?_
  obtain ⟨_, o, hb, ⟨ents, clock, rfl, he, hc, hn⟩, _⟩ := hst.sat.ok _ _ hH
  obtain ⟨o', hrun, ho'⟩ := del_run (tk := tk) hT hb he hc hn k ty
  have hrun2 : (execOp a.eval { dst := none, op := .call { callee := .builtin .delete, args := #[m, ky], argTypes := #[t, tk] }, type := ty, pos, after, guard := none }).run P w = .ok (.value (.tuple #[])) { w with heap := w.heap.setIfInBounds b o' } := by
    simp [BigFrame.execOp_builtin, BigFrame.builtin_delete, hst.regs.eval hm, hst.regs.eval hk, hrun]
  unfold Oper.wp
  rw [hrun2, Oper.upon_value]
  exact hK' _ _ (kk _ _ (hst.turnO hst.regs hH hb ho' ho'.known hC))
/-! #### going through a map -/
theorem ol_rangeR {x : Operand} {t : TypeId} {b : Nat} {D : List (α × β)} (idi : Nat) (hM : Ob B w0 b (MapO (pEnc K V D))) (hx : ev al x = some (.map (some b))) (hT : MapK P t K V z) (hd : Nat.blt d N.n = true)
    (k : ∀ r bs clock, bs.length = D.length ∧ bs.Nodup ∧ (∀ y ∈ bs, y < clock) → Ob B w0 b (MapB (pEnc K V D) bs clock) → OL P N B w0 ops rest Q ((d, .pointer (some ⟨r, 0, none⟩)) :: al) ((idi, .ob r (IterO b bs clock [])) :: H)) :
    OL P N B w0 ops ({ dst := some d, op := .range t x, type := ty, pos, after, guard := none } :: rest) Q al H := by
  intro a w hst
  refine wpList_plain rfl fun K' hK' => ?_
  have hM' := hM
  obtain ⟨hlt, o, hb0, ⟨ents, clock, rfl, he, hc, hn⟩⟩ := hM
  have hb : w.heap[b]? = some (.map ents clock) := by rw [hst.below.block b hlt]; exact hb0
  obtain ⟨kt, et, hm, _, _⟩ := hT
  have hrun : (execOp a.eval { dst := some d, op := .range t x, type := ty, pos, after, guard := none }).run P w = .ok (.value (.pointer (some ⟨w.heap.size, 0, none⟩))) (w.alloc (.mapIter (some b) clock #[] clock)) := by
    simp [execOp, hst.regs.eval hx, Instr.range, run_underlying hm, MapKept.run_getObj_map hb, Result.andThen, run_newObj]
  unfold Oper.wp
  rw [hrun, Oper.upon_value]
  have hl := ents_len he
  refine hK' _ _ (k w.heap.size (ents.toList.map (·.born)) clock ⟨by rw [List.length_map]; exact hl, hn, fun y hy => by obtain ⟨e, h1, rfl⟩ := List.mem_map.1 hy; exact hc e h1⟩ ⟨hlt, _, hb0, ents, rfl, he, rfl⟩ _ _ (hst.step (hst.regs.put (by simpa using hd) _) (hst.below.alloc hst.base _) ?_ (by have := hst.base; simp; omega) (Kd.alloc w _)))
  exact hst.sat.new idi (e := .ob w.heap.size (IterO b (ents.toList.map (·.born)) clock [])) ⟨hst.base, _, (heap_alloc w _).1, ⟨#[], rfl, rfl, by simp⟩, rfl⟩ (fun k hk => (heap_alloc w _).2 k hk) (fun b hb => by simp only [Ent.own, Option.some.injEq] at hb; omega)
/-- A step of an iterator. -/
theorem next_run {w : World} {r b clock : Nat} {bs js : List Nat} {D : List (α × β)} {o om : Obj} (hr : w.heap[r]? = some o) (hi : IterO b bs clock js o) (hb : w.heap[b]? = some om) (hm : MapB (pEnc K V D) bs clock om) (hn : bs.Nodup) (hc : ∀ y ∈ bs, y < clock) :
    ((∀ j, j < D.length → j ∈ js) ∧ (Instr.next (.pointer (some ⟨r, 0, none⟩)) false ty).run P w = .ok (.tuple #[.bool false]) w) ∨
    ∃ j k v, j ∉ js ∧ D[j]? = some (k, v) ∧ ∃ w1 o', (w1 = w ∨ w1 = w.drew) ∧ (Instr.next (.pointer (some ⟨r, 0, none⟩)) false ty).run P w = .ok (.tuple #[.bool true, K k, V v]) { w1 with heap := w1.heap.setIfInBounds r o' } ∧ IterO b bs clock (js ++ [j]) o' ∧ Obj.known o' = true := by
  obtain ⟨seen, rfl, hs, hjl⟩ := hi
  obtain ⟨ents, rfl, he, hbs⟩ := hm
  have hbl : bs.length = D.length := by rw [← hbs, List.length_map]; exact ents_len he
  rcases run_next_at (P := P) w ty r b clock clock seen ents clock hr hb (fun x hx => hc _ (by rw [← hbs]; exact List.mem_map_of_mem hx)) (Nat.le_refl _) with ⟨h1, h2⟩ | ⟨e, h1, w1, hw1, h2⟩
  · left
    refine ⟨fun j hj => ?_, h2⟩
    have hx := List.getElem?_eq_getElem (l := bs) (i := j) (by omega)
    have hmem : bs[j]'(by omega) ∈ seen.toList := by
      have hj2 : bs[j]'(by omega) ∈ ents.toList.map (·.born) := by rw [hbs]; exact List.getElem_mem _
      obtain ⟨x, hx1, hx2⟩ := List.mem_map.1 hj2
      apply Decidable.byContradiction
      intro hno
      have : x ∈ (leftOf ents seen).toList := by
        unfold leftOf
        rw [Array.toList_filter, List.mem_filter]
        refine ⟨hx1, ?_⟩
        rw [hx2]
        simp only [Bool.not_eq_true']
        rw [Bool.eq_false_iff]
        intro hcon
        exact hno (by simpa using hcon)
      rw [Array.eq_empty_of_size_eq_zero h1] at this
      simp at this
    rw [hs] at hmem
    obtain ⟨i, hi, hij⟩ := List.mem_map.1 hmem
    have hil := hjl i hi
    have h3 : bs[i]? = bs[j]? := by rw [List.getElem?_eq_getElem hil, hx]; congr 1; simpa [List.getD, List.getElem?_eq_getElem hil] using hij
    have : i = j := (List.getElem?_inj hil hn).1 h3
    rw [← this]; exact hi
  · right
    unfold leftOf at h1
    rw [Array.toList_filter, List.mem_filter] at h1
    obtain ⟨j, hj⟩ := List.mem_iff_getElem?.1 h1.1
    have hjlt : j < D.length := by have := (List.getElem?_eq_some_iff.1 hj).1; rw [← ents_len he]; exact this
    obtain ⟨kv, hD⟩ : ∃ kv, D[j]? = some kv := ⟨_, List.getElem?_eq_getElem hjlt⟩
    obtain ⟨k, v⟩ := kv
    obtain ⟨e', he1, he2, he3⟩ := ents_at he hD
    rw [hj] at he1; cases he1
    have hbj : bs[j]? = some e.born := by rw [← hbs, List.getElem?_map, hj]; rfl
    have hgd : bs.getD j 0 = e.born := by simp [List.getD, hbj]
    refine ⟨j, k, v, fun hin => ?_, hD, w1, _, hw1, by rw [he2, he3] at h2; exact h2, ⟨seen.push e.born, rfl, by simp [hs, hbj], fun i hi => ?_⟩, rfl⟩
    · have : e.born ∈ seen.toList := by rw [hs, ← hgd]; exact List.mem_map_of_mem (f := fun j => bs.getD j 0) hin
      have h5 := h1.2
      simp only [Bool.not_eq_true'] at h5
      rw [Bool.eq_false_iff] at h5
      exact h5 (by simpa using this)
    · rcases List.mem_append.1 hi with hi | hi
      · exact hjl i hi
      · simp at hi; subst hi; omega
theorem ol_nextG {x : Operand} {r b idi clock : Nat} {bs js : List Nat} {D : List (α × β)} (hx : ev al x = some (.pointer (some ⟨r, 0, none⟩))) (hI : look H idi = some (.ob r (IterO b bs clock js))) (hM : ∀ w, Below B w0 w → Sat B w H → ∃ om, w.heap[b]? = some om ∧ MapB (pEnc K V D) bs clock om) (hn : bs.Nodup) (hc : ∀ y ∈ bs, y < clock) (hC : N.c r) (hd : Nat.blt d N.n = true)
    (k0 : (∀ j, j < D.length → j ∈ js) → OL P N B w0 ops rest Q ((d, .tuple #[.bool false]) :: al) H)
    (k1 : ∀ j k v, j ∉ js → D[j]? = some (k, v) → OL P N B w0 ops rest Q ((d, .tuple #[.bool true, K k, V v]) :: al) ((idi, .ob r (IterO b bs clock (js ++ [j]))) :: H)) :
    OL P N B w0 ops ({ dst := some d, op := .next x false, type := ty, pos, after, guard := none } :: rest) Q al H := by
  intro a w hst
  refine wpList_plain rfl fun K' hK' => ?_
  obtain ⟨hB, o, hr, ho, hkn⟩ := hst.sat.ok _ _ hI
  obtain ⟨om, hb, hom⟩ := hM w hst.below hst.sat
  unfold Oper.wp
  rcases next_run (P := P) (ty := ty) hr ho hb hom hn hc with ⟨h1, h2⟩ | ⟨j, k, v, h1, h2, w1, o', hw1, h3, h4, h5⟩
  · have hrun : (execOp a.eval { dst := some d, op := .next x false, type := ty, pos, after, guard := none }).run P w = .ok (.value (.tuple #[.bool false])) w := by
      simp only [execOp, hst.regs.eval hx, Sem.run_bind, h2, Result.andThen_ok, Sem.run_pure]
    rw [hrun, Oper.upon_value]
    exact hK' _ _ (k0 h1 _ _ (hst.step (hst.regs.put (by simpa using hd) _) hst.below hst.sat hst.base (Kd.refl _ _)))
  · have hrun : (execOp a.eval { dst := some d, op := .next x false, type := ty, pos, after, guard := none }).run P w = .ok (.value (.tuple #[.bool true, K k, V v])) { w1 with heap := w1.heap.setIfInBounds r o' } := by
      simp only [execOp, hst.regs.eval hx, Sem.run_bind, h3, Result.andThen_ok, Sem.run_pure]
    rw [hrun, Oper.upon_value]
    have hst1 : St N B w0 al H a w1 := by rcases hw1 with rfl | rfl; exact hst; exact hst.drew
    have hr1 : w1.heap[r]? = some o := by rcases hw1 with rfl | rfl <;> exact hr
    exact hK' _ _ (k1 j k v h1 h2 _ _ (hst1.turnO (hst.regs.put (by simpa using hd) _) hI hr1 h4 h5 hC))
theorem mapB_ro {b clock : Nat} {bs : List Nat} {es : List (Value × Value)} (hM : Ob B w0 b (MapB es bs clock)) : ∀ w, Below B w0 w → Sat B w H → ∃ om, w.heap[b]? = some om ∧ MapB es bs clock om := fun w hb _ => (hM.below hb).2
end
section
variable {P : Program} {N : Fr} {B : Nat} {w0 : World} {al : AL} {H : HL} {ty : TypeId} {α β : Type} {K : α → Value} {V : β → Value}
/-- The entry of the step that was made last. -/
theorem r_entry {x : Operand} {r b idi clock j : Nat} {bs js : List Nat} {D : List (α × β)} {k : α} {v : β} (hx : ev al x = some (.pointer (some ⟨r, 0, none⟩))) (hI : look H idi = some (.ob r (IterO b bs clock (js ++ [j])))) (hM : ∀ w, Below B w0 w → Sat B w H → ∃ om, w.heap[b]? = some om ∧ MapB (pEnc K V D) bs clock om) (hn : bs.Nodup) (hD : D[j]? = some (k, v)) :
    Runs P N B w0 (.entry x) ty al H (.tuple #[K k, V v]) := fun a w hst => by
  obtain ⟨hB, o, hr, ⟨seen, rfl, hs, hjl⟩, _⟩ := hst.sat.ok _ _ hI
  obtain ⟨om, hb, ents, rfl, he, hbs⟩ := hM w hst.below hst.sat
  obtain ⟨e, he1, he2, he3⟩ := ents_at he hD
  have hbj : bs[j]? = some e.born := by rw [← hbs, List.getElem?_map, he1]; rfl
  have hgd : bs.getD j 0 = e.born := by simp [List.getD, hbj]
  obtain ⟨s', hs'⟩ : ∃ s' : Array Nat, seen = s'.push e.born := by
    refine ⟨(js.map fun j => bs.getD j 0).toArray, ?_⟩
    apply Array.ext'
    rw [hs]; simp [hbj]
  subst hs'
  have h1 := run_entry_at (P := P) w r b clock s' ents clock e hr hb (List.mem_of_getElem? he1) (by rw [hbs]; exact hn)
  simp only [execOp, hst.regs.eval hx, Sem.run_bind, h1, Result.andThen_ok, Sem.run_pure, he2, he3]
end
end Go.Proofs.Ytafkojlccknicaa.Hx

/-
  Books of curves: names in order, who is best, ranks. No program stands here.
-/



namespace Go.Proofs.Ytafkojlccknicaa
open Go Hx
set_option linter.unusedVariables false
set_option linter.unusedSimpArgs false
abbrev Cur := ByteArray → List BestR
abbrev noS : ByteArray := ⟨#[]⟩
structure HoldR where
  size : Int
  sum : Int
  at_ : Int
  name : ByteArray
theorem ltB_irr {x : ByteArray} (h : ltB x x) : False := List.lt_irrefl _ h
theorem up_unique : ∀ {l m : List ByteArray}, l.Pairwise ltB → m.Pairwise ltB → (∀ x, x ∈ l ↔ x ∈ m) → l = m
  | [], [], _, _, _ => rfl
  | [], y :: k, _, _, h => by have := (h y).2 (by simp); simp at this
  | x :: l, [], _, _, h => by have := (h x).1 (by simp); simp at this
  | x :: l, y :: k, h1, h2, h => by
    rw [List.pairwise_cons] at h1 h2
    have hxy : x = y := by
      rcases List.mem_cons.1 ((h x).1 (by simp)) with h3 | h3
      · exact h3
      · rcases List.mem_cons.1 ((h y).2 (by simp)) with h4 | h4
        · exact h4.symm
        · exact (ltB_irr (ltB_trans (h1.1 y h4) (h2.1 x h3))).elim
    subst hxy
    rw [up_unique h1.2 h2.2 fun z => ⟨fun hz => ?_, fun hz => ?_⟩]
    · rcases List.mem_cons.1 ((h z).1 (by simp [hz])) with h3 | h3
      · subst h3; exact (ltB_irr (h1.1 z hz)).elim
      · exact h3
    · rcases List.mem_cons.1 ((h z).2 (by simp [hz])) with h3 | h3
      · subst h3; exact (ltB_irr (h2.1 z hz)).elim
      · exact h3
theorem up_nodup {l : List ByteArray} (h : l.Pairwise ltB) : l.Nodup := h.imp fun {a b} hab he => by subst he; exact ltB_irr hab
theorem ordBA_perm {ks : List ByteArray} (h : ks.Nodup) : (ordBA ks).Perm ks := (List.perm_ext_iff_of_nodup (up_nodup (ordBA_up ks)) h).2 fun x => mem_ordBA
theorem ordBA_of {ks l : List ByteArray} (h : l.Pairwise ltB) (hm : ∀ x, x ∈ l ↔ x ∈ ks) : l = ordBA ks := up_unique h (ordBA_up ks) fun x => (hm x).trans mem_ordBA.symm
theorem ordBA_cong {ks ls : List ByteArray} (hm : ∀ x, x ∈ ks ↔ x ∈ ls) : ordBA ks = ordBA ls := ordBA_of (ordBA_up ks) fun x => mem_ordBA.trans (hm x)
/-- A name put in at its place. -/
theorem ins_ord {ks l : List ByteArray} {x : ByteArray} {k : Nat} (hl : l = ordBA ks) (hx : x ∉ ks) (h1 : ∀ i y, i < k → l[i]? = some y → ltB y x) (h2 : ∀ i y, k ≤ i → l[i]? = some y → ltB x y) {ls : List ByteArray} (hm : ∀ y, y ∈ ls ↔ y ∈ ks ∨ y = x) : l.take k ++ [x] ++ l.drop k = ordBA ls := by
  have hup : l.Pairwise ltB := by rw [hl]; exact ordBA_up ks
  refine ordBA_of ?_ fun y => ?_
  · rw [List.append_assoc, List.singleton_append]
    refine List.pairwise_append.2 ⟨hup.sublist (List.take_sublist _ _), List.pairwise_cons.2 ⟨fun y hy => ?_, hup.sublist (List.drop_sublist _ _)⟩, fun a ha b hb => ?_⟩
    · obtain ⟨i, hi⟩ := List.getElem?_of_mem hy
      rw [List.getElem?_drop] at hi
      exact h2 _ y (by omega) hi
    · obtain ⟨i, hi⟩ := List.getElem?_of_mem ha
      have hik : i < k := by have := (List.getElem?_eq_some_iff.1 hi).1; rw [List.length_take] at this; omega
      rw [List.getElem?_take_of_lt hik] at hi
      have hax := h1 i a hik hi
      rcases List.mem_cons.1 hb with rfl | hb
      · exact hax
      · obtain ⟨j, hj⟩ := List.getElem?_of_mem hb
        rw [List.getElem?_drop] at hj
        exact ltB_trans hax (h2 _ b (by omega) hj)
  · rw [hm, ← mem_ordBA (xs := ks), ← hl]
    simp only [List.mem_append, List.mem_singleton]
    have := List.mem_append (s := l.take k) (t := l.drop k) (a := y)
    rw [List.take_append_drop] at this
    rw [this]
    constructor
    · rintro ((h | h) | h)
      · exact .inl (.inl h)
      · exact .inr h
      · exact .inl (.inr h)
    · rintro ((h | h) | h)
      · exact .inl (.inl h)
      · exact .inr h
      · exact .inl (.inr h)
theorem ord_filter {ks ls : List ByteArray} {x : ByteArray} (hm : ∀ y, y ∈ ls ↔ y ∈ ks ∧ y ≠ x) : (ordBA ks).filter (fun y => !sEq y x) = ordBA ls := by
  refine ordBA_of ((ordBA_up ks).sublist List.filter_sublist) fun y => ?_
  rw [List.mem_filter, mem_ordBA, hm]
  constructor
  · rintro ⟨h1, h2⟩; exact ⟨h1, fun he => by rw [sEq_iff.2 he] at h2; cases h2⟩
  · rintro ⟨h1, h2⟩
    refine ⟨h1, ?_⟩
    cases he : sEq y x with
    | false => rfl
    | true => exact (h2 (sEq_iff.1 he)).elim
/-! #### what the methods answer -/
def addR (has : Bool) (len : Nat) (zs : List Int) (nm : ByteArray) (cs : List BestR) : Int :=
  if nameB nm = false then 8 else if chkC cs ≠ 0 then chkC cs else if szs cs ≠ zs then 2 else if has = true then 5 else if 5000 ≤ len then 3 else 0
section
variable {has : Bool} {len : Nat} {zs : List Int} {nm : ByteArray} {cs : List BestR}
theorem addR_8 (h : nameB nm = false) : addR has len zs nm cs = 8 := if_pos h
theorem addR_c (h : nameB nm = true) (h2 : chkC cs ≠ 0) : addR has len zs nm cs = chkC cs := by rw [addR, if_neg (by rw [h]; simp), if_pos h2]
theorem addR_2 (h : nameB nm = true) (h2 : ¬chkC cs ≠ 0) (h3 : szs cs ≠ zs) : addR has len zs nm cs = 2 := by rw [addR, if_neg (by rw [h]; simp), if_neg h2, if_pos h3]
theorem addR_5 (h : nameB nm = true) (h2 : ¬chkC cs ≠ 0) (h3 : szs cs = zs) (h4 : has = true) : addR has len zs nm cs = 5 := by rw [addR, if_neg (by rw [h]; simp), if_neg h2, if_neg (fun h => h h3), if_pos h4]
theorem addR_3 (h : nameB nm = true) (h2 : ¬chkC cs ≠ 0) (h3 : szs cs = zs) (h4 : has = false) (h5 : 5000 ≤ len) : addR has len zs nm cs = 3 := by rw [addR, if_neg (by rw [h]; simp), if_neg h2, if_neg (fun h => h h3), if_neg (by rw [h4]; simp), if_pos h5]
theorem addR_0 (h : nameB nm = true) (h2 : ¬chkC cs ≠ 0) (h3 : szs cs = zs) (h4 : has = false) (h5 : ¬5000 ≤ len) : addR has len zs nm cs = 0 := by rw [addR, if_neg (by rw [h]; simp), if_neg h2, if_neg (fun h => h h3), if_neg (by rw [h4]; simp), if_neg h5]
theorem addR_ok (h : addR has len zs nm cs = 0) : nameB nm = true ∧ chkC cs = 0 ∧ szs cs = zs ∧ has = false ∧ len < 5000 := by
  unfold addR at h
  by_cases h1 : nameB nm = false
  · rw [if_pos h1] at h; omega
  rw [if_neg h1] at h
  by_cases h2 : chkC cs ≠ 0
  · rw [if_pos h2] at h; exact (h2 h).elim
  rw [if_neg h2] at h
  by_cases h3 : szs cs ≠ zs
  · rw [if_pos h3] at h; omega
  rw [if_neg h3] at h
  by_cases h4 : has = true
  · rw [if_pos h4] at h; omega
  rw [if_neg h4] at h
  by_cases h5 : 5000 ≤ len
  · rw [if_pos h5] at h; omega
  exact ⟨by simpa using h1, Decidable.not_not.1 h2, Decidable.not_not.1 h3, by simpa using h4, by omega⟩
end
def zeroBest : BestR := ⟨0, 0, 0, false⟩
def hStep (cur : Cur) (k : Nat) (st : BestR × ByteArray) (nm : ByteArray) : BestR × ByteArray :=
  match (cur nm)[k]? with
  | some c => if lessB st.1 c = true then (c, nm) else st
  | none => st
def holdAt (cur : Cur) (names : List ByteArray) (k : Nat) : BestR × ByteArray := names.foldl (hStep cur k) (zeroBest, noS)
theorem holdAt_succ {cur : Cur} {names : List ByteArray} {j k : Nat} {nm : ByteArray} (h : names[j]? = some nm) : holdAt cur (names.take (j + 1)) k = hStep cur k (holdAt cur (names.take j) k) nm := by
  rw [holdAt, holdAt, List.take_add_one, h, List.foldl_append]; rfl
theorem hStep_t {cur : Cur} {k : Nat} {st : BestR × ByteArray} {nm : ByteArray} {c : BestR} (hc : (cur nm)[k]? = some c) (h : lessB st.1 c = true) : hStep cur k st nm = (c, nm) := by rw [hStep, hc]; exact if_pos h
theorem hStep_f {cur : Cur} {k : Nat} {st : BestR × ByteArray} {nm : ByteArray} {c : BestR} (hc : (cur nm)[k]? = some c) (h : lessB st.1 c = false) : hStep cur k st nm = st := by rw [hStep, hc]; exact if_neg (by rw [h]; simp)
/-- Somebody is best just if his name is told. -/
structure HoldI (st : BestR × ByteArray) : Prop where
  no : st.1.found = false → st = (zeroBest, noS)
  yes : st.1.found = true → st.2 ≠ noS
theorem HoldI.zero : HoldI (zeroBest, noS) := ⟨fun _ => rfl, fun h => by cases h⟩
theorem HoldI.step {st : BestR × ByteArray} {c : BestR} {nm : ByteArray} (h : lessB st.1 c = true) (hn : nm ≠ noS) : HoldI (c, nm) := by
  have hf : c.found = true := by
    unfold lessB at h; rw [Bool.and_eq_true] at h; exact h.1
  exact ⟨fun h2 => (by rw [hf] at h2; cases h2), fun _ => hn⟩
theorem holdAt_I {cur : Cur} {names : List ByteArray} (hn : ∀ x ∈ names, x ≠ noS) (k : Nat) : ∀ j, HoldI (holdAt cur (names.take j) k)
  | 0 => HoldI.zero
  | j + 1 => by
    by_cases hj : j < names.length
    · rw [holdAt_succ (List.getElem?_eq_getElem hj), hStep]
      have ih := holdAt_I (cur := cur) hn k j
      split
      · split
        · rename_i h; exact HoldI.step h (hn _ (List.getElem_mem hj))
        · exact ih
      · exact ih
    · have : names.take (j + 1) = names.take j := by rw [List.take_of_length_le (by omega), List.take_of_length_le (by omega)]
      rw [this]; exact holdAt_I hn k j
def holdOne (z : Int) (st : BestR × ByteArray) : List HoldR := if st.1.found = true then [⟨z, st.1.sum, st.1.at_, st.2⟩] else []
def holdK (cur : Cur) (names : List ByteArray) (zs : List Int) (k : Nat) : List HoldR := (List.range k).flatMap fun i => holdOne (zs.getD i 0) (holdAt cur names i)
theorem holdK_succ {cur : Cur} {names : List ByteArray} {zs : List Int} {k : Nat} {z : Int} (h : zs[k]? = some z) : holdK cur names zs (k + 1) = holdK cur names zs k ++ holdOne z (holdAt cur names k) := by
  rw [holdK, holdK, List.range_succ, List.flatMap_append]
  simp [List.getD_eq_getElem?_getD, h]
theorem holdOne_len (z : Int) (st : BestR × ByteArray) : (holdOne z st).length ≤ 1 := by unfold holdOne; split <;> simp
theorem holdK_len (cur : Cur) (names : List ByteArray) (zs : List Int) : ∀ k, (holdK cur names zs k).length ≤ k
  | 0 => by simp [holdK]
  | k + 1 => by
    have ih := holdK_len cur names zs k
    rw [holdK, List.range_succ, List.flatMap_append, List.length_append, ← holdK]
    have := holdOne_len (zs.getD k 0) (holdAt cur names k)
    simp only [List.flatMap_cons, List.flatMap_nil, List.append_nil]
    omega
/-! #### ranks -/
def rkB (cur : Cur) (k : Nat) (own : BestR) (nm x : ByteArray) : Bool :=
  match (cur x)[k]? with
  | some c => c.found && (decide (c.sum > own.sum) || (decide (c.sum = own.sum) && sLt x nm))
  | none => false
def rankC (cur : Cur) (k : Nat) (own : BestR) (nm : ByteArray) (ks : List ByteArray) : Nat := (ks.filter (rkB cur k own nm)).length
theorem rankC_snoc (cur : Cur) (k : Nat) (own : BestR) (nm : ByteArray) (ks : List ByteArray) (x : ByteArray) : rankC cur k own nm (ks ++ [x]) = rankC cur k own nm ks + if rkB cur k own nm x = true then 1 else 0 := by
  rw [rankC, rankC, List.filter_append, List.length_append]
  by_cases h : rkB cur k own nm x = true <;> simp [h]
theorem rankC_perm {cur : Cur} {k : Nat} {own : BestR} {nm : ByteArray} {ks ls : List ByteArray} (h : ks.Perm ls) : rankC cur k own nm ks = rankC cur k own nm ls := (h.filter _).length_eq
theorem rankC_le (cur : Cur) (k : Nat) (own : BestR) (nm : ByteArray) (ks : List ByteArray) : rankC cur k own nm ks ≤ ks.length := List.length_filter_le _ _
def idxZ (zs : List Int) (z : Int) : Option Nat := zs.findIdx? (fun y => decide (y = z))
def rankR (cur : Cur) (has : Bool) (ks : List ByteArray) (zs : List Int) (z : Int) (nm : ByteArray) : Int × Bool × Int :=
  match idxZ zs z, has with
  | some k, true => match (cur nm)[k]? with
    | some own => if own.found = true then (rankC cur k own nm ks, true, 0) else (0, false, 0)
    | none => (0, false, 0)
  | _, _ => (0, false, 4)
end Go.Proofs.Ytafkojlccknicaa

/-
  More rules: an append of all of a slice to a slice of one's own.
-/

namespace Go.Proofs.Ytafkojlccknicaa.Hx
open Go Go.RowKit
set_option linter.unusedVariables false
set_option linter.unusedSimpArgs false
section
variable {P : Program} {N : Fr} {B : Nat} {w0 : World} {Q : Exit → Act → World → Prop} {al : AL} {H : HL} {ops rest : List Oper} {d : Nat} {ty : TypeId} {pos : String} {after : Array Edge}
theorem run_append0 {t e : TypeId} {size bytes n cap c : Nat} {a : Option Addr} {w : World} (hT : RowT P t e size bytes) (hc : n ≤ cap) :
    (Builtin.append_ #[t, t] ty #[.slice a n cap, .slice none 0 c]).run P w = .ok (.slice a n cap) w := by
  obtain ⟨hu, i, z, hi, hz, hsz, hby, hzz, hpos⟩ := hT
  cases a <;> simp [Builtin.append_, run_underlying hu, sizeOf, typeInfo, hi, Builtin.lenOf, Builtin.firstCells, hc, storeCells]
theorem Sat.again {w : World} {id : Nat} {e : Ent} (hs : Sat B w H) (hr : look H id = some e) : Sat B w ((id, e) :: H) :=
  ⟨fun i f hf => hs.ok i f (by
    by_cases h : id = i
    · subst h; rw [look_cons_eq] at hf; rw [hr]; exact hf
    · rwa [look_cons_ne _ _ h] at hf), fun i j f g hij hf hg => hs.apart i j f g hij (by
    by_cases h : id = i
    · subst h; rw [look_cons_eq] at hf; rw [hr]; exact hf
    · rwa [look_cons_ne _ _ h] at hf) (by
    by_cases h : id = j
    · subst h; rw [look_cons_eq] at hg; rw [hr]; exact hg
    · rwa [look_cons_ne _ _ h] at hg)⟩
theorem ol_append0 {s x : Operand} {id n cap c : Nat} {a : Option Addr} {xs : List Value} {t e : TypeId} {size bytes : Nat} (hs : ev al s = some (.slice a n cap)) (hr : look H id = some (.row a n cap xs e size))
    (hx : ev al x = some (.slice none 0 c)) (hT : RowT P t e size bytes) (hd : Nat.blt d N.n = true)
    (k : OL P N B w0 ops rest Q ((d, .slice a n cap) :: al) ((id, .row a n cap xs e size) :: H)) :
    OL P N B w0 ops ({ dst := some d, op := .call { callee := .builtin .append, args := #[s, x], argTypes := #[t, t] }, type := ty, pos, after, guard := none } :: rest) Q al H := by
  intro a0 w hst
  have hok : w.ownsRow B e size (.slice a n cap) n xs := hst.sat.ok _ _ hr
  have hc : n ≤ cap := by
    rcases hok.2 with ⟨h1, h2⟩ | ⟨g, cap', cur, hv, hb, hg, h3, h4, h5⟩
    · omega
    · cases hv; exact h3
  refine ol_r (v := .slice a n cap) (fun a w hst => ?_) hd (fun a w hst => k a w ⟨hst.regs, hst.below, hst.sat.again hr, hst.base, hst.kd, hst.marks⟩) a0 w hst
  simp [BigFrame.execOp_builtin, BigFrame.builtin_append, hst.regs.eval hs, hst.regs.eval hx, run_append0 (ty := ty) hT hc]
theorem ol_appendR {α : Type} (E : Enc α) {s x : Operand} {id n cap m c : Nat} {a ad : Option Addr} {xs ys : List α} {t e : TypeId} {size bytes : Nat} (hl : Rd E B w0 ad m c ys) (hs : ev al s = some (.slice a n cap)) (hr : look H id = some (.row a n cap (E.enc xs) e size))
    (hx : ev al x = some (.slice ad m c)) (hz : size = E.size) (hT : RowT P t e size bytes)
    (hb : n + m ≤ 9223372036854775807 ∧ (n + m) * bytes ≤ 140737488355328) (hd : Nat.blt d N.n = true)
    (k : ∀ a' cap', OL P N B w0 ops rest Q ((d, .slice a' (n + m) cap') :: al) ((id, .row a' (n + m) cap' (E.enc (xs ++ ys)) e size) :: H)) :
    OL P N B w0 ops ({ dst := some d, op := .call { callee := .builtin .append, args := #[s, x], argTypes := #[t, t] }, type := ty, pos, after, guard := none } :: rest) Q al H := by
  have hlen := hl.len
  cases ad with
  | none =>
    have hm : m = 0 := by
      cases m with
      | zero => rfl
      | succ m => have := hl.isSome (by omega); simp at this
    subst hm
    have hys : ys = [] := List.eq_nil_of_length_eq_zero hlen
    subst hys
    refine ol_append0 hs hr hx hT hd ?_
    have h := k a cap
    simpa using h
  | some p =>
    refine ol_append (id := id) (news := E.enc ys) hs hr hx hT (by rw [Enc.enc_len, hlen, hz]) (E.ones_enc ys) (fun w1 hb1 hs1 hB1 => ⟨p, rfl, (hl.below hb1).flat rfl⟩) hb hd fun a' c' => ?_
    have h := k a' c'
    rwa [Enc.enc_append] at h
end
section
variable {P : Program} {N : Fr} {B : Nat} {w0 : World} {Q : Exit → Act → World → Prop} {Ss : List (Nat × HL)} {ops : Array Oper} {listed : Array Bool} {n : Nat} {al : AL} {H : HL} {d : Nat} {ty : TypeId} {pos : String} {after : Array Edge} {Hj : HL}
end
end Go.Proofs.Ytafkojlccknicaa.Hx

/-
  Names of a map in order: maps.Keys, slices.Collect, slices.SortFunc and slices.Compact of strings: the library's contracts, laid at this program.
-/








namespace Go.Proofs.Ytafkojlccknicaa
open Go Go.RowKit Hx
set_option linter.unusedVariables false
set_option linter.unusedSimpArgs false
set_option maxRecDepth 8000
theorem encStr_mapB (xs : List ByteArray) : encStr.enc xs = (xs.map bytesB).map Go.Proofs.encStr := by
  induction xs with
  | nil => rfl
  | cons x r ih => rw [List.map_cons, List.map_cons, ← ih]; rfl
theorem str_len {B n c : Nat} {w : World} {a : Option Addr} {xs : List ByteArray} {e : TypeId} (h : w.ownsRow B e 1 (.slice a n c) n (encStr.enc xs)) : xs.length = n := by
  have h1 := h.1
  rw [encStr_mapB, List.length_map, List.length_map] at h1
  omega
theorem map_of_bytes (ls : List (List UInt8)) : (ls.map ofB).map bytesB = ls := by
  have h3 : (bytesB ∘ ofB) = _root_.id := by funext l; simp [bytesB, ofB]
  rw [List.map_map, h3, List.map_id]
theorem map_to_bytes (ls : List ByteArray) : (ls.map bytesB).map ofB = ls := by
  have h3 : (ofB ∘ bytesB) = _root_.id := by funext l; simp [bytesB, ofB]
  rw [List.map_map, h3, List.map_id]
theorem encStr_bytes (ls : List (List UInt8)) : encStr.enc (ls.map ofB) = ls.map Go.Proofs.encStr := by
  rw [encStr_mapB, map_of_bytes]
/-! #### sorted -/
theorem compareB_lt : ∀ (x y : List UInt8), Lib.compareBytes x y < 0 ↔ x < y
  | [], [] => by simp [Lib.compareBytes]
  | _ :: _, [] => by simp [Lib.compareBytes]
  | [], _ :: _ => by simp [Lib.compareBytes]
  | a :: x, b :: y => by
    rw [Lib.compareBytes, List.cons_lt_cons_iff]
    by_cases h1 : a < b
    · simp [h1]
    · by_cases h2 : b < a
      · have h3 : a ≠ b := fun e => by subst e; exact h1 h2
        simp [h1, h2, h3]
      · have h3 : a = b := by
          have := UInt8.le_antisymm (UInt8.not_lt.1 h2) (UInt8.not_lt.1 h1); exact this
        subst h3
        simp [h1, compareB_lt x y]
theorem ltBy (x y : List UInt8) : ltOf Go.Lib.compareBytes x y = decide (x < y) := by
  unfold ltOf
  rw [Bool.eq_iff_iff, decide_eq_true_iff, decide_eq_true_iff]
  exact compareB_lt x y
theorem swoB : Go.Sort.SWO (ltOf Go.Lib.compareBytes) := ⟨fun x => by rw [ltBy]; exact decide_eq_false (List.lt_irrefl x), fun x y z h1 h2 => by
    rw [ltBy] at *; exact decide_eq_true (List.lt_trans (of_decide_eq_true h1) (of_decide_eq_true h2)), fun x y z h1 h2 => by
    rw [ltBy] at *
    refine decide_eq_false fun h => ?_
    have a1 := List.not_lt.1 (of_decide_eq_false h1)
    have a2 := List.not_lt.1 (of_decide_eq_false h2)
    exact List.not_lt.2 (List.le_trans a2 a1) h⟩
def sortB (xs : List ByteArray) : List ByteArray := ((xs.map bytesB).mergeSort fun x y => decide (x ≤ y)).map ofB
def layFS_ren : Go.Shelf.Ren := ⟨fun | 0 => 0 | 1 => 1 | 2 => 2 | 6 => 135 | 9 => 129 | 11 => 96 | 14 => 145 | 15 => 144 | 17 => 143 | 18 => 131 | 20 => 159 | 21 => 160 | 22 => 161 | 23 => 162 | 24 => 163 | 25 => 164 | 26 => 165 | 27 => 166 | 28 => 157 | 29 => 158 | 30 => 149 | 31 => 150 | 32 => 151 | 33 => 152 | 34 => 153 | 35 => 154 | 36 => 155 | 37 => 156 | 46 => 172 | 47 => 168 | 48 => 169 | 49 => 173 | 50 => 174 | 51 => 167 | 52 => 170 | 53 => 171 | 57 => 176 | 58 => 175 | 60 => 177 | 61 => 178 | 62 => 179 | 63 => 180 | 64 => 181 | 65 => 182 | 66 => 183 | 67 => 184 | 68 => 185 | 69 => 186 | 70 => 187 | 71 => 188 | 72 => 189 | 73 => 190 | 74 => 191 | 75 => 192 | n => n, fun | 0 => 0 | 1 => 1 | 2 => 2 | 3 => 3 | 4 => 4 | 5 => 5 | 6 => 6 | 7 => 7 | 8 => 8 | 9 => 9 | 10 => 10 | 11 => 11 | 12 => 12 | 13 => 13 | 14 => 14 | 15 => 15 | 16 => 16 | 17 => 17 | 18 => 18 | 19 => 19 | 20 => 20 | 21 => 21 | 22 => 49 | 23 => 161 | 24 => 9 | 25 => 140 | 26 => 94 | 27 => 22 | 28 => 157 | 29 => 121 | 37 => 168 | 38 => 167 | 39 => 144 | 40 => 131 | 41 => 166 | 42 => 117 | 44 => 181 | 45 => 171 | 46 => 172 | 47 => 182 | 48 => 183 | 49 => 184 | 50 => 30 | 51 => 185 | 52 => 177 | 53 => 178 | 54 => 179 | 55 => 180 | 56 => 170 | 57 => 173 | 58 => 174 | 59 => 175 | 60 => 176 | 66 => 186 | 67 => 187 | 68 => 188 | 69 => 192 | 70 => 190 | 71 => 193 | 72 => 189 | 73 => 191 | 76 => 194 | 77 => 155 | 78 => 196 | 79 => 195 | 81 => 197 | 82 => 198 | 83 => 199 | 84 => 200 | 85 => 201 | 86 => 202 | 87 => 203 | 88 => 204 | 89 => 205 | 90 => 206 | 91 => 207 | 92 => 208 | 93 => 209 | 94 => 210 | 95 => 211 | 96 => 212 | n => n, fun n => n⟩
theorem layFS : Go.Proofs.SlLaysF.n6 Try.prog layFS_ren := { mixed := by kernel_rfl, f6 := ⟨"slices.SortFunc[[]string,string]", by decide, Try.func135.trans (congrArg some (by kernel_rfl))⟩, f14 := ⟨"slices.pdqsortCmpFunc[string]", by decide, Try.func145.trans (congrArg some (by kernel_rfl))⟩, f15 := Try.func144.trans (congrArg some (by kernel_rfl)), f20 := ⟨"slices.insertionSortCmpFunc[string]", by decide, Try.func159.trans (congrArg some (by kernel_rfl))⟩, f21 := ⟨"slices.heapSortCmpFunc[string]", by decide, Try.func160.trans (congrArg some (by kernel_rfl))⟩, f22 := ⟨"slices.breakPatternsCmpFunc[string]", by decide, Try.func161.trans (congrArg some (by kernel_rfl))⟩, f23 := ⟨"slices.choosePivotCmpFunc[string]", by decide, Try.func162.trans (congrArg some (by kernel_rfl))⟩, f24 := ⟨"slices.reverseRangeCmpFunc[string]", by decide, Try.func163.trans (congrArg some (by kernel_rfl))⟩, f25 := ⟨"slices.partialInsertionSortCmpFunc[string]", by decide, Try.func164.trans (congrArg some (by kernel_rfl))⟩, f26 := ⟨"slices.partitionEqualCmpFunc[string]", by decide, Try.func165.trans (congrArg some (by kernel_rfl))⟩, f27 := ⟨"slices.partitionCmpFunc[string]", by decide, Try.func166.trans (congrArg some (by kernel_rfl))⟩, f28 := Try.func157.trans (congrArg some (by kernel_rfl)), f29 := Try.func158.trans (congrArg some (by kernel_rfl)), f46 := ⟨"slices.siftDownCmpFunc[string]", by decide, Try.func172.trans (congrArg some (by kernel_rfl))⟩, f47 := Try.func168.trans (congrArg some (by kernel_rfl)), f48 := Try.func169.trans (congrArg some (by kernel_rfl)), f49 := ⟨"slices.medianAdjacentCmpFunc[string]", by decide, Try.func173.trans (congrArg some (by kernel_rfl))⟩, f50 := ⟨"slices.medianCmpFunc[string]", by decide, Try.func174.trans (congrArg some (by kernel_rfl))⟩, f57 := ⟨"slices.order2CmpFunc[string]", by decide, Try.func176.trans (congrArg some (by kernel_rfl))⟩, t0 := Try.underlying0, a0 := Try.isAgg0, z0 := Try.sizeOf0, v0 := Try.zeroValue0, t3 := Try.underlying3, a3 := Try.isAgg3, z3 := Try.sizeOf3, v3 := Try.zeroValue3, t4 := Try.underlying4, a4 := Try.isAgg4, z4 := Try.sizeOf4, v4 := Try.zeroValue4, t5 := Try.underlying5, a5 := Try.isAgg5, z5 := Try.sizeOf5, v5 := Try.zeroValue5, t9 := Try.underlying9, a9 := Try.isAgg9, z9 := Try.sizeOf9, v9 := Try.zeroValue9, t22 := Try.underlying49, a22 := Try.isAgg49, z22 := Try.sizeOf49, v22 := Try.zeroValue49, a24 := Try.isAgg9, z24 := Try.sizeOf9, t25 := Try.underlying140, a25 := Try.isAgg140, z25 := Try.sizeOf140, v25 := Try.zeroValue140, t39 := Try.underlying144, a39 := Try.isAgg144, z39 := Try.sizeOf144, v39 := Try.zeroValue144, t45 := Try.underlying171, a45 := Try.isAgg171, z45 := Try.sizeOf171, v45 := Try.zeroValue171, t46 := Try.underlying172, a46 := Try.isAgg172, z46 := Try.sizeOf172, v46 := Try.zeroValue172, t50 := Try.underlying30, a50 := Try.isAgg30, z50 := Try.sizeOf30, v50 := Try.zeroValue30, t53 := Try.underlying178, a53 := Try.isAgg178, z53 := Try.sizeOf178, v53 := Try.zeroValue178, t55 := Try.underlying180, a55 := Try.isAgg180, z55 := Try.sizeOf180, v55 := Try.zeroValue180, t66 := Try.underlying186, a66 := Try.isAgg186, z66 := Try.sizeOf186, v66 := Try.zeroValue186, t70 := Try.underlying190, a70 := Try.isAgg190, z70 := Try.sizeOf190, v70 := Try.zeroValue190, t76 := Try.underlying194, a76 := Try.isAgg194, z76 := Try.sizeOf194, v76 := Try.zeroValue194, t77 := Try.underlying155, a77 := Try.isAgg155, z77 := Try.sizeOf155, v77 := Try.zeroValue155 }

def layS106_ren : Go.Shelf.Ren := ⟨fun | 0 => 0 | 1 => 1 | 2 => 2 | 106 => 111 | 108 => 107 | 111 => 26 | 113 => 79 | 122 => 96 | 125 => 144 | 128 => 157 | 129 => 158 | 193 => 62 | 194 => 136 | 213 => 139 | 215 => 131 | 216 => 114 | 265 => 146 | 329 => 168 | 330 => 169 | 347 => 177 | 348 => 178 | 349 => 179 | 350 => 180 | 351 => 181 | 352 => 182 | 353 => 183 | 354 => 184 | 355 => 185 | 356 => 186 | 357 => 187 | 358 => 188 | 359 => 189 | 360 => 190 | 361 => 191 | 366 => 192 | n => n, fun | 0 => 0 | 1 => 1 | 2 => 2 | 3 => 3 | 4 => 4 | 5 => 5 | 6 => 6 | 7 => 7 | 8 => 8 | 9 => 9 | 10 => 10 | 11 => 11 | 12 => 12 | 13 => 13 | 14 => 14 | 15 => 15 | 16 => 16 | 17 => 17 | 18 => 18 | 19 => 19 | 20 => 20 | 21 => 21 | 27 => 140 | 28 => 22 | 30 => 134 | 31 => 49 | 34 => 37 | 36 => 106 | 41 => 160 | 43 => 121 | 46 => 144 | 47 => 167 | 51 => 178 | 52 => 177 | 53 => 180 | 54 => 179 | 80 => 197 | 81 => 203 | 100 => 94 | 101 => 87 | 102 => 162 | 104 => 131 | 111 => 117 | 112 => 145 | 114 => 153 | 127 => 207 | 131 => 30 | 132 => 29 | 164 => 212 | 182 => 171 | 183 => 172 | 185 => 31 | 218 => 186 | 219 => 187 | 220 => 188 | 222 => 190 | 228 => 194 | 229 => 155 | 238 => 198 | 239 => 199 | 240 => 200 | 241 => 201 | 242 => 202 | 243 => 204 | 244 => 205 | 245 => 206 | 246 => 208 | 247 => 209 | 248 => 210 | 249 => 211 | n => n, fun n => n⟩
theorem layS106 : Go.Proofs.Lays.n106 Try.prog layS106_ren := { mixed := by kernel_rfl, f106 := Try.func111.trans (congrArg some (by kernel_rfl)), f213 := Try.func139.trans (congrArg some (by kernel_rfl)), f265 := Try.func146.trans (congrArg some (by kernel_rfl)), t3 := Try.underlying3, a3 := Try.isAgg3, z3 := Try.sizeOf3, v3 := Try.zeroValue3, t9 := Try.underlying9, a9 := Try.isAgg9, z9 := Try.sizeOf9, v9 := Try.zeroValue9 }

theorem sortF_strs (B id : Nat) (a : Option Addr) (n c : Nat) (xs : List ByteArray) (T : TypeId) (H : HL) (w : World) (hB : B ≤ w.heap.size) (hs : Sat B w H) (hr : Hx.look H id = some (.row a n c (encStr.enc xs) T 1)) (hsz : n < 4611686018427387904) :
    Calls Try.prog 135 #[.slice a n c, .func (.func 111) #[] #[]] w fun e w' => e = .returned (.tuple #[]) ∧ Below B w w' ∧ Sat B w' ((id, .row a n c (encStr.enc (sortB xs)) T 1) :: H) ∧ B ≤ w'.heap.size ∧ Kd (fun _ => False) w w' := by
  have hok := hs.ok id _ hr
  by_cases hn : n = 0
  · subst hn
    obtain rfl : xs = [] := List.eq_nil_of_length_eq_zero (str_len hok)
    have h := AnyF.slices_SortFunc_none (P := Try.prog) (ρ := layFS_ren) { layFS with } a c (.func (.func 111) #[] #[]) w
    change Calls Try.prog 135 _ _ _ at h
    refine h.mono ?_
    rintro e w' ⟨rfl, rfl⟩
    exact ⟨rfl, Below.refl _ _, by rw [show sortB [] = [] by simp [sortB]]; exact hs.again hr, hB, Kd.refl _ _⟩
  obtain ⟨g, rfl⟩ := row_some hok (by omega)
  have hlt := (Ent.own_lt hok (b := g) rfl).2
  have hlen := str_len hok
  subst hlen
  have h2 := row_holds hok
  rw [encStr_mapB, ← List.map_toArray] at h2
  have hcmp : CmpLays1 Try.prog 111 #[] Go.Proofs.encStr Go.Lib.compareBytes g 0 (xs.map bytesB).toArray.size w := fun m os dk _ x y => by
    rw [Array.append_empty]
    refine (Any.strings_Compare layS106 (ofB x) (ofB y) _).mono ?_
    rintro e w2 ⟨he, hw⟩
    exact ⟨by rw [he]; simp [ofB], 0, #[], by rw [hw, grow_none]⟩
  have h := Any.slices_SortFunc_total layFS Go.Proofs.encStr (fun _ => rfl) Go.Lib.compareBytes swoB 111 #[] g 0 c (xs.map bytesB).toArray w (enters_of Try.func111 (by kernel_rfl) rfl) hcmp (holds_id h2) hlt (by simpa using hsz) (fun x y h1 h2 => by
    rw [ltBy] at *
    exact List.le_antisymm (List.not_lt.1 (of_decide_eq_false h2)) (List.not_lt.1 (of_decide_eq_false h1)))
  rw [List.size_toArray, List.length_map] at h
  change Calls Try.prog 135 _ _ _ at h
  refine h.mono ?_
  rintro e w' ⟨rfl, nd, os, rfl⟩
  have hle : (fun x y : List UInt8 => !ltOf Go.Lib.compareBytes y x) = fun x y => decide (x ≤ y) := by
    funext x y; rw [ltBy]
    by_cases h : y < x
    · rw [decide_eq_true h, decide_eq_false (List.not_le.2 h)]; rfl
    · rw [decide_eq_false h, decide_eq_true (List.not_lt.1 h)]; rfl
  have hw : sortWorld Go.Proofs.encStr w g 0 nd ((xs.map bytesB).toArray.toList.mergeSort fun x y => !ltOf Go.Lib.compareBytes y x).toArray os = putW w g nd (encStr.enc (sortB xs)) os := by
    unfold sortWorld putW sortB
    rw [putRow_id, encStr_bytes, hle, List.map_toArray]
  rw [hw]
  exact ⟨rfl, hs.sorted hB hr (by rw [encStr_mapB, encStr_mapB, List.length_map, List.length_map, List.length_map, List.length_map, sortB, List.length_map, List.length_mergeSort, List.length_map])⟩
/-! #### each once -/
def compB (xs : List ByteArray) : List ByteArray := (Go.Lib.compact (xs.map bytesB)).map ofB
theorem compB_sort (xs : List ByteArray) : compB (sortB xs) = ordBA xs := by
  unfold compB sortB ordBA
  rw [map_of_bytes]
def layC194_ren : Go.Shelf.Ren := ⟨fun | 0 => 0 | 1 => 1 | 2 => 2 | 106 => 111 | 108 => 107 | 111 => 26 | 113 => 79 | 122 => 96 | 125 => 144 | 128 => 157 | 129 => 158 | 193 => 62 | 194 => 136 | 213 => 139 | 215 => 131 | 216 => 114 | 265 => 146 | 329 => 168 | 330 => 169 | 347 => 177 | 348 => 178 | 349 => 179 | 350 => 180 | 351 => 181 | 352 => 182 | 353 => 183 | 354 => 184 | 355 => 185 | 356 => 186 | 357 => 187 | 358 => 188 | 359 => 189 | 360 => 190 | 361 => 191 | 366 => 192 | n => n, fun | 0 => 0 | 1 => 1 | 2 => 2 | 3 => 3 | 4 => 4 | 5 => 5 | 6 => 6 | 7 => 7 | 8 => 8 | 9 => 9 | 10 => 10 | 11 => 11 | 12 => 12 | 13 => 13 | 14 => 14 | 15 => 15 | 16 => 16 | 17 => 17 | 18 => 18 | 19 => 19 | 20 => 20 | 21 => 21 | 27 => 140 | 28 => 22 | 30 => 134 | 31 => 49 | 34 => 37 | 36 => 106 | 41 => 160 | 43 => 121 | 46 => 144 | 47 => 167 | 51 => 178 | 52 => 177 | 53 => 180 | 54 => 179 | 80 => 197 | 81 => 203 | 100 => 94 | 101 => 87 | 102 => 162 | 104 => 131 | 111 => 117 | 112 => 145 | 114 => 153 | 127 => 207 | 131 => 30 | 132 => 29 | 164 => 212 | 182 => 171 | 183 => 172 | 185 => 31 | 218 => 186 | 219 => 187 | 220 => 188 | 222 => 190 | 228 => 194 | 229 => 155 | 238 => 198 | 239 => 199 | 240 => 200 | 241 => 201 | 242 => 202 | 243 => 204 | 244 => 205 | 245 => 206 | 246 => 208 | 247 => 209 | 248 => 210 | 249 => 211 | n => n, fun n => n⟩
theorem layC194 : Go.Proofs.Lays.n194 Try.prog layC194_ren := { mixed := by kernel_rfl, f194 := Try.func136.trans (congrArg some (by kernel_rfl)), t0 := Try.underlying0, a0 := Try.isAgg0, z0 := Try.sizeOf0, v0 := Try.zeroValue0, t3 := Try.underlying3, a3 := Try.isAgg3, z3 := Try.sizeOf3, v3 := Try.zeroValue3, t4 := Try.underlying4, a4 := Try.isAgg4, z4 := Try.sizeOf4, v4 := Try.zeroValue4, t9 := Try.underlying9, a9 := Try.isAgg9, z9 := Try.sizeOf9, v9 := Try.zeroValue9, t31 := Try.underlying49, a31 := Try.isAgg49, z31 := Try.sizeOf49, v31 := Try.zeroValue49 }

theorem compact_strs (B id : Nat) (a : Option Addr) (n c : Nat) (xs : List ByteArray) (T : TypeId) (H : HL) (w : World) (hB : B ≤ w.heap.size) (hs : Sat B w H) (hr : Hx.look H id = some (.row a n c (encStr.enc xs) T 1)) (hsz : n ≤ 9223372036854775807) :
    Calls Try.prog 136 #[.slice a n c] w fun e w' => e = .returned (.slice a (compB xs).length c) ∧ Below B w w' ∧ Sat B w' ((id, .row a (compB xs).length c (encStr.enc (compB xs)) T 1) :: H) ∧ B ≤ w'.heap.size ∧ Kd (fun _ => False) w w' := by
  have hok := hs.ok id _ hr
  by_cases hn : n = 0
  · subst hn
    obtain rfl : xs = [] := List.eq_nil_of_length_eq_zero (str_len hok)
    have h := Any.slices_Compact_string_empty layC194 a c w
    change Calls Try.prog 136 _ _ _ at h
    refine h.mono ?_
    rintro e w' ⟨rfl, rfl⟩
    have h0 : compB [] = [] := by simp [compB, Go.Lib.compact, Go.Lib.compactUpTo]
    exact ⟨by rw [h0]; rfl, Below.refl _ _, by rw [h0]; exact hs.again hr, hB, Kd.refl _ _⟩
  have hcap : n ≤ c := by
    rcases hok.2 with ⟨h1, h2⟩ | ⟨g, cap', cur, hv, hb, hg, h3, h4, h5⟩
    · omega
    · cases hv; exact h3
  obtain ⟨g, rfl⟩ := row_some hok (by omega)
  have hlen := str_len hok
  subst hlen
  have h2 := row_holds hok
  rw [encStr_mapB, ← List.map_toArray] at h2
  have h := Any.slices_Compact_string layC194 g 0 c (xs.map bytesB) w (holds_id h2) (by rw [List.length_map]; exact hsz) (by rw [List.length_map]; exact hcap)
  rw [List.length_map] at h
  change Calls Try.prog 136 _ _ _ at h
  refine h.mono ?_
  rintro e w' ⟨rfl, q, rfl⟩
  have hcl := compact_len (xs.map bytesB)
  rw [List.length_map] at hcl
  have hw : Go.Sort.putRow Go.Proofs.encStr (Go.Sort.ahead w q) g 0 (Go.Lib.compact (xs.map bytesB) ++ List.replicate (xs.length - (Go.Lib.compact (xs.map bytesB)).length) []).toArray = putW w g q (encStr.enc ((Go.Lib.compact (xs.map bytesB) ++ List.replicate (xs.length - (Go.Lib.compact (xs.map bytesB)).length) []).map ofB)) #[] := by
    unfold putW
    rw [Go.Sort.grow_empty, putRow_id, encStr_bytes, ← List.map_toArray]
  rw [hw]
  have h3 := hs.sorted (nd := q) (os := #[]) (vs' := encStr.enc ((Go.Lib.compact (xs.map bytesB) ++ List.replicate (xs.length - (Go.Lib.compact (xs.map bytesB)).length) []).map ofB)) hB hr (by rw [encStr_bytes, encStr_mapB, List.length_map, List.length_map, List.length_map, List.length_append, List.length_replicate]; omega)
  have hcs : (compB xs).length = (Go.Lib.compact (xs.map bytesB)).length := List.length_map _
  refine ⟨by rw [hcs], h3.1, ?_, h3.2.2⟩
  have h4 := (h3.2.1.cut (id := id) (look_cons_eq _ _ _) (h := (compB xs).length) (by rw [hcs]; exact hcl)).shadow
  have h5 : (encStr.enc ((Go.Lib.compact (xs.map bytesB) ++ List.replicate (xs.length - (Go.Lib.compact (xs.map bytesB)).length) []).map ofB)).take ((compB xs).length * 1) = encStr.enc (compB xs) := by
    rw [List.map_append, Enc.enc_append, Nat.mul_one]
    exact List.take_left' (by rw [encStr_mapB, List.length_map, List.length_map]; rfl)
  rw [h5] at h4
  exact h4
end Go.Proofs.Ytafkojlccknicaa

/-
  The keys of a map, gathered: maps.Keys and slices.Collect.
-/

namespace Go.Proofs.Ytafkojlccknicaa
open Go Go.RowKit Go.Maps Go.Sort Hx
open Go.WideElems (Fit rd rg pl rg_of)
set_option linter.unusedVariables false
set_option linter.unusedSimpArgs false
set_option maxRecDepth 8000
def layK7_ren : Go.Shelf.Ren := ⟨fun | 0 => 0 | 1 => 1 | 2 => 2 | 7 => 110 | 8 => 109 | 10 => 138 | 11 => 137 | 13 => 144 | 23 => 157 | 24 => 158 | 26 => 168 | 27 => 169 | 32 => 177 | 33 => 178 | 34 => 179 | 35 => 180 | 36 => 181 | 37 => 182 | 38 => 183 | 39 => 184 | 40 => 185 | 41 => 186 | 42 => 187 | 43 => 188 | n => n, fun | 0 => 0 | 1 => 1 | 3 => 38 | 4 => 4 | 6 => 6 | 8 => 8 | 9 => 9 | 10 => 10 | 11 => 11 | 14 => 14 | 15 => 15 | 16 => 16 | 17 => 17 | 18 => 18 | 19 => 19 | 22 => 81 | 23 => 81 | 24 => 49 | 25 => 136 | 26 => 9 | 27 => 137 | 28 => 138 | 29 => 139 | 32 => 94 | 33 => 131 | 34 => 163 | 45 => 132 | 51 => 186 | 57 => 194 | 60 => 197 | 62 => 199 | 63 => 200 | 64 => 201 | 65 => 202 | 67 => 204 | 68 => 205 | 71 => 208 | 72 => 209 | 74 => 211 | n => n, fun n => n⟩
theorem layK7 : Go.Proofs.SlLaysZ.n7 Try.prog layK7_ren := { mixed := by kernel_rfl, f7 := ⟨"maps.Keys[map[string][]harrier/api.Best,string,[]harrier/api.Best]", by decide, Try.func110.trans (congrArg some (by kernel_rfl))⟩, f10 := ⟨"maps.Keys[map[string][]harrier/api.Best,string,[]harrier/api.Best]$1", by decide, Try.func138.trans (congrArg some (by kernel_rfl))⟩, t0 := Try.underlying0, a0 := Try.isAgg0, z0 := Try.sizeOf0, v0 := Try.zeroValue0, t4 := Try.underlying4, a4 := Try.isAgg4, z4 := Try.sizeOf4, v4 := Try.zeroValue4, t23 := Try.underlying81, a23 := Try.isAgg81, z23 := Try.sizeOf81, v23 := Try.zeroValue81, t26 := Try.underlying9, a26 := Try.isAgg9, z26 := Try.sizeOf9, v26 := Try.zeroValue9, t27 := Try.underlying137, a27 := Try.isAgg137, z27 := Try.sizeOf137, v27 := Try.zeroValue137, t28 := Try.underlying138, a28 := Try.isAgg138, z28 := Try.sizeOf138, v28 := Try.zeroValue138, t33 := Try.underlying131, a33 := Try.isAgg131, z33 := Try.sizeOf131, v33 := Try.zeroValue131 }

def layK8_ren : Go.Shelf.Ren := ⟨fun | 0 => 0 | 1 => 1 | 2 => 2 | 8 => 109 | 11 => 137 | 13 => 144 | 23 => 157 | 24 => 158 | 26 => 168 | 27 => 169 | 32 => 177 | 33 => 178 | 34 => 179 | 35 => 180 | 36 => 181 | 37 => 182 | 38 => 183 | 39 => 184 | 40 => 185 | 41 => 186 | 42 => 187 | 43 => 188 | 44 => 189 | 45 => 190 | 46 => 191 | 47 => 192 | n => n, fun | 0 => 0 | 1 => 1 | 2 => 2 | 3 => 3 | 4 => 4 | 5 => 5 | 6 => 6 | 7 => 7 | 8 => 8 | 9 => 9 | 10 => 10 | 11 => 11 | 12 => 12 | 13 => 13 | 14 => 14 | 15 => 15 | 16 => 16 | 17 => 17 | 18 => 18 | 19 => 19 | 20 => 20 | 21 => 21 | 24 => 49 | 25 => 136 | 26 => 9 | 27 => 137 | 28 => 138 | 32 => 94 | 33 => 131 | 34 => 163 | 36 => 167 | 37 => 144 | 39 => 171 | 40 => 172 | 45 => 30 | 47 => 177 | 48 => 178 | 49 => 179 | 50 => 180 | 51 => 186 | 52 => 187 | 53 => 188 | 55 => 190 | 57 => 194 | 58 => 155 | 60 => 197 | 61 => 198 | 62 => 199 | 63 => 200 | 64 => 201 | 65 => 202 | 66 => 203 | 67 => 204 | 68 => 205 | 69 => 206 | 70 => 207 | 71 => 208 | 72 => 209 | 73 => 210 | 74 => 211 | 75 => 212 | n => n, fun n => n⟩
theorem layK8 : Go.Proofs.SlLaysZ.n8 Try.prog layK8_ren := { mixed := by kernel_rfl, f8 := ⟨"slices.Collect[string]", by decide, Try.func109.trans (congrArg some (by kernel_rfl))⟩, f11 := ⟨"slices.AppendSeq[[]string,string]", by decide, Try.func137.trans (congrArg some (by kernel_rfl))⟩, t0 := Try.underlying0, a0 := Try.isAgg0, z0 := Try.sizeOf0, v0 := Try.zeroValue0, t24 := Try.underlying49, a24 := Try.isAgg49, z24 := Try.sizeOf49, v24 := Try.zeroValue49, t26 := Try.underlying9, a26 := Try.isAgg9, z26 := Try.sizeOf9, v26 := Try.zeroValue9, t28 := Try.underlying138, a28 := Try.isAgg138, z28 := Try.sizeOf138, v28 := Try.zeroValue138, i26 := by kernel_rfl }

abbrev RU : Value → Option (DataW Unit × List MemPlace) := fun _ => some (.lit (.bool true), [])
theorem keyOf_sB (s : ByteArray) (hs : s.size ≤ maxLen) : keyOf Try.prog 9 (.string s) = some (.string (bytesB s)) := by
  simp [keyOf, Try.underlying9, mapKey, hs, bytesB]
theorem own_map {β : Type} (V : β → Value) (D : List (ByteArray × β)) (b C : Nat) (w : World) (hM : Ob C w b (MapO (pEnc Value.string V D))) (hsz : ∀ k ∈ pKeys D, k.size ≤ maxLen) (hl : D.length ≤ 1000000) (hnd : (pKeys D).Nodup) :
    ∃ D0 : DataW Unit, w.ownsMap Try.prog 9 RU b D.length D0 ∧ ((pKeys D).map bytesB).Perm (strKeys D0) ∧ Maps.size D0 = D.length := by
  obtain ⟨_, o, ho, ents, clock, rfl, he, hb, hbn⟩ := hM
  have hlen : ents.toList.length = D.length := by
    have := congrArg List.length he
    simpa [pEnc] using this
  have hkeys := ents_keys he
  have hkey : ∀ x ∈ ents.toList, ∃ k ∈ pKeys D, x.key = .string k := fun x hx => by
    have : x.key ∈ ents.toList.map (·.key) := List.mem_map.2 ⟨x, hx, rfl⟩
    rw [hkeys] at this
    obtain ⟨k, hk, hk2⟩ := List.mem_map.1 this
    exact ⟨k, hk, hk2.symm⟩
  have hrd : ∀ x ∈ ents.toList, ∀ k, k ∈ pKeys D → x.key = .string k → rd Try.prog 9 RU x = some (.string (bytesB k), .lit (.bool true)) := fun x hx k hk hxk => by
    unfold Go.WideElems.rd; rw [hxk, keyOf_sB k (hsz k hk)]; rfl
  have hF : Fit Try.prog 9 RU ents clock := by
    refine ⟨?_, ⟨hb, hbn, ?_⟩, fun x hx => ?_⟩
    · rw [← Array.length_toList, hlen]; unfold maxLen; omega
    · rw [hkeys]
      exact hnd.map (f := Value.string) (fun a b hab he => hab (by cases he; rfl)) |> fun h => h
    · obtain ⟨k, hk, hxk⟩ := hkey x hx
      exact ⟨_, hrd x hx k hk hxk⟩
  have hown : w.ownsMap Try.prog 9 RU b D.length (.map ((ents.toList.map (rg Try.prog 9 RU)).foldr DataW.insert [])) := ⟨ents, clock, ho, hF, by rw [← Array.length_toList, hlen]; exact Nat.le_refl _, rfl⟩
  refine ⟨_, hown, ?_, ?_⟩
  · obtain ⟨es, hD, hpw, _⟩ := hown.entries (string_keyed Try.underlying9)
    cases hD
    refine perm_strKeys hpw (fun p hp => ?_) ?_ fun x => ?_
    · rw [mem_sorted, List.mem_map] at hp
      obtain ⟨e, he1, rfl⟩ := hp
      obtain ⟨k, hk, hxk⟩ := hkey e he1
      exact ⟨bytesB k, by rw [rg_of (hrd e he1 k hk hxk)]⟩
    · exact hnd.map (f := bytesB) (fun a b hab he => hab (bytesB_inj he)) |> fun h => h
    · rw [has_eq, List.any_eq_true]
      constructor
      · intro hx
        obtain ⟨k, hk, rfl⟩ := List.mem_map.1 hx
        have : Value.string k ∈ ents.toList.map (·.key) := by rw [hkeys]; exact List.mem_map.2 ⟨k, hk, rfl⟩
        obtain ⟨e, he1, he2⟩ := List.mem_map.1 this
        refine ⟨rg Try.prog 9 RU e, mem_sorted.2 (List.mem_map.2 ⟨e, he1, rfl⟩), ?_⟩
        rw [rg_of (hrd e he1 k hk he2)]
        simp [Lit.sameKey]
      · rintro ⟨p, hp, hs⟩
        rw [mem_sorted, List.mem_map] at hp
        obtain ⟨e, he1, rfl⟩ := hp
        obtain ⟨k, hk, hxk⟩ := hkey e he1
        rw [rg_of (hrd e he1 k hk hxk)] at hs
        have : bytesB k = x := by simpa [Lit.sameKey] using hs
        exact List.mem_map.2 ⟨k, hk, this⟩
  · rw [size_eq, ← hlen]
    have hil : ∀ l : List (Lit × DataW Unit), (l.foldr DataW.insert []).length = l.length := by
      intro l
      induction l with
      | nil => rfl
      | cons x r ih =>
        have hi : ∀ (x : Lit × DataW Unit) (l : List (Lit × DataW Unit)), (DataW.insert x l).length = l.length + 1 := by
          intro x l
          induction l with
          | nil => rfl
          | cons y r ih2 => rw [DataW.insert]; split <;> simp [ih2]
        rw [List.foldr_cons, hi, ih]; rfl
    rw [hil, List.length_map]
theorem maps_Keys (b : Nat) (w : World) : Calls Try.prog 110 #[.map (some b)] w fun e w' => ∃ bb T, e = .returned (.func (.func 138) #[] #[.pointer (some ⟨bb, 0, none⟩)]) ∧ Below w.heap.size w w' ∧ Sat w.heap.size w' [(1001, .blk bb [(0, .map (some b))] T)] := by
  refine enterQ (N := 4) (C := fun _ => True) (H := []) (B := w.heap.size) (args := [_]) Try.func110 rfl rfl rfl (Nat.le_refl _) (Sat.nil _ _) fun Q hQ => ?_
  refine wp_seq' fun K1 hK1 => ?_
  refine wp_reg ?_
  refine ol_box 1 rfl rfl rfl fun b1 => ?_
  refine ol_r (r_assign rfl) rfl ?_
  refine ol_nil (to_k0 (fun _ _ h => h) (hK1 _ _ _ _ _ ?_))
  clear hK1
  refine wp_seq' fun K2 hK2 => ?_
  refine wp_reg ?_
  refine ol_r (r_func rfl) rfl ?_
  refine ol_r (r_assign rfl) rfl ?_
  refine ol_nil (to_k0 (fun _ _ h => h) (hK2 _ _ _ _ _ ?_))
  clear hK2
  refine hQ.ret (rvs1 (rv_t rfl)) (fun _ _ h => h) fun w hb hs hB hkd => ?_
  exact ⟨_, _, rfl, hb, hs.one 1 1001 rfl ⟨rfl, rfl, Sub.out (sub_cons rfl sub_nil)⟩⟩
theorem slices_Collect {β : Type} (V : β → Value) (D : List (ByteArray × β)) (b bb : Nat) (w : World) (hM : Ob w.heap.size w b (MapO (pEnc Value.string V D))) (hB : Blk w.heap.size w bb [(0, .map (some b))]) (hsz : ∀ k ∈ pKeys D, k.size ≤ maxLen) (hl : D.length ≤ 1000000) (hnd : (pKeys D).Nodup) :
    Calls Try.prog 109 #[.func (.func 138) #[] #[.pointer (some ⟨bb, 0, none⟩)]] w fun e w' => ∃ a n c xs, e = .returned (.slice a n c) ∧ xs.Perm (pKeys D) ∧ Fresh encStr 9 w w' a n c xs := by
  obtain ⟨D0, hown, hperm, hsize⟩ := own_map V D b _ w hM hsz hl hnd
  refine (callsIn_wide (n := 6)).1 ?_
  have hseq : SeqGives Fence.wide 4 Try.prog 138 #[.pointer (some ⟨bb, 0, none⟩)] Go.Proofs.encStr (fun ss => ss.Perm (strKeys D0)) (Maps.size D0) w :=
    AnyZ.keys_gives (ρ := layK7_ren) { layK7 with } Fence.wide _ trivial rfl (by omega) bb b D.length D0 w hB.1 (hB.2 0 _ rfl) hown
  have h := AnyZ.collect_in layK8 Fence.wide 6 trivial trivial rfl (by omega) 138 #[.pointer (some ⟨bb, 0, none⟩)] trivial (enters_of Try.func138 (by kernel_rfl) rfl) _ _ (by rw [hsize]; unfold maxLen; omega) (by rw [hsize]; omega) w hseq
  refine h.mono ?_
  rintro e w' ⟨v, ss, rfl, hS, hrow, _, hb⟩
  obtain ⟨a, n, c, rfl⟩ : ∃ a n c, v = .slice a n c := by
    rcases hrow.2 with ⟨h1, _⟩ | ⟨g, cap', cur, h1, _⟩
    · exact ⟨_, _, _, h1⟩
    · exact ⟨_, _, _, h1⟩
  have hn : n = ss.length := by
    rcases hrow.2 with ⟨h1, h2⟩ | ⟨g, cap', cur, h1, _⟩
    · cases h1; exact h2.symm
    · cases h1; rfl
  subst hn
  refine ⟨a, _, c, ss.map ofB, rfl, ?_, Below.kit hb, ?_⟩
  · have h2 := (hS.trans hperm.symm).map ofB
    rwa [map_to_bytes] at h2
  · rw [encStr_bytes]; exact hrow
end Go.Proofs.Ytafkojlccknicaa

/-
  Contracts of functions of package slices, at int.
-/


namespace Go.Proofs.Ytafkojlccknicaa
open Go Go.RowKit Hx
set_option linter.unusedVariables false
set_option linter.unusedSimpArgs false

theorem list_ne_of_get {α : Type} {xs ys : List α} {k : Nat} {x y : α} (hx : xs[k]? = some x) (hy : ys[k]? = some y) (h : x ≠ y) : xs ≠ ys := by
  intro e; subst e; rw [hx] at hy; exact h (by cases hy; rfl)
theorem equal_int (a b : Option Addr) (n m c1 c2 : Nat) (xs ys : List Int) (w : World) (hx : Rd encI w.heap.size w a n c1 xs) (hy : Rd encI w.heap.size w b m c2 ys) :
    Calls Try.prog 26 #[.slice a n c1, .slice b m c2] w fun e w' => e = .returned (.bool (decide (xs = ys))) ∧ Below w.heap.size w w' := by
  have hn := hx.len
  have hm := hy.len
  have hf := hx.fit
  refine enterQ (N := 26) (C := fun _ => True) (H := []) (B := w.heap.size) (args := [_, _]) Try.func26 rfl rfl rfl (Nat.le_refl _) (Sat.nil _ _) fun Q hQ => ?_
  refine wp_seq' fun K1 hK1 => ?_
  refine wp_reg ?_
  refine ol_r (r_assign rfl) rfl ?_
  refine ol_nil (to_k0 (fun _ _ h => h) (hK1 _ _ _ _ _ ?_))
  clear hK1
  refine wp_seq' fun K2 hK2 => ?_
  refine wp_seq' fun K3 hK3 => ?_
  refine wp_reg ?_
  refine ol_r (r_move rfl) rfl ?_
  refine ol_r (r_len rfl sl22) rfl ?_
  refine ol_r (r_move rfl) rfl ?_
  refine ol_r (r_len rfl sl22) rfl ?_
  refine ol_r (r_neq rfl rfl) rfl ?_
  refine ol_nil (to_k0 (fun _ _ h => h) (hK3 _ _ _ _ _ ?_))
  clear hK3
  first | refine wp_condD rfl (fun hc10 => ?_) (fun hc10 => ?_) | refine wp_condN rfl (fun hc10 => ?_) (fun hc10 => ?_) | refine wp_condNB rfl (fun hc10 => ?_) (fun hc10 => ?_) | refine wp_cond' rfl (fun hc10 => ?_) (fun hc10 => ?_)
  ·refine wp_seq' fun K4 hK4 => ?_
   refine wp_reg ?_
   refine ol_r (r_assign rfl) rfl ?_
   refine ol_nil (to_k0 (fun _ _ h => h) (hK4 _ _ _ _ _ ?_))
   clear hK4
   refine hQ.ret (rvs1 (rv_t rfl)) (fun _ _ h => h) fun w hb hs hB hkd => ?_
   exact ⟨by rw [decide_eq_false]; intro e; rw [e] at hn; omega, hb⟩
  ·refine wp_skip' (to_k0 (fun _ _ h => h) (hK2 _ _ _ _ _ ?_))
   clear hK2
   refine wp_seq' fun K5 hK5 => ?_
   refine wp_seq' fun K6 hK6 => ?_
   refine wp_reg ?_
   refine ol_r (r_move rfl) rfl ?_
   refine ol_r (r_len rfl sl22) rfl ?_
   refine ol_r (r_move rfl) rfl ?_
   refine ol_nil (to_k0 (fun _ _ h => h) (hK6 _ _ _ _ _ ?_))
   clear hK6
   refine wp_block' ?_
   apply wp_loopM (σ := Nat) (fun s => s ≤ n ∧ xs.take s = ys.take s) (fun s => [(13, .int .i64 s)]) [(0, _), (1, _), (12, _)] (fun s => []) [] (fun s => n - s) (0)
   ·try dsimp only
    simp
   ·exact (sub_cons rfl sub_nil)
   ·exact (sub_cons rfl (sub_cons rfl (sub_cons rfl sub_nil)))
   ·exact subH_nil
   ·exact subH_nil
   ·rintro k ⟨hk, hP⟩
    intro K7 hK7
    refine wp_seq' fun K8 hK8 => ?_
    refine wp_reg ?_
    refine ol_r (r_lss rfl rfl) rfl ?_
    refine ol_nil (to_k0 (fun _ _ h => h) (hK8 _ _ _ _ _ ?_))
    clear hK8
    refine wp_seq' fun K9 hK9 => ?_
    first | refine wp_condD rfl (fun hc14 => ?_) (fun hc14 => ?_) | refine wp_condN rfl (fun hc14 => ?_) (fun hc14 => ?_) | refine wp_condNB rfl (fun hc14 => ?_) (fun hc14 => ?_) | refine wp_cond' rfl (fun hc14 => ?_) (fun hc14 => ?_)
    ·refine wp_skip' (to_k0 (fun _ _ h => h) (hK9 _ _ _ _ _ ?_))
     clear hK9
     refine wp_seq' fun K10 hK10 => ?_
     refine wp_block' ?_
     refine wp_seq' fun K11 hK11 => ?_
     refine wp_reg ?_
     refine ol_r (r_move rfl) rfl ?_
     refine ol_r (r_assign rfl) rfl ?_
     refine ol_nil (to_k0 (fun _ _ h => h) (hK11 _ _ _ _ _ ?_))
     clear hK11
     refine wp_seq' fun K12 hK12 => ?_
     refine wp_regq (by kernel_rfl) (by kernel_rfl) ?_
     refine ql_r (r_move rfl) rfl ?_
     refine ql_r (r_move rfl) rfl ?_
     refine ql_ixr hx rfl rfl sl22 (by omega) rfl fun x18 hx18 => ?_
     try simp only [Int.toNat_natCast] at hx18
     refine ql_r (r_ldw rfl (fun w1 hb1 hs1 hB1 => show Loads _ _ _ _ (.int .i64 x18) from Rd.loads hx ty3 hx18 hb1)) rfl ?_
     refine ql_r (r_move rfl) rfl ?_
     refine ql_r (r_move rfl) rfl ?_
     refine ql_ixr hy rfl rfl sl22 (by omega) rfl fun x22 hx22 => ?_
     try simp only [Int.toNat_natCast] at hx22
     refine ql_r (r_ldw rfl (fun w1 hb1 hs1 hB1 => show Loads _ _ _ _ (.int .i64 x22) from Rd.loads hy ty3 hx22 hb1)) rfl ?_
     refine ql_r (r_neq rfl rfl) rfl ?_
     refine ql_nil (to_k0 (fun _ _ h => h) (hK12 _ _ _ _ _ ?_))
     clear hK12
     first | refine wp_condD rfl (fun hc24 => ?_) (fun hc24 => ?_) | refine wp_condN rfl (fun hc24 => ?_) (fun hc24 => ?_) | refine wp_condNB rfl (fun hc24 => ?_) (fun hc24 => ?_) | refine wp_cond' rfl (fun hc24 => ?_) (fun hc24 => ?_)
     ·refine wp_seq' fun K13 hK13 => ?_
      refine wp_reg ?_
      refine ol_r (r_assign rfl) rfl ?_
      refine ol_nil (to_k0 (fun _ _ h => h) (hK13 _ _ _ _ _ ?_))
      clear hK13
      refine hQ.ret (rvs1 (rv_t rfl)) (fun _ _ h => h) fun w hb hs hB hkd => ?_
      exact ⟨by rw [decide_eq_false (list_ne_of_get hx18 hx22 hc24)], hb⟩
     ·refine wp_skip' (to_k0 (fun _ _ h => h) (hK10 _ _ _ _ _ ?_))
      clear hK10
      refine wp_reg ?_
      refine ol_r (r_add rfl rfl (by omega)) rfl ?_
      refine ol_r (r_move rfl) rfl ?_
      refine ol_nil (to_k0 (fun _ _ h => h) (hK7 (k + 1) _ _ ?_ ?_ (sub_cons rfl sub_nil) (sub_cons rfl (sub_cons rfl (sub_cons rfl sub_nil))) (by exact subH_nil) subH_nil))
      ·try dsimp only
       exact ⟨by omega, by rw [take_succ_get hx18, take_succ_get hx22, hP, Decidable.not_not.1 hc24]⟩
      ·try dsimp only
       omega
    ·refine wp_exit' (to_k0 (fun _ _ h => h) (hK5 _ _ _ _ _ ?_))
     clear hK5
     refine wp_seq' fun K14 hK14 => ?_
     refine wp_reg ?_
     refine ol_r (r_assign rfl) rfl ?_
     refine ol_nil (to_k0 (fun _ _ h => h) (hK14 _ _ _ _ _ ?_))
     clear hK14
     refine hQ.ret (rvs1 (rv_t rfl)) (fun _ _ h => h) fun w hb hs hB hkd => ?_
     have h1 : xs.take k = xs := List.take_of_length_le (by omega)
     have h2 : ys.take k = ys := List.take_of_length_le (by omega)
     exact ⟨by rw [decide_eq_true (by rw [← h1, ← h2]; exact hP)], hb⟩

theorem clone_int (a : Option Addr) (n c1 : Nat) (xs : List Int) (w : World) (hx : Rd encI w.heap.size w a n c1 xs) (hn : n ≤ 17592186044416) :
    Calls Try.prog 102 #[.slice a n c1] w fun e w' => ∃ b m k, e = .returned (.slice b m k) ∧ Fresh encI 3 w w' b m k xs := by
  have hl := hx.len
  refine enterQ (N := 8) (C := fun _ => True) (H := []) (B := w.heap.size) (args := [_]) Try.func102 rfl rfl rfl (Nat.le_refl _) (Sat.nil _ _) fun Q hQ => ?_
  refine wp_seq' fun K1 hK1 => ?_
  refine wp_reg ?_
  refine ol_r (r_assign rfl) rfl ?_
  refine ol_nil (to_k0 (fun _ _ h => h) (hK1 _ _ _ _ _ ?_))
  clear hK1
  refine wp_seq' fun K2 hK2 => ?_
  refine wp_seq' fun K3 hK3 => ?_
  refine wp_reg ?_
  refine ol_r (r_move rfl) rfl ?_
  refine ol_r (r_snil rfl rfl sl22) rfl ?_
  refine ol_nil (to_k0 (fun _ _ h => h) (hK3 _ _ _ _ _ ?_))
  clear hK3
  first | refine wp_condD rfl (fun hc4 => ?_) (fun hc4 => ?_) | refine wp_condN rfl (fun hc4 => ?_) (fun hc4 => ?_) | refine wp_condNB rfl (fun hc4 => ?_) (fun hc4 => ?_) | refine wp_cond' rfl (fun hc4 => ?_) (fun hc4 => ?_)
  ·refine wp_seq' fun K4 hK4 => ?_
   refine wp_reg ?_
   refine ol_r (r_assign rfl) rfl ?_
   refine ol_nil (to_k0 (fun _ _ h => h) (hK4 _ _ _ _ _ ?_))
   clear hK4
   refine hQ.ret (rvs1 (rv_t rfl)) (fun _ _ h => h) fun w hb hs hB hkd => ?_
   have h0 : n = 0 := by
     cases n with
     | zero => rfl
     | succ m => have := hx.isSome (by omega); cases a <;> simp at this hc4
   have : xs = [] := List.eq_nil_of_length_eq_zero (by omega)
   subst this
   exact ⟨none, 0, 0, rfl, Fresh.nil hb⟩
  ·refine wp_skip' (to_k0 (fun _ _ h => h) (hK2 _ _ _ _ _ ?_))
   clear hK2
   refine wp_seq' fun K5 hK5 => ?_
   refine wp_reg ?_
   refine ol_bs0 5 rw22 rfl fun b5 => ?_
   refine ol_r (r_move rfl) rfl ?_
   refine ol_append (id := 5) (news := encI.enc xs) rfl rfl rfl rw22 (by rw [Enc.enc_len, hl]; rfl) (encI.ones_enc xs) (fun w1 hb1 hs1 hB1 => ?_) (by omega) rfl fun a7 c7 => ?_
   · obtain ⟨p, hp⟩ : ∃ p, a = some p := by cases a with | none => simp at hc4 | some p => exact ⟨p, rfl⟩
     exact ⟨p, hp, (hx.below hb1).flat hp⟩
   refine ol_r (r_assign rfl) rfl ?_
   refine ol_nil (to_k0 (fun _ _ h => h) (hK5 _ _ _ _ _ ?_))
   clear hK5
   refine hQ.ret (rvs1 (rv_t rfl)) (fun _ _ h => h) fun w hb hs hB hkd => ?_
   refine ⟨a7, 0 + n, c7, rfl, hb, ?_⟩
   have := hs.ok 5 _ rfl
   exact this

def maxV : List Int → Int
  | [] => 0
  | x :: r => r.foldl max x
def idxI (ys : List Int) (v : Int) : Int := match ys.findIdx? (· == v) with | some i => i | none => -1
theorem idxI_at {ys : List Int} {v : Int} {k : Nat} (h : ys[k]? = some v) (h2 : ∀ y ∈ ys.take k, y ≠ v) : idxI ys v = k := by
  have : ys.findIdx? (· == v) = some k := by
    rw [List.findIdx?_eq_some_iff_getElem]
    have hk := (List.getElem?_eq_some_iff.1 h).1
    refine ⟨hk, by have := (List.getElem?_eq_some_iff.1 h).2; simp [this], fun j hj => ?_⟩
    have : ys[j]'(by omega) ∈ ys.take k := by
      rw [List.mem_take_iff_getElem]
      exact ⟨j, by omega, rfl⟩
    have := h2 _ this
    simpa using this
  simp [idxI, this]
theorem idxI_no {ys : List Int} {v : Int} (h2 : ∀ y ∈ ys, y ≠ v) : idxI ys v = -1 := by
  have : ys.findIdx? (· == v) = none := by
    rw [List.findIdx?_eq_none_iff]
    intro y hy
    simpa using h2 y hy
  simp [idxI, this]

theorem index_int (a : Option Addr) (n c1 : Nat) (xs : List Int) (v : Int) (w : World) (hx : Rd encI w.heap.size w a n c1 xs) :
    Calls Try.prog 107 #[.slice a n c1, .int .i64 v] w fun e w' => e = .returned (.int .i64 (idxI xs v)) ∧ Below w.heap.size w w' := by
  have hl := hx.len
  have hfit := hx.fit
  refine enterQ (N := 19) (C := fun _ => True) (H := []) (B := w.heap.size) (args := [_, _]) Try.func107 rfl rfl rfl (Nat.le_refl _) (Sat.nil _ _) fun Q hQ => ?_
  refine wp_seq' fun K1 hK1 => ?_
  refine wp_reg ?_
  refine ol_r (r_assign rfl) rfl ?_
  refine ol_nil (to_k0 (fun _ _ h => h) (hK1 _ _ _ _ _ ?_))
  clear hK1
  refine wp_seq' fun K2 hK2 => ?_
  refine wp_seq' fun K3 hK3 => ?_
  refine wp_reg ?_
  refine ol_r (r_move rfl) rfl ?_
  refine ol_r (r_len rfl sl22) rfl ?_
  refine ol_r (r_move rfl) rfl ?_
  refine ol_nil (to_k0 (fun _ _ h => h) (hK3 _ _ _ _ _ ?_))
  clear hK3
  refine wp_block' ?_
  apply wp_loopM (σ := Nat) (fun s => s ≤ n ∧ ∀ y ∈ xs.take s, y ≠ v) (fun s => [(8, .int .i64 s)]) [(0, _), (1, _), (7, _)] (fun s => []) [] (fun s => n - s) (0)
  ·try dsimp only
   simp
  ·exact (sub_cons rfl sub_nil)
  ·exact (sub_cons rfl (sub_cons rfl (sub_cons rfl sub_nil)))
  ·exact subH_nil
  ·exact subH_nil
  ·rintro k ⟨hk, hP⟩
   intro K4 hK4
   refine wp_seq' fun K5 hK5 => ?_
   refine wp_reg ?_
   refine ol_r (r_lss rfl rfl) rfl ?_
   refine ol_nil (to_k0 (fun _ _ h => h) (hK5 _ _ _ _ _ ?_))
   clear hK5
   refine wp_seq' fun K6 hK6 => ?_
   first | refine wp_condD rfl (fun hc9 => ?_) (fun hc9 => ?_) | refine wp_condN rfl (fun hc9 => ?_) (fun hc9 => ?_) | refine wp_condNB rfl (fun hc9 => ?_) (fun hc9 => ?_) | refine wp_cond' rfl (fun hc9 => ?_) (fun hc9 => ?_)
   ·refine wp_skip' (to_k0 (fun _ _ h => h) (hK6 _ _ _ _ _ ?_))
    clear hK6
    refine wp_seq' fun K7 hK7 => ?_
    refine wp_block' ?_
    refine wp_seq' fun K8 hK8 => ?_
    refine wp_reg ?_
    refine ol_r (r_move rfl) rfl ?_
    refine ol_r (r_assign rfl) rfl ?_
    refine ol_nil (to_k0 (fun _ _ h => h) (hK8 _ _ _ _ _ ?_))
    clear hK8
    refine wp_seq' fun K9 hK9 => ?_
    refine wp_reg ?_
    refine ol_r (r_move rfl) rfl ?_
    refine ol_r (r_move rfl) rfl ?_
    refine ol_r (r_move rfl) rfl ?_
    refine ol_ixr hx rfl rfl sl22 (by omega) rfl fun x14 hx14 => ?_
    try simp only [Int.toNat_natCast] at hx14
    refine ol_r (r_ldw rfl (fun w1 hb1 hs1 hB1 => show Loads _ _ _ _ (.int .i64 x14) from Rd.loads hx ty3 hx14 hb1)) rfl ?_
    refine ol_r (r_eql rfl rfl) rfl ?_
    refine ol_nil (to_k0 (fun _ _ h => h) (hK9 _ _ _ _ _ ?_))
    clear hK9
    first | refine wp_condD rfl (fun hc16 => ?_) (fun hc16 => ?_) | refine wp_condN rfl (fun hc16 => ?_) (fun hc16 => ?_) | refine wp_condNB rfl (fun hc16 => ?_) (fun hc16 => ?_) | refine wp_cond' rfl (fun hc16 => ?_) (fun hc16 => ?_)
    ·refine wp_seq' fun K10 hK10 => ?_
     refine wp_reg ?_
     refine ol_r (r_move rfl) rfl ?_
     refine ol_r (r_assign rfl) rfl ?_
     refine ol_nil (to_k0 (fun _ _ h => h) (hK10 _ _ _ _ _ ?_))
     clear hK10
     refine hQ.ret (rvs1 (rv_t rfl)) (fun _ _ h => h) fun w hb hs hB hkd => ?_
     exact ⟨by rw [idxI_at (by rw [hc16]; exact hx14) hP], hb⟩
    ·refine wp_skip' (to_k0 (fun _ _ h => h) (hK7 _ _ _ _ _ ?_))
     clear hK7
     refine wp_reg ?_
     refine ol_r (r_add rfl rfl (by omega)) rfl ?_
     refine ol_r (r_move rfl) rfl ?_
     refine ol_nil (to_k0 (fun _ _ h => h) (hK4 (k + 1) _ _ ?_ ?_ (sub_cons rfl sub_nil) (sub_cons rfl (sub_cons rfl (sub_cons rfl sub_nil))) (by exact subH_nil) subH_nil))
     ·try dsimp only
      refine ⟨by omega, fun y hy => ?_⟩
      rw [take_succ_get hx14] at hy
      rcases List.mem_append.1 hy with h | h
      · exact hP y h
      · simp at h; subst h; exact fun e => hc16 e.symm
     ·try dsimp only
      omega
   ·refine wp_exit' (to_k0 (fun _ _ h => h) (hK2 _ _ _ _ _ ?_))
    clear hK2
    refine wp_seq' fun K11 hK11 => ?_
    refine wp_reg ?_
    refine ol_r (r_assign rfl) rfl ?_
    refine ol_nil (to_k0 (fun _ _ h => h) (hK11 _ _ _ _ _ ?_))
    clear hK11
    refine hQ.ret (rvs1 (rv_t rfl)) (fun _ _ h => h) fun w hb hs hB hkd => ?_
    have h1 : xs.take k = xs := List.take_of_length_le (by omega)
    rw [h1] at hP
    exact ⟨by rw [idxI_no hP], hb⟩
end Go.Proofs.Ytafkojlccknicaa

/-
  slices.Clone and slices.Equal of samples, laps and strings.
-/



namespace Go.Proofs.Ytafkojlccknicaa
open Go Go.RowKit Hx
set_option linter.unusedVariables false
set_option linter.unusedSimpArgs false
set_option maxRecDepth 8000
theorem ba_beq (a : ByteArray) : (a == a) = true := by
  first
    | exact beq_self_eq_true a
    | (show (a.data == a.data) = true; exact beq_self_eq_true _)
theorem sEq_refl (a : ByteArray) : sEq a a = true := by unfold sEq; exact beq_self_eq_true _
theorem equal_str_same (a b : Option Addr) (n c1 c2 : Nat) (xs : List ByteArray) (w : World) (hx : Rd encStr w.heap.size w a n c1 xs) (hy : Rd encStr w.heap.size w b n c2 xs) :
    Calls Try.prog 62 #[.slice a n c1, .slice b n c2] w fun e w' => e = .returned (.bool true) ∧ Below w.heap.size w w' := by
  have hn := hx.len
  have hf := hx.fit
  refine enterQ (N := 26) (C := fun _ => True) (H := []) (B := w.heap.size) (args := [_, _]) Try.func62 rfl rfl rfl (Nat.le_refl _) (Sat.nil _ _) fun Q hQ => ?_
  refine wp_seq' fun K1 hK1 => ?_
  refine wp_reg ?_
  refine ol_r (r_assign rfl) rfl ?_
  refine ol_nil (to_k0 (fun _ _ h => h) (hK1 _ _ _ _ _ ?_))
  clear hK1
  refine wp_seq' fun K2 hK2 => ?_
  refine wp_seq' fun K3 hK3 => ?_
  refine wp_reg ?_
  refine ol_r (r_move rfl) rfl ?_
  refine ol_r (r_len rfl sl49) rfl ?_
  refine ol_r (r_move rfl) rfl ?_
  refine ol_r (r_len rfl sl49) rfl ?_
  refine ol_r (r_neq rfl rfl) rfl ?_
  refine ol_nil (to_k0 (fun _ _ h => h) (hK3 _ _ _ _ _ ?_))
  clear hK3
  refine wp_condD rfl (fun hc10 => ?_) (fun hc10 => ?_)
  ·refine wp_seq' fun K4 hK4 => ?_
   refine wp_reg ?_
   refine ol_r (r_assign rfl) rfl ?_
   refine ol_nil (to_k0 (fun _ _ h => h) (hK4 _ _ _ _ _ ?_))
   clear hK4
   refine hQ.ret (rvs1 (rv_t rfl)) (fun _ _ h => h) fun w hb hs hB hkd => ?_
   first
     | (exfalso; omega)
  ·refine wp_skip' (to_k0 (fun _ _ h => h) (hK2 _ _ _ _ _ ?_))
   clear hK2
   refine wp_seq' fun K5 hK5 => ?_
   refine wp_seq' fun K6 hK6 => ?_
   refine wp_reg ?_
   refine ol_r (r_move rfl) rfl ?_
   refine ol_r (r_len rfl sl49) rfl ?_
   refine ol_r (r_move rfl) rfl ?_
   refine ol_nil (to_k0 (fun _ _ h => h) (hK6 _ _ _ _ _ ?_))
   clear hK6
   refine wp_block' ?_
   apply wp_loopM (σ := Nat) (fun s => s ≤ n) (fun s => [(13, .int .i64 s)]) [(0, _), (1, _), (12, _)] (fun s => []) [] (fun s => n - s) (0)
   ·try dsimp only
    simp
   ·exact (sub_cons rfl sub_nil)
   ·exact (sub_cons rfl (sub_cons rfl (sub_cons rfl sub_nil)))
   ·exact subH_nil
   ·exact subH_nil
   ·intro k hk
    intro K7 hK7
    refine wp_seq' fun K8 hK8 => ?_
    refine wp_reg ?_
    refine ol_r (r_lss rfl rfl) rfl ?_
    refine ol_nil (to_k0 (fun _ _ h => h) (hK8 _ _ _ _ _ ?_))
    clear hK8
    refine wp_seq' fun K9 hK9 => ?_
    refine wp_condD rfl (fun hc14 => ?_) (fun hc14 => ?_)
    ·refine wp_skip' (to_k0 (fun _ _ h => h) (hK9 _ _ _ _ _ ?_))
     clear hK9
     refine wp_seq' fun K10 hK10 => ?_
     refine wp_block' ?_
     refine wp_seq' fun K11 hK11 => ?_
     refine wp_reg ?_
     refine ol_r (r_move rfl) rfl ?_
     refine ol_r (r_assign rfl) rfl ?_
     refine ol_nil (to_k0 (fun _ _ h => h) (hK11 _ _ _ _ _ ?_))
     clear hK11
     refine wp_seq' fun K12 hK12 => ?_
     refine wp_regq (by kernel_rfl) (by kernel_rfl) ?_
     refine ql_r (r_move rfl) rfl ?_
     refine ql_r (r_move rfl) rfl ?_
     refine ql_ixr hx rfl rfl sl49 (by omega) rfl fun x18 hx18 => ?_
     try simp only [Int.toNat_natCast] at hx18
     refine ql_r (r_ldw rfl (fun w1 hb1 hs1 hB1 => Rd.loads hx ty9 hx18 hb1)) rfl ?_
     refine ql_r (r_move rfl) rfl ?_
     refine ql_r (r_move rfl) rfl ?_
     refine ql_ixr hy rfl rfl sl49 (by omega) rfl fun x22 hx22 => ?_
     try simp only [Int.toNat_natCast] at hx22
     have h22 : x22 = x18 := by rw [hx18] at hx22; cases hx22; rfl
     subst h22
     refine ql_r (r_ldw rfl (fun w1 hb1 hs1 hB1 => Rd.loads hy ty9 hx22 hb1)) rfl ?_
     refine ql_r (r_sneq rfl rfl) rfl ?_
     refine ql_nil (to_k0 (fun _ _ h => h) (hK12 _ _ _ _ _ ?_))
     clear hK12
     refine wp_condNB rfl (fun hc24 => ?_) (fun hc24 => ?_)
     ·refine wp_seq' fun K13 hK13 => ?_
      refine wp_reg ?_
      refine ol_r (r_assign rfl) rfl ?_
      refine ol_nil (to_k0 (fun _ _ h => h) (hK13 _ _ _ _ _ ?_))
      clear hK13
      refine hQ.ret (rvs1 (rv_t rfl)) (fun _ _ h => h) fun w hb hs hB hkd => ?_
      first
        | (exfalso; rw [sEq_refl] at hc24; cases hc24; done)
     ·refine wp_skip' (to_k0 (fun _ _ h => h) (hK10 _ _ _ _ _ ?_))
      clear hK10
      refine wp_reg ?_
      refine ol_r (r_add rfl rfl (by omega)) rfl ?_
      refine ol_r (r_move rfl) rfl ?_
      refine ol_nil (to_k0 (fun _ _ h => h) (hK7 (k + 1) _ _ ?_ ?_ (sub_cons rfl sub_nil) (sub_cons rfl (sub_cons rfl (sub_cons rfl sub_nil))) (by exact subH_nil) subH_nil))
      ·try dsimp only
       omega
      ·try dsimp only
       omega
    ·refine wp_exit' (to_k0 (fun _ _ h => h) (hK5 _ _ _ _ _ ?_))
     clear hK5
     refine wp_seq' fun K14 hK14 => ?_
     refine wp_reg ?_
     refine ol_r (r_assign rfl) rfl ?_
     refine ol_nil (to_k0 (fun _ _ h => h) (hK14 _ _ _ _ _ ?_))
     clear hK14
     refine hQ.ret (rvs1 (rv_t rfl)) (fun _ _ h => h) fun w hb hs hB hkd => ?_
     first
       | exact ⟨rfl, hb⟩
end Go.Proofs.Ytafkojlccknicaa

/-
  Segments. No program stands here.
-/

namespace Go.Proofs.Ytafkojlccknicaa
set_option linter.unusedVariables false
structure GateR where
  ax : Int
  ay : Int
  bx : Int
  by_ : Int
def ptB (x y : Int) : Bool := inB x (-100000000) 100000000 && inB y (-100000000) 100000000
def fG (_ : Option GateR) (g : GateR) : Int := if ptB g.ax g.ay = false ∨ ptB g.bx g.by_ = false then 9 else if g.ax = g.bx ∧ g.ay = g.by_ then 2 else 0
def chkSeg (nm : ByteArray) (gs : List GateR) : Int := if nameB nm = false then 8 else if inB gs.length 2 50 = false then 3 else chkE fG none gs
theorem chkSeg_g {nm : ByteArray} {gs : List GateR} (h : nameB nm = true) (h2 : inB gs.length 2 50 = true) : chkSeg nm gs = chkE fG none gs := by unfold chkSeg; rw [if_neg (by simp [h]), if_neg (by simp [h2])]
theorem chkE_zero {α : Type} {f : Option α → α → Int} {xs : List α} (h : ∀ x ∈ xs, ∀ p, f p x = 0) : chkE f none xs = 0 := by
  have key : ∀ (l : List α) (p : Option α), (∀ x ∈ l, ∀ p, f p x = 0) → chkE f p l = 0 := by
    intro l
    induction l with
    | nil => intro p _; rfl
    | cons x r ih =>
      intro p h
      rw [chkE_cons, h x (by simp) p, if_neg (by simp)]
      exact ih _ fun y hy => h y (by simp [hy])
  exact key xs none h
structure SegOk (nm : ByteArray) (gs : List GateR) : Prop where
  nm : nameB nm = true
  len : 2 ≤ gs.length ∧ gs.length ≤ 50
  g : ∀ x ∈ gs, (∀ p, fG p x = 0)
theorem SegOk.chk {nm : ByteArray} {gs : List GateR} (h : SegOk nm gs) : chkSeg nm gs = 0 := by
  rw [chkSeg_g h.nm (inB_iff.2 (by have := h.len; omega))]
  exact chkE_zero h.g
def GateR.flip (g : GateR) : GateR := ⟨g.bx, g.by_, g.ax, g.ay⟩
def turnL (gs : List GateR) : List GateR := (gs.map GateR.flip).reverse
def turnR (nm : ByteArray) (gs : List GateR) : ByteArray × List GateR × Int := if chkSeg nm gs ≠ 0 then (ByteArray.empty, [], chkSeg nm gs) else (nm, turnL gs, 0)
/-- The first k of the gates, from the back. -/
def turnK (gs : List GateR) (k : Nat) : List GateR := (turnL gs).take k
/-- What Backward yields. -/
def backP (gs : List GateR) : List (Int × GateR) := (((List.range gs.length).map fun (i : Nat) => (i : Int)).zip gs).reverse
end Go.Proofs.Ytafkojlccknicaa

/-
  A list the other way round. No program stands here.
-/

namespace Go.Proofs.Ytafkojlccknicaa
set_option linter.unusedVariables false
def Rv {α : Type} (xs : List α) (k : Nat) (zs : List α) : Prop := zs.length = xs.length ∧ ∀ j, j < xs.length → zs[j]? = xs[if j < k ∨ xs.length - 1 - j < k then xs.length - 1 - j else j]?
theorem Rv.start {α : Type} (xs : List α) : Rv xs 0 xs := ⟨rfl, fun j _ => by rw [if_neg (by omega)]⟩
theorem Rv.step {α : Type} {xs zs : List α} {k : Nat} {x y : α} (h : Rv xs k zs) (hx : zs[k]? = some x) (hy : zs[xs.length - 1 - k]? = some y) (hk : k < xs.length - 1 - k) : Rv xs (k + 1) ((zs.set k y).set (xs.length - 1 - k) x) := by
  refine ⟨by simp [h.1], fun j hj => ?_⟩
  have h1 := h.2 k (by omega)
  have h2 := h.2 (xs.length - 1 - k) (by omega)
  rw [hx, if_neg (by omega)] at h1
  rw [hy, if_neg (by omega)] at h2
  have h3 := h.2 j hj
  rw [List.getElem?_set, List.getElem?_set]
  by_cases e1 : xs.length - 1 - k = j
  · rw [if_pos e1, if_pos (by rw [List.length_set, h.1]; exact e1 ▸ hj), if_pos (by omega), show xs.length - 1 - j = k by omega]; exact h1
  · rw [if_neg e1]
    by_cases e2 : k = j
    · rw [if_pos e2, if_pos (by rw [h.1]; omega), if_pos (by omega), ← e2]; exact h2
    · rw [if_neg e2, h3]
      by_cases e3 : j < k ∨ xs.length - 1 - j < k
      · rw [if_pos e3, if_pos (by omega)]
      · rw [if_neg e3, if_neg (by omega)]
theorem Rv.stop {α : Type} {xs zs : List α} {k : Nat} (h : Rv xs k zs) (hk : xs.length ≤ 2 * k + 1) : zs = xs.reverse := by
  refine List.ext_getElem? fun j => ?_
  by_cases hj : j < xs.length
  · rw [h.2 j hj, List.getElem?_reverse hj]
    by_cases e : j < k ∨ xs.length - 1 - j < k
    · rw [if_pos e]
    · rw [if_neg e]; congr 1; omega
  · rw [List.getElem?_eq_none (by rw [h.1]; omega), List.getElem?_eq_none (by rw [List.length_reverse]; omega)]
end Go.Proofs.Ytafkojlccknicaa

/-
  Books: what is copied, compared, looked up and turned around.
-/




namespace Go.Proofs.Ytafkojlccknicaa
open Go Go.RowKit Hx
set_option linter.unusedVariables false
set_option linter.unusedSimpArgs false
set_option maxRecDepth 8000
def encHold : Enc HoldR := { size := 4, cells := fun x => [.int .i64 x.size, .int .i64 x.sum, .int .i64 x.at_, .string x.name], val := fun x => .agg #[.int .i64 x.size, .int .i64 x.sum, .int .i64 x.at_, .string x.name], len := fun _ => rfl, ones := fun _ u h => (by simp at h; rcases h with h | h | h | h <;> subst h <;> rfl), pos := by decide, vc := fun _ => rfl }
theorem ty92 : Ty Try.prog 92 encHold := .inr ⟨ag92, fun _ => rfl⟩
theorem clone_best (a : Option Addr) (n c1 : Nat) (xs : List BestR) (w : World) (hx : Rd encBest w.heap.size w a n c1 xs) (hn : n ≤ 4398046511104) :
    Calls Try.prog 104 #[.slice a n c1] w fun e w' => ∃ b m k, e = .returned (.slice b m k) ∧ Fresh encBest 24 w w' b m k xs := by
  have hl := hx.len
  refine enterQ (N := 8) (C := fun _ => True) (H := []) (B := w.heap.size) (args := [_]) Try.func104 rfl rfl rfl (Nat.le_refl _) (Sat.nil _ _) fun Q hQ => ?_
  refine wp_seq' fun K1 hK1 => ?_
  refine wp_reg ?_
  refine ol_r (r_assign rfl) rfl ?_
  refine ol_nil (to_k0 (fun _ _ h => h) (hK1 _ _ _ _ _ ?_))
  clear hK1
  refine wp_seq' fun K2 hK2 => ?_
  refine wp_seq' fun K3 hK3 => ?_
  refine wp_reg ?_
  refine ol_r (r_move rfl) rfl ?_
  refine ol_r (r_snil rfl rfl sl38) rfl ?_
  refine ol_nil (to_k0 (fun _ _ h => h) (hK3 _ _ _ _ _ ?_))
  clear hK3
  first | refine wp_condD rfl (fun hc4 => ?_) (fun hc4 => ?_) | refine wp_condN rfl (fun hc4 => ?_) (fun hc4 => ?_) | refine wp_condNB rfl (fun hc4 => ?_) (fun hc4 => ?_) | refine wp_cond' rfl (fun hc4 => ?_) (fun hc4 => ?_)
  ·refine wp_seq' fun K4 hK4 => ?_
   refine wp_reg ?_
   refine ol_r (r_assign rfl) rfl ?_
   refine ol_nil (to_k0 (fun _ _ h => h) (hK4 _ _ _ _ _ ?_))
   clear hK4
   refine hQ.ret (rvs1 (rv_t rfl)) (fun _ _ h => h) fun w hb hs hB hkd => ?_
   have h0 : n = 0 := by
     cases n with
     | zero => rfl
     | succ m => have := hx.isSome (by omega); cases a <;> simp at this hc4
   have : xs = [] := List.eq_nil_of_length_eq_zero (by omega)
   subst this
   exact ⟨none, 0, 0, rfl, Fresh.nil hb⟩
  ·refine wp_skip' (to_k0 (fun _ _ h => h) (hK2 _ _ _ _ _ ?_))
   clear hK2
   refine wp_seq' fun K5 hK5 => ?_
   refine wp_reg ?_
   refine ol_bs0 5 rw38 rfl fun b5 => ?_
   refine ol_r (r_move rfl) rfl ?_
   refine ol_append (id := 5) (news := encBest.enc xs) rfl rfl rfl rw38 (by rw [Enc.enc_len, hl]; rfl) (encBest.ones_enc xs) (fun w1 hb1 hs1 hB1 => ?_) (by omega) rfl fun a7 c7 => ?_
   · obtain ⟨p, hp⟩ : ∃ p, a = some p := by cases a with | none => simp at hc4 | some p => exact ⟨p, rfl⟩
     exact ⟨p, hp, (hx.below hb1).flat hp⟩
   refine ol_r (r_assign rfl) rfl ?_
   refine ol_nil (to_k0 (fun _ _ h => h) (hK5 _ _ _ _ _ ?_))
   clear hK5
   refine hQ.ret (rvs1 (rv_t rfl)) (fun _ _ h => h) fun w hb hs hB hkd => ?_
   refine ⟨a7, 0 + n, c7, rfl, hb, ?_⟩
   have := hs.ok 5 _ rfl
   exact this
theorem same_int (a b : Option Addr) (n m c1 c2 : Nat) (xs ys : List Int) (w : World) (hx : Rd encI w.heap.size w a n c1 xs) (hy : Rd encI w.heap.size w b m c2 ys) :
    Calls Try.prog 106 #[.slice a n c1, .slice b m c2] w fun e w' => e = .returned (.bool (decide (xs = ys))) ∧ Below w.heap.size w w' := by
  have hn := hx.len
  have hm := hy.len
  have hf := hx.fit
  refine enterQ (N := 26) (C := fun _ => True) (H := []) (B := w.heap.size) (args := [_, _]) Try.func106 rfl rfl rfl (Nat.le_refl _) (Sat.nil _ _) fun Q hQ => ?_
  refine wp_seq' fun K1 hK1 => ?_
  refine wp_reg ?_
  refine ol_r (r_assign rfl) rfl ?_
  refine ol_nil (to_k0 (fun _ _ h => h) (hK1 _ _ _ _ _ ?_))
  clear hK1
  refine wp_seq' fun K2 hK2 => ?_
  refine wp_seq' fun K3 hK3 => ?_
  refine wp_reg ?_
  refine ol_r (r_move rfl) rfl ?_
  refine ol_r (r_len rfl sl22) rfl ?_
  refine ol_r (r_move rfl) rfl ?_
  refine ol_r (r_len rfl sl22) rfl ?_
  refine ol_r (r_neq rfl rfl) rfl ?_
  refine ol_nil (to_k0 (fun _ _ h => h) (hK3 _ _ _ _ _ ?_))
  clear hK3
  first | refine wp_condD rfl (fun hc10 => ?_) (fun hc10 => ?_) | refine wp_condN rfl (fun hc10 => ?_) (fun hc10 => ?_) | refine wp_condNB rfl (fun hc10 => ?_) (fun hc10 => ?_) | refine wp_cond' rfl (fun hc10 => ?_) (fun hc10 => ?_)
  ·refine wp_seq' fun K4 hK4 => ?_
   refine wp_reg ?_
   refine ol_r (r_assign rfl) rfl ?_
   refine ol_nil (to_k0 (fun _ _ h => h) (hK4 _ _ _ _ _ ?_))
   clear hK4
   refine hQ.ret (rvs1 (rv_t rfl)) (fun _ _ h => h) fun w hb hs hB hkd => ?_
   exact ⟨by rw [decide_eq_false]; intro e; rw [e] at hn; omega, hb⟩
  ·refine wp_skip' (to_k0 (fun _ _ h => h) (hK2 _ _ _ _ _ ?_))
   clear hK2
   refine wp_seq' fun K5 hK5 => ?_
   refine wp_seq' fun K6 hK6 => ?_
   refine wp_reg ?_
   refine ol_r (r_move rfl) rfl ?_
   refine ol_r (r_len rfl sl22) rfl ?_
   refine ol_r (r_move rfl) rfl ?_
   refine ol_nil (to_k0 (fun _ _ h => h) (hK6 _ _ _ _ _ ?_))
   clear hK6
   refine wp_block' ?_
   apply wp_loopM (σ := Nat) (fun s => s ≤ n ∧ xs.take s = ys.take s) (fun s => [(13, .int .i64 s)]) [(0, _), (1, _), (12, _)] (fun s => []) [] (fun s => n - s) (0)
   ·try dsimp only
    simp
   ·exact (sub_cons rfl sub_nil)
   ·exact (sub_cons rfl (sub_cons rfl (sub_cons rfl sub_nil)))
   ·exact subH_nil
   ·exact subH_nil
   ·rintro k ⟨hk, hP⟩
    intro K7 hK7
    refine wp_seq' fun K8 hK8 => ?_
    refine wp_reg ?_
    refine ol_r (r_lss rfl rfl) rfl ?_
    refine ol_nil (to_k0 (fun _ _ h => h) (hK8 _ _ _ _ _ ?_))
    clear hK8
    refine wp_seq' fun K9 hK9 => ?_
    first | refine wp_condD rfl (fun hc14 => ?_) (fun hc14 => ?_) | refine wp_condN rfl (fun hc14 => ?_) (fun hc14 => ?_) | refine wp_condNB rfl (fun hc14 => ?_) (fun hc14 => ?_) | refine wp_cond' rfl (fun hc14 => ?_) (fun hc14 => ?_)
    ·refine wp_skip' (to_k0 (fun _ _ h => h) (hK9 _ _ _ _ _ ?_))
     clear hK9
     refine wp_seq' fun K10 hK10 => ?_
     refine wp_block' ?_
     refine wp_seq' fun K11 hK11 => ?_
     refine wp_reg ?_
     refine ol_r (r_move rfl) rfl ?_
     refine ol_r (r_assign rfl) rfl ?_
     refine ol_nil (to_k0 (fun _ _ h => h) (hK11 _ _ _ _ _ ?_))
     clear hK11
     refine wp_seq' fun K12 hK12 => ?_
     refine wp_regq (by kernel_rfl) (by kernel_rfl) ?_
     refine ql_r (r_move rfl) rfl ?_
     refine ql_r (r_move rfl) rfl ?_
     refine ql_ixr hx rfl rfl sl22 (by omega) rfl fun x18 hx18 => ?_
     try simp only [Int.toNat_natCast] at hx18
     refine ql_r (r_ldw rfl (fun w1 hb1 hs1 hB1 => show Loads _ _ _ _ (.int .i64 x18) from Rd.loads hx ty3 hx18 hb1)) rfl ?_
     refine ql_r (r_move rfl) rfl ?_
     refine ql_r (r_move rfl) rfl ?_
     refine ql_ixr hy rfl rfl sl22 (by omega) rfl fun x22 hx22 => ?_
     try simp only [Int.toNat_natCast] at hx22
     refine ql_r (r_ldw rfl (fun w1 hb1 hs1 hB1 => show Loads _ _ _ _ (.int .i64 x22) from Rd.loads hy ty3 hx22 hb1)) rfl ?_
     refine ql_r (r_neq rfl rfl) rfl ?_
     refine ql_nil (to_k0 (fun _ _ h => h) (hK12 _ _ _ _ _ ?_))
     clear hK12
     first | refine wp_condD rfl (fun hc24 => ?_) (fun hc24 => ?_) | refine wp_condN rfl (fun hc24 => ?_) (fun hc24 => ?_) | refine wp_condNB rfl (fun hc24 => ?_) (fun hc24 => ?_) | refine wp_cond' rfl (fun hc24 => ?_) (fun hc24 => ?_)
     ·refine wp_seq' fun K13 hK13 => ?_
      refine wp_reg ?_
      refine ol_r (r_assign rfl) rfl ?_
      refine ol_nil (to_k0 (fun _ _ h => h) (hK13 _ _ _ _ _ ?_))
      clear hK13
      refine hQ.ret (rvs1 (rv_t rfl)) (fun _ _ h => h) fun w hb hs hB hkd => ?_
      exact ⟨by rw [decide_eq_false (list_ne_of_get hx18 hx22 hc24)], hb⟩
     ·refine wp_skip' (to_k0 (fun _ _ h => h) (hK10 _ _ _ _ _ ?_))
      clear hK10
      refine wp_reg ?_
      refine ol_r (r_add rfl rfl (by omega)) rfl ?_
      refine ol_r (r_move rfl) rfl ?_
      refine ol_nil (to_k0 (fun _ _ h => h) (hK7 (k + 1) _ _ ?_ ?_ (sub_cons rfl sub_nil) (sub_cons rfl (sub_cons rfl (sub_cons rfl sub_nil))) (by exact subH_nil) subH_nil))
      ·try dsimp only
       exact ⟨by omega, by rw [take_succ_get hx18, take_succ_get hx22, hP, Decidable.not_not.1 hc24]⟩
      ·try dsimp only
       omega
    ·refine wp_exit' (to_k0 (fun _ _ h => h) (hK5 _ _ _ _ _ ?_))
     clear hK5
     refine wp_seq' fun K14 hK14 => ?_
     refine wp_reg ?_
     refine ol_r (r_assign rfl) rfl ?_
     refine ol_nil (to_k0 (fun _ _ h => h) (hK14 _ _ _ _ _ ?_))
     clear hK14
     refine hQ.ret (rvs1 (rv_t rfl)) (fun _ _ h => h) fun w hb hs hB hkd => ?_
     have h1 : xs.take k = xs := List.take_of_length_le (by omega)
     have h2 : ys.take k = ys := List.take_of_length_le (by omega)
     exact ⟨by rw [decide_eq_true (by rw [← h1, ← h2]; exact hP)], hb⟩
theorem idxI_eq (zs : List Int) (z : Int) : idxI zs z = match idxZ zs z with | some i => (i : Int) | none => -1 := by
  have : (fun y : Int => y == z) = fun y => decide (y = z) := by funext y; rw [Bool.eq_iff_iff]; simp
  rw [idxI, idxZ, this]
  all_goals (cases zs.findIdx? (fun y => decide (y = z)) <;> rfl)
theorem equal_hold_same (a b : Option Addr) (n c1 c2 : Nat) (xs : List HoldR) (w : World) (hx : Rd encHold w.heap.size w a n c1 xs) (hy : Rd encHold w.heap.size w b n c2 xs) :
    Calls Try.prog 65 #[.slice a n c1, .slice b n c2] w fun e w' => e = .returned (.bool true) ∧ Below w.heap.size w w' := by
  have hn := hx.len
  have hf := hx.fit
  refine enterQ (N := 26) (C := fun _ => True) (H := []) (B := w.heap.size) (args := [_, _]) Try.func65 rfl rfl rfl (Nat.le_refl _) (Sat.nil _ _) fun Q hQ => ?_
  refine wp_seq' fun K1 hK1 => ?_
  refine wp_reg ?_
  refine ol_r (r_assign rfl) rfl ?_
  refine ol_nil (to_k0 (fun _ _ h => h) (hK1 _ _ _ _ _ ?_))
  clear hK1
  refine wp_seq' fun K2 hK2 => ?_
  refine wp_seq' fun K3 hK3 => ?_
  refine wp_reg ?_
  refine ol_r (r_move rfl) rfl ?_
  refine ol_r (r_len rfl sl90) rfl ?_
  refine ol_r (r_move rfl) rfl ?_
  refine ol_r (r_len rfl sl90) rfl ?_
  refine ol_r (r_neq rfl rfl) rfl ?_
  refine ol_nil (to_k0 (fun _ _ h => h) (hK3 _ _ _ _ _ ?_))
  clear hK3
  first | refine wp_condD rfl (fun hc10 => ?_) (fun hc10 => ?_) | refine wp_condN rfl (fun hc10 => ?_) (fun hc10 => ?_) | refine wp_condNB rfl (fun hc10 => ?_) (fun hc10 => ?_) | refine wp_cond' rfl (fun hc10 => ?_) (fun hc10 => ?_)
  ·refine wp_seq' fun K4 hK4 => ?_
   refine wp_reg ?_
   refine ol_r (r_assign rfl) rfl ?_
   refine ol_nil (to_k0 (fun _ _ h => h) (hK4 _ _ _ _ _ ?_))
   clear hK4
   refine hQ.ret (rvs1 (rv_t rfl)) (fun _ _ h => h) fun w hb hs hB hkd => ?_
   first
     | exact ⟨rfl, hb⟩
     | (exfalso; omega)
     | (exfalso; simp at hc10; done)
     | (exfalso; simp only [eqs, eqV, encHold, ba_beq, decide_true, Bool.and_self, Bool.not_true] at hc24; cases hc24; done)
  ·refine wp_skip' (to_k0 (fun _ _ h => h) (hK2 _ _ _ _ _ ?_))
   clear hK2
   refine wp_seq' fun K5 hK5 => ?_
   refine wp_seq' fun K6 hK6 => ?_
   refine wp_reg ?_
   refine ol_r (r_move rfl) rfl ?_
   refine ol_r (r_len rfl sl90) rfl ?_
   refine ol_r (r_move rfl) rfl ?_
   refine ol_nil (to_k0 (fun _ _ h => h) (hK6 _ _ _ _ _ ?_))
   clear hK6
   refine wp_block' ?_
   apply wp_loopM (σ := Nat) (fun s => s ≤ n) (fun s => [(13, .int .i64 s)]) [(0, _), (1, _), (12, _)] (fun s => []) [] (fun s => n - s) (0)
   ·try dsimp only
    simp
   ·exact (sub_cons rfl sub_nil)
   ·exact (sub_cons rfl (sub_cons rfl (sub_cons rfl sub_nil)))
   ·exact subH_nil
   ·exact subH_nil
   ·intro k hk
    intro K7 hK7
    refine wp_seq' fun K8 hK8 => ?_
    refine wp_reg ?_
    refine ol_r (r_lss rfl rfl) rfl ?_
    refine ol_nil (to_k0 (fun _ _ h => h) (hK8 _ _ _ _ _ ?_))
    clear hK8
    refine wp_seq' fun K9 hK9 => ?_
    first | refine wp_condD rfl (fun hc14 => ?_) (fun hc14 => ?_) | refine wp_condN rfl (fun hc14 => ?_) (fun hc14 => ?_) | refine wp_condNB rfl (fun hc14 => ?_) (fun hc14 => ?_) | refine wp_cond' rfl (fun hc14 => ?_) (fun hc14 => ?_)
    ·refine wp_skip' (to_k0 (fun _ _ h => h) (hK9 _ _ _ _ _ ?_))
     clear hK9
     refine wp_seq' fun K10 hK10 => ?_
     refine wp_block' ?_
     refine wp_seq' fun K11 hK11 => ?_
     refine wp_reg ?_
     refine ol_r (r_move rfl) rfl ?_
     refine ol_r (r_assign rfl) rfl ?_
     refine ol_nil (to_k0 (fun _ _ h => h) (hK11 _ _ _ _ _ ?_))
     clear hK11
     refine wp_seq' fun K12 hK12 => ?_
     refine wp_regq (by kernel_rfl) (by kernel_rfl) ?_
     refine ql_r (r_move rfl) rfl ?_
     refine ql_r (r_move rfl) rfl ?_
     refine ql_ixr hx rfl rfl sl90 (by omega) rfl fun x18 hx18 => ?_
     try simp only [Int.toNat_natCast] at hx18
     refine ql_r (r_ldw rfl (fun w1 hb1 hs1 hB1 => Rd.loads hx ty92 hx18 hb1)) rfl ?_
     refine ql_r (r_move rfl) rfl ?_
     refine ql_r (r_move rfl) rfl ?_
     refine ql_ixr hy rfl rfl sl90 (by omega) rfl fun x22 hx22 => ?_
     try simp only [Int.toNat_natCast] at hx22
     have h22 : x22 = x18 := by rw [hx18] at hx22; cases hx22; rfl
     subst h22
     refine ql_r (r_ldw rfl (fun w1 hb1 hs1 hB1 => Rd.loads hy ty92 hx22 hb1)) rfl ?_
     refine ql_r (r_nes rfl rfl (by kernel_rfl) (fun w => run_eqs (by kernel_rfl) (by kernel_rfl) w)) rfl ?_
     refine ql_nil (to_k0 (fun _ _ h => h) (hK12 _ _ _ _ _ ?_))
     clear hK12
     first | refine wp_condD rfl (fun hc24 => ?_) (fun hc24 => ?_) | refine wp_condN rfl (fun hc24 => ?_) (fun hc24 => ?_) | refine wp_condNB rfl (fun hc24 => ?_) (fun hc24 => ?_) | refine wp_cond' rfl (fun hc24 => ?_) (fun hc24 => ?_)
     ·refine wp_seq' fun K13 hK13 => ?_
      refine wp_reg ?_
      refine ol_r (r_assign rfl) rfl ?_
      refine ol_nil (to_k0 (fun _ _ h => h) (hK13 _ _ _ _ _ ?_))
      clear hK13
      refine hQ.ret (rvs1 (rv_t rfl)) (fun _ _ h => h) fun w hb hs hB hkd => ?_
      first
        | exact ⟨rfl, hb⟩
        | (exfalso; omega)
        | (exfalso; simp at hc10; done)
        | (exfalso; simp only [eqs, eqV, encHold, ba_beq, decide_true, Bool.and_self, Bool.not_true] at hc24; cases hc24; done)
     ·refine wp_skip' (to_k0 (fun _ _ h => h) (hK10 _ _ _ _ _ ?_))
      clear hK10
      refine wp_reg ?_
      refine ol_r (r_add rfl rfl (by omega)) rfl ?_
      refine ol_r (r_move rfl) rfl ?_
      refine ol_nil (to_k0 (fun _ _ h => h) (hK7 (k + 1) _ _ ?_ ?_ (sub_cons rfl sub_nil) (sub_cons rfl (sub_cons rfl (sub_cons rfl sub_nil))) (by exact subH_nil) subH_nil))
      ·try dsimp only
       omega
      ·try dsimp only
       omega
    ·refine wp_exit' (to_k0 (fun _ _ h => h) (hK5 _ _ _ _ _ ?_))
     clear hK5
     refine wp_seq' fun K14 hK14 => ?_
     refine wp_reg ?_
     refine ol_r (r_assign rfl) rfl ?_
     refine ol_nil (to_k0 (fun _ _ h => h) (hK14 _ _ _ _ _ ?_))
     clear hK14
     refine hQ.ret (rvs1 (rv_t rfl)) (fun _ _ h => h) fun w hb hs hB hkd => ?_
     first
       | exact ⟨rfl, hb⟩
       | (exfalso; omega)
       | (exfalso; simp at hc10; done)
       | (exfalso; simp only [eqs, eqV, encHold, ba_beq, decide_true, Bool.and_self, Bool.not_true] at hc24; cases hc24; done)
end Go.Proofs.Ytafkojlccknicaa

/-
  Entries under other numbers: a function that works in its caller's blocks.
-/

namespace Go.Proofs.Ytafkojlccknicaa.Hx
open Go Go.RowKit
def upH (k : Nat) (H : HL) : HL := H.map fun p => (p.1 + k, p.2)
theorem look_up (k : Nat) : ∀ (H : HL) (i : Nat), look (upH k H) (i + k) = look H i
  | [], i => rfl
  | (j, e) :: r, i => by
    show look ((j + k, e) :: upH k r) (i + k) = look ((j, e) :: r) i
    by_cases h : j = i
    · subst h; rw [look_cons_eq, look_cons_eq]
    · rw [look_cons_ne _ _ (by omega), look_cons_ne _ _ h, look_up k r i]
theorem look_up' (k : Nat) : ∀ (H : HL) (i : Nat) (e : Ent), look (upH k H) i = some e → ∃ j, i = j + k
  | [], i, e, h => by simp [upH, look] at h
  | (j, e') :: r, i, e, h => by
    by_cases hi : j + k = i
    · exact ⟨j, hi.symm⟩
    · have : look (upH k r) i = some e := by
        rw [← h]
        show _ = look ((j + k, e') :: upH k r) i
        rw [look_cons_ne _ _ hi]
      exact look_up' k r i e this
theorem Sat.up {B : Nat} {w : World} {H : HL} (k : Nat) (h : Sat B w H) : Sat B w (upH k H) := by
  refine ⟨fun i e hi => ?_, fun i j e f hij hi hj => ?_⟩
  · obtain ⟨j, rfl⟩ := look_up' k H i e hi
    rw [look_up] at hi
    exact h.ok j e hi
  · obtain ⟨i, rfl⟩ := look_up' k H i e hi
    obtain ⟨j, rfl⟩ := look_up' k H j f hj
    rw [look_up] at hi hj
    exact h.apart i j e f (by omega) hi hj
theorem Sat.down {B : Nat} {w : World} {H : HL} {H' : HL} (k : Nat) (h : Sat B w H) (hs : SubH (upH k H') H) : Sat B w H' := by
  have h1 := h.sub hs
  refine ⟨fun i e hi => h1.ok (i + k) e (by rw [look_up]; exact hi), fun i j e f hij hi hj => h1.apart (i + k) (j + k) e f (by omega) (by rw [look_up]; exact hi) (by rw [look_up]; exact hj)⟩
end Go.Proofs.Ytafkojlccknicaa.Hx

/-
  Rows of rows: inner rows stand at the end of the list of blocks, by number.
-/


namespace Go.Proofs.Ytafkojlccknicaa.Hx
open Go Go.RowKit
set_option linter.unusedVariables false
set_option linter.unusedSimpArgs false
section
variable {P : Program} {N : Fr} {B : Nat} {w0 : World} {Q : Exit → Act → World → Prop} {al : AL} {H : HL} {ops rest : List Oper}
theorem wp_loopT {c : Code} {σ : Type} (I : σ → Prop) (M : σ → AL) (L : AL) (G : σ → HL) (G0 : HL) (T : σ → HL) (μ : σ → Nat) (s0 : σ) (h0 : I s0) (hs : Sub (M s0) al) (hL : Sub L al) (hh : SubH (G s0) H) (hh0 : SubH G0 H) (ht : SubH (T s0) H)
    (round : ∀ s, I s → ∀ K : Act → World → Prop, (∀ s' al' H', I s' → μ s' < μ s → Sub (M s') al' → Sub L al' → SubH (G s') H' → SubH G0 H' → SubH (T s') H' → KP N B w0 K al' H') → WP P N B w0 c (Exit.then K Q) (M s ++ L) (G s ++ (G0 ++ T s))) :
    WP P N B w0 (.loop c) Q al H :=
  wp_loop' I (fun s => M s ++ L) (fun s => G s ++ (G0 ++ T s)) μ s0 h0 (sub_app hs hL) (subH_app hh (subH_app hh0 ht)) (fun s hI K hK => round s hI K fun s' al' H' h1 h2 h3 h4 h5 h6 h7 => (hK s' h1 h2).sub (sub_app h3 h4) (subH_app h5 (subH_app h6 h7)))
theorem wp_seq_cutT {x y : Code} {σ : Type} (I : σ → Prop) (M : σ → AL) (L : AL) (G : σ → HL) (G0 : HL) (T : σ → HL) (hL : Sub L al) (hh0 : SubH G0 H)
    (hx : ∀ K : Act → World → Prop, (∀ s al' H', I s → Sub (M s) al' → Sub L al' → SubH (G s) H' → SubH G0 H' → SubH (T s) H' → KP N B w0 K al' H') → WP P N B w0 x (Exit.then K Q) al H)
    (hy : ∀ s, I s → WP P N B w0 y Q (M s ++ L) (G s ++ (G0 ++ T s))) : WP P N B w0 (.seq x y) Q al H :=
  wp_seq_cut I (fun s => M s ++ L) (fun s => G s ++ (G0 ++ T s)) (fun K hK => hx K fun s al' H' h1 h2 h3 h4 h5 h6 => (hK s h1).sub (sub_app h2 h3) (subH_app h4 (subH_app h5 h6))) hy
theorem Sat.rekey {w : World} (h : Sat B w H) {i j : Nat} {e : Ent} (hi : look H i = some e) (hij : i ≠ j) : Sat B w ((j, e) :: (i, .gone) :: H) := by
  have h2 := h.forget i
  refine h2.set j (h.ok i e hi) (fun _ _ _ => rfl) fun k f hk hf b hb hfb => ?_
  by_cases hki : k = i
  · subst hki; rw [look_cons_eq] at hf; cases hf; simp [Ent.own] at hfb
  · rw [look_cons_ne _ _ (Ne.symm hki)] at hf
    exact h.apart i k e f (Ne.symm hki) hi hf b hb hfb
theorem ol_rekey (i j : Nat) {e : Ent} (hi : look H i = some e) (hij : i ≠ j) (k : OL P N B w0 ops rest Q al ((j, e) :: (i, .gone) :: H)) : OL P N B w0 ops rest Q al H :=
  fun a w hst => k a w ⟨hst.regs, hst.below, hst.sat.rekey hi hij, hst.base, hst.kd, hst.marks⟩
end
abbrev Sl := Option Addr × Nat × Nat
/-- A struct of one slice, as an element. -/
def encSl : Enc Sl := { size := 1, cells := fun x => [.slice x.1 x.2.1 x.2.2], val := fun x => .agg #[.slice x.1 x.2.1 x.2.2], len := fun _ => rfl, ones := fun _ u h => by simp at h; subst h; rfl, pos := by decide, vc := fun _ => rfl }
def rowOf (T : TypeId) (x : Sl × List Int) : Ent := .row x.1.1 x.1.2.1 x.1.2.2 (encI.enc x.2) T 1
def innH (T : TypeId) (base : Nat) : List (Sl × List Int) → HL
  | [] => []
  | x :: r => (base, rowOf T x) :: innH T (base + 1) r
theorem look_inn {T : TypeId} : ∀ {L : List (Sl × List Int)} {base j : Nat} {x : Sl × List Int}, L[j]? = some x → look (innH T base L) (base + j) = some (rowOf T x)
  | [], base, j, x, h => by simp at h
  | y :: r, base, 0, x, h => by cases h; exact look_cons_eq _ _ _
  | y :: r, base, j + 1, x, h => by
    rw [innH, look_cons_ne _ _ (by omega), show base + (j + 1) = base + 1 + j by omega]
    exact look_inn (L := r) h
theorem subH_inn {T : TypeId} {H' : HL} : ∀ {L : List (Sl × List Int)} {base : Nat}, (∀ j x, L[j]? = some x → look H' (base + j) = some (rowOf T x)) → SubH (innH T base L) H'
  | [], _, _ => trivial
  | y :: r, base, h => ⟨⟨_, h 0 y rfl, Ent.le_refl _⟩, subH_inn (L := r) fun j x hj => by rw [show base + 1 + j = base + (j + 1) by omega]; exact h (j + 1) x hj⟩
theorem subH_snoc {T : TypeId} {H' : HL} {L : List (Sl × List Int)} {base : Nat} {y : Sl × List Int} (h1 : ∀ j x, L[j]? = some x → look H' (base + j) = some (rowOf T x)) (h2 : look H' (base + L.length) = some (rowOf T y)) : SubH (innH T base (L ++ [y])) H' :=
  subH_inn fun j x hj => by
    by_cases hlt : j < L.length
    · rw [List.getElem?_append_left hlt] at hj; exact h1 j x hj
    · rw [List.getElem?_append_right (by omega)] at hj
      have hj0 : j - L.length = 0 := by
        apply Decidable.byContradiction; intro h
        rw [List.getElem?_eq_none (by simp; omega)] at hj; cases hj
      rw [hj0] at hj; cases hj
      rw [show j = L.length by omega]; exact h2
/-- A list of rows that reads so. -/
structure RdE (C : Nat) (w : World) (a : Option Addr) (n c : Nat) (L : List (Sl × List Int)) : Prop where
  out : Rd encSl C w a n c (L.map (·.1))
  inn : ∀ (j : Nat) (x : Sl × List Int), L[j]? = some x → Rd encI C w x.1.1 x.1.2.1 x.1.2.2 x.2
theorem RdE.at {B : Nat} {w0 w : World} {a : Option Addr} {n c : Nat} {L : List (Sl × List Int)} (h : RdE B w0 a n c L) (hb : Below B w0 w) (hB : B ≤ w.heap.size) : RdE w.heap.size w a n c L :=
  ⟨h.out.at hb hB, fun j x hj => (h.inn j x hj).at hb hB⟩
theorem RdE.len {C : Nat} {w : World} {a : Option Addr} {n c : Nat} {L : List (Sl × List Int)} (h : RdE C w a n c L) : L.length = n := by
  have := h.out.len; rwa [List.length_map] at this
theorem Sat.rdE {B : Nat} {w : World} {H : HL} {id base n c : Nat} {a : Option Addr} {L : List (Sl × List Int)} {T U : TypeId} (h : Sat B w H) (ho : look H id = some (.row a n c (encSl.enc (L.map (·.1))) T 1)) (hi : ∀ (j : Nat) (x : Sl × List Int), L[j]? = some x → look H (base + j) = some (rowOf U x)) : RdE w.heap.size w a n c L :=
  ⟨h.rd ho rfl, fun j x hj => h.rd (hi j x hj) rfl⟩
/-- A list of rows in memory of its own. -/
def OwnE (B : Nat) (w : World) (T U : TypeId) (id base : Nat) (a : Option Addr) (n c : Nat) (L : List (Sl × List Int)) : Prop := Sat B w ((id, .row a n c (encSl.enc (L.map (·.1))) T 1) :: innH U base L)
theorem OwnE.rd {B : Nat} {w : World} {T U : TypeId} {id base : Nat} {a : Option Addr} {n c : Nat} {L : List (Sl × List Int)} (h : OwnE B w T U id base a n c L) (hid : id < base) : RdE w.heap.size w a n c L :=
  Sat.rdE h (id := id) (base := base) (U := U) (look_cons_eq _ _ _) fun j x hj => (look_cons_ne _ _ (by omega)).trans (look_inn hj)
end Go.Proofs.Ytafkojlccknicaa.Hx

/-
  What a range over a map has seen. No program stands here.
-/

namespace Go.Proofs.Ytafkojlccknicaa
open Hx
set_option linter.unusedVariables false
set_option linter.unusedSimpArgs false
/-! #### what a range over a map has seen -/
structure Vis {α : Type} (L : List α) (js : List Nat) (ks : List α) : Prop where
  nd : js.Nodup
  at_ : js.map (fun j => L[j]?) = ks.map some
theorem Vis.nil {α : Type} (L : List α) : Vis L [] [] := ⟨List.nodup_nil, rfl⟩
section
variable {α : Type} {L ks : List α} {js : List Nat}
theorem Vis.step (h : Vis L js ks) {j : Nat} {k : α} (hj : j ∉ js) (hk : L[j]? = some k) : Vis L (js ++ [j]) (ks ++ [k]) := by
  refine ⟨?_, by rw [List.map_append, List.map_append, h.at_]; simp [hk]⟩
  refine List.nodup_append.2 ⟨h.nd, by simp, fun a ha b hb => ?_⟩
  simp at hb; subst hb
  intro he; subst he; exact hj ha
theorem Vis.len (h : Vis L js ks) : ks.length = js.length := by have := congrArg List.length h.at_; simpa using this.symm
theorem Vis.bd (h : Vis L js ks) {j : Nat} (hj : j ∈ js) : j < L.length := by
  have h1 : L[j]? ∈ js.map (fun j => L[j]?) := List.mem_map.2 ⟨j, hj, rfl⟩
  rw [h.at_] at h1
  obtain ⟨k, _, hk⟩ := List.mem_map.1 h1
  exact (List.getElem?_eq_some_iff.1 hk.symm).1
theorem Vis.le (h : Vis L js ks) : js.length ≤ L.length := by
  have := List.Nodup.length_le_of_subset (l₂ := List.range L.length) h.nd fun j hj => List.mem_range.2 (h.bd hj)
  simpa using this
theorem Vis.more (h : Vis L js ks) {j : Nat} (hj : j ∉ js) (hL : j < L.length) : js.length < L.length := by
  have := (h.step hj (List.getElem?_eq_getElem hL)).le
  rw [List.length_append, List.length_singleton] at this
  omega
theorem map_range_get (L : List α) : (List.range L.length).map (fun j => L[j]?) = L.map some := by
  apply List.ext_getElem?
  intro i
  rw [List.getElem?_map, List.getElem?_map]
  by_cases h : i < L.length
  · simp [h]
  · simp [h]
theorem Vis.all (h : Vis L js ks) (ha : ∀ j, j < L.length → j ∈ js) : ks.Perm L := by
  have hp : js.Perm (List.range L.length) := (List.perm_ext_iff_of_nodup h.nd List.nodup_range).2 fun j => ⟨fun hj => List.mem_range.2 (h.bd hj), fun hj => ha j (List.mem_range.1 hj)⟩
  have h1 := hp.map (fun j => L[j]?)
  rw [h.at_, map_range_get] at h1
  have h2 := h1.filterMap _root_.id
  simpa [List.filterMap_map] using h2
end
end Go.Proofs.Ytafkojlccknicaa

/-
  Streams: CheckStream, and the reference's running sums.
-/



namespace Go.Proofs.Ytafkojlccknicaa
open Go Go.RowKit Hx
set_option linter.unusedVariables false
set_option linter.unusedSimpArgs false
set_option maxRecDepth 8000

theorem effort_in (n a b : Int) (w : World) : Calls Try.prog 69 #[.int .i64 n, .int .i64 a, .int .i64 b] w fun e w' => e = .returned (.bool (inB n a b)) ∧ Below w.heap.size w w' := by
  refine enterQ (N := 15) (C := fun _ => True) (H := []) (B := w.heap.size) (args := [_, _, _]) Try.func69 rfl rfl rfl (Nat.le_refl _) (Sat.nil _ _) fun Q hQ => ?_
  refine wp_seq' fun K1 hK1 => ?_
  refine wp_reg ?_
  refine ol_r (r_assign rfl) rfl ?_
  refine ol_nil (to_k0 (fun _ _ h => h) (hK1 _ _ _ _ _ ?_))
  clear hK1
  refine wp_seq' fun K2 hK2 => ?_
  refine wp_reg ?_
  refine ol_r (r_move rfl) rfl ?_
  refine ol_r (r_move rfl) rfl ?_
  refine ol_r (r_geq rfl rfl) rfl ?_
  refine ol_r (r_move rfl) rfl ?_
  refine ol_split (d := 10) rfl (fun hs10 => ?_) (fun hs10 => ?_)
  ·have phs10 := hs10; try simp only [decide_eq_true_eq, decide_eq_false_iff_not, Bool.not_eq_true', Bool.not_eq_false', Bool.not_true, Bool.not_false] at phs10
   refine ol_g rfl rfl hs10 ?_
   refine ol_r (r_move rfl) rfl ?_
   refine ol_g rfl rfl hs10 ?_
   refine ol_r (r_move rfl) rfl ?_
   refine ol_g rfl rfl hs10 ?_
   refine ol_r (r_leq rfl rfl) rfl ?_
   refine ol_r (r_pickT rfl hs10 rfl) rfl ?_
   refine ol_r (r_assign rfl) rfl ?_
   refine ol_nil (to_k0 (fun _ _ h => h) (hK2 _ _ _ _ _ ?_))
   clear hK2
   refine hQ.ret (rvs1 (rv_t rfl)) (fun _ _ h => h) fun w hb hs hB hkd => ?_
   exact ⟨by simp [inB, hs10], hb⟩
  ·have phs10 := hs10; try simp only [decide_eq_true_eq, decide_eq_false_iff_not, Bool.not_eq_true', Bool.not_eq_false', Bool.not_true, Bool.not_false] at phs10
   refine ol_s rfl rfl hs10 rfl ?_
   refine ol_s rfl rfl hs10 rfl ?_
   refine ol_s rfl rfl hs10 rfl ?_
   refine ol_r (r_pickF rfl hs10 rfl) rfl ?_
   refine ol_r (r_assign rfl) rfl ?_
   refine ol_nil (to_k0 (fun _ _ h => h) (hK2 _ _ _ _ _ ?_))
   clear hK2
   refine hQ.ret (rvs1 (rv_t rfl)) (fun _ _ h => h) fun w hb hs hB hkd => ?_
   exact ⟨by simp [inB, hs10], hb⟩
theorem effort_CheckStream (a : Option Addr) (n cap : Nat) (xs : List Int) (w : World) (hl : Rd encI w.heap.size w a n cap xs) :
    Calls Try.prog 20 #[.slice a n cap] w fun e w' => e = .returned (.int .i64 (streamR xs)) ∧ Below w.heap.size w w' := by
  have hn := hl.len
  have hfit := hl.fit
  subst hn
  refine enterQ (N := 18) (C := fun _ => True) (H := []) (B := w.heap.size) (args := [_]) Try.func20 rfl rfl rfl (Nat.le_refl _) (Sat.nil _ _) fun Q hQ => ?_
  refine wp_seq' fun K1 hK1 => ?_
  refine wp_reg ?_
  refine ol_r (r_assign rfl) rfl ?_
  refine ol_nil (to_k0 (fun _ _ h => h) (hK1 _ _ _ _ _ ?_))
  clear hK1
  refine wp_seq' fun K2 hK2 => ?_
  refine wp_seq' fun K3 hK3 => ?_
  refine wp_reg ?_
  refine ol_r (r_move rfl) rfl ?_
  refine ol_r (r_len rfl sl22) rfl ?_
  refine ol_r (r_gtr rfl rfl) rfl ?_
  refine ol_nil (to_k0 (fun _ _ h => h) (hK3 _ _ _ _ _ ?_))
  clear hK3
  first | refine wp_condD rfl (fun hc7 => ?_) (fun hc7 => ?_) | refine wp_condN rfl (fun hc7 => ?_) (fun hc7 => ?_) | refine wp_condNB rfl (fun hc7 => ?_) (fun hc7 => ?_) | refine wp_cond' rfl (fun hc7 => ?_) (fun hc7 => ?_)
  ·refine wp_seq' fun K4 hK4 => ?_
   refine wp_reg ?_
   refine ol_r (r_assign rfl) rfl ?_
   refine ol_nil (to_k0 (fun _ _ h => h) (hK4 _ _ _ _ _ ?_))
   clear hK4
   refine hQ.ret (rvs1 (rv_t rfl)) (fun _ _ h => h) fun w hb hs hB hkd => ?_
   first
     | (refine ⟨by rw [streamR_big (by omega)], hb⟩; done)
     | (refine ⟨by rw [streamR_bad (by omega) (all_false hx12 (by simpa using hc16))], hb⟩; done)
     | (rw [List.take_of_length_le (by omega)] at hP; refine ⟨by rw [streamR_good (by omega) hP], hb⟩; done)
  ·refine wp_skip' (to_k0 (fun _ _ h => h) (hK2 _ _ _ _ _ ?_))
   clear hK2
   refine wp_seq' fun K5 hK5 => ?_
   refine wp_seq' fun K6 hK6 => ?_
   refine wp_reg ?_
   refine ol_r (r_move rfl) rfl ?_
   refine ol_r (r_len rfl sl22) rfl ?_
   refine ol_r (r_move rfl) rfl ?_
   refine ol_nil (to_k0 (fun _ _ h => h) (hK6 _ _ _ _ _ ?_))
   clear hK6
   refine wp_block' ?_
   apply wp_loopM (σ := Nat) (fun s => s ≤ xs.length ∧ (xs.take s).all (inB · (-1) 1000000000) = true) (fun s => [(10, .int .i64 s)]) [(8, _), (9, _)] (fun s => []) [] (fun s => xs.length - s) (0)
   ·try dsimp only
    exact ⟨by omega, by simp⟩
   ·exact (sub_cons rfl sub_nil)
   ·exact (sub_cons rfl (sub_cons rfl sub_nil))
   ·exact subH_nil
   ·exact subH_nil
   ·rintro k ⟨hk, hP⟩
    intro K7 hK7
    refine wp_seq' fun K8 hK8 => ?_
    refine wp_reg ?_
    refine ol_r (r_lss rfl rfl) rfl ?_
    refine ol_nil (to_k0 (fun _ _ h => h) (hK8 _ _ _ _ _ ?_))
    clear hK8
    refine wp_seq' fun K9 hK9 => ?_
    first | refine wp_condD rfl (fun hc11 => ?_) (fun hc11 => ?_) | refine wp_condN rfl (fun hc11 => ?_) (fun hc11 => ?_) | refine wp_condNB rfl (fun hc11 => ?_) (fun hc11 => ?_) | refine wp_cond' rfl (fun hc11 => ?_) (fun hc11 => ?_)
    ·refine wp_skip' (to_k0 (fun _ _ h => h) (hK9 _ _ _ _ _ ?_))
     clear hK9
     refine wp_seq' fun K10 hK10 => ?_
     refine wp_block' ?_
     refine wp_seq' fun K11 hK11 => ?_
     refine wp_reg ?_
     refine ol_ixr hl rfl rfl sl22 (by omega) rfl fun x12 hx12 => ?_
     try simp only [Int.toNat_natCast] at hx12
     refine ol_r (r_ldw rfl (fun w1 hb1 hs1 hB1 => show Loads _ _ _ _ (.int .i64 x12) from Rd.loads hl ty3 hx12 hb1)) rfl ?_
     refine ol_r (r_assign rfl) rfl ?_
     refine ol_nil (to_k0 (fun _ _ h => h) (hK11 _ _ _ _ _ ?_))
     clear hK11
     refine wp_seq' fun K12 hK12 => ?_
     refine wp_reg ?_
     refine ol_r (r_move rfl) rfl ?_
     refine ol_call rfl rfl cb69 rfl (fun w1 hb1 hs1 hB1 => Calls.mono (effort_in _ _ _ _) ?_)
     rintro e w2 ⟨rfl, hb2⟩
     refine After.below rfl hb1 hs1 hB1 hb2 ?_
     clear hb2 hB1 hs1 hb1 w2 w1
     refine ol_r (r_not rfl) rfl ?_
     refine ol_nil (to_k0 (fun _ _ h => h) (hK12 _ _ _ _ _ ?_))
     clear hK12
     first | refine wp_condD rfl (fun hc16 => ?_) (fun hc16 => ?_) | refine wp_condN rfl (fun hc16 => ?_) (fun hc16 => ?_) | refine wp_condNB rfl (fun hc16 => ?_) (fun hc16 => ?_) | refine wp_cond' rfl (fun hc16 => ?_) (fun hc16 => ?_)
     ·refine wp_seq' fun K13 hK13 => ?_
      refine wp_reg ?_
      refine ol_r (r_assign rfl) rfl ?_
      refine ol_nil (to_k0 (fun _ _ h => h) (hK13 _ _ _ _ _ ?_))
      clear hK13
      refine hQ.ret (rvs1 (rv_t rfl)) (fun _ _ h => h) fun w hb hs hB hkd => ?_
      first
        | (refine ⟨by rw [streamR_big (by omega)], hb⟩; done)
        | (refine ⟨by rw [streamR_bad (by omega) (all_false hx12 (by simpa using hc16))], hb⟩; done)
        | (rw [List.take_of_length_le (by omega)] at hP; refine ⟨by rw [streamR_good (by omega) hP], hb⟩; done)
     ·refine wp_skip' (to_k0 (fun _ _ h => h) (hK10 _ _ _ _ _ ?_))
      clear hK10
      refine wp_reg ?_
      refine ol_r (r_add rfl rfl (by omega)) rfl ?_
      refine ol_r (r_move rfl) rfl ?_
      refine ol_nil (to_k0 (fun _ _ h => h) (hK7 (k + 1) _ _ ?_ ?_ (sub_cons rfl sub_nil) (sub_cons rfl (sub_cons rfl sub_nil)) (by exact subH_nil) subH_nil))
      ·try dsimp only
       exact ⟨by omega, all_take_succ hx12 hP (by simpa using hc16)⟩
      ·try dsimp only
       omega
    ·refine wp_exit' (to_k0 (fun _ _ h => h) (hK5 _ _ _ _ _ ?_))
     clear hK5
     refine wp_seq' fun K14 hK14 => ?_
     refine wp_reg ?_
     refine ol_r (r_assign rfl) rfl ?_
     refine ol_nil (to_k0 (fun _ _ h => h) (hK14 _ _ _ _ _ ?_))
     clear hK14
     refine hQ.ret (rvs1 (rv_t rfl)) (fun _ _ h => h) fun w hb hs hB hkd => ?_
     first
       | (refine ⟨by rw [streamR_big (by omega)], hb⟩; done)
       | (refine ⟨by rw [streamR_bad (by omega) (all_false hx12 (by simpa using hc16))], hb⟩; done)
       | (rw [List.take_of_length_le (by omega)] at hP; refine ⟨by rw [streamR_good (by omega) hP], hb⟩; done)
/-! #### the reference: running sums -/
def runS (xs : List Int) (k : Nat) : List Int := (List.range (k + 1)).map (pS xs)
def runU (xs : List Int) (k : Nat) : List Int := (List.range (k + 1)).map (pU xs)
end Go.Proofs.Ytafkojlccknicaa

/-
  CheckZones, CheckSizes, Zones: program and reference.
-/


namespace Go.Proofs.Ytafkojlccknicaa
open Go Go.RowKit Hx
set_option linter.unusedVariables false
set_option linter.unusedSimpArgs false
set_option maxRecDepth 8000

theorem effort_rising (a : Option Addr) (n cap : Nat) (xs : List Int) (lo hi : Int) (w : World) (hl : Rd encI w.heap.size w a n cap xs) :
    Calls Try.prog 76 #[.slice a n cap, .int .i64 lo, .int .i64 hi] w fun e w' => e = .returned (.int .i64 (risR lo hi xs)) ∧ Below w.heap.size w w' := by
  have hn := hl.len
  have hfit := hl.fit
  subst hn
  refine enterQ (N := 33) (C := fun _ => True) (H := []) (B := w.heap.size) (args := [_, _, _]) Try.func76 rfl rfl rfl (Nat.le_refl _) (Sat.nil _ _) fun Q hQ => ?_
  refine wp_seq' fun K1 hK1 => ?_
  refine wp_reg ?_
  refine ol_r (r_assign rfl) rfl ?_
  refine ol_nil (to_k0 (fun _ _ h => h) (hK1 _ _ _ _ _ ?_))
  clear hK1
  refine wp_seq' fun K2 hK2 => ?_
  refine wp_seq' fun K3 hK3 => ?_
  refine wp_reg ?_
  refine ol_r (r_move rfl) rfl ?_
  refine ol_r (r_len rfl sl22) rfl ?_
  refine ol_r (r_move rfl) rfl ?_
  refine ol_nil (to_k0 (fun _ _ h => h) (hK3 _ _ _ _ _ ?_))
  clear hK3
  refine wp_block' ?_
  apply wp_loopM (σ := Nat) (fun s => s ≤ xs.length ∧ risR lo hi xs = chkG (inB · lo hi) (fun y x => decide (x ≤ y)) (ahead xs s) (xs.drop s)) (fun s => [(11, .int .i64 s)]) [(0, _), (1, _), (2, _), (9, _), (10, _)] (fun s => []) [] (fun s => xs.length - s) (0)
  ·try dsimp only
   exact ⟨Nat.zero_le _, risR_start _ _ _⟩
  ·exact (sub_cons rfl sub_nil)
  ·exact (sub_cons rfl (sub_cons rfl (sub_cons rfl (sub_cons rfl (sub_cons rfl sub_nil)))))
  ·exact subH_nil
  ·exact subH_nil
  ·rintro k ⟨hk, hP⟩
   intro K4 hK4
   refine wp_seq' fun K5 hK5 => ?_
   refine wp_reg ?_
   refine ol_r (r_lss rfl rfl) rfl ?_
   refine ol_nil (to_k0 (fun _ _ h => h) (hK5 _ _ _ _ _ ?_))
   clear hK5
   refine wp_seq' fun K6 hK6 => ?_
   first | refine wp_condD rfl (fun hc12 => ?_) (fun hc12 => ?_) | refine wp_condN rfl (fun hc12 => ?_) (fun hc12 => ?_) | refine wp_condNB rfl (fun hc12 => ?_) (fun hc12 => ?_) | refine wp_cond' rfl (fun hc12 => ?_) (fun hc12 => ?_)
   ·refine wp_skip' (to_k0 (fun _ _ h => h) (hK6 _ _ _ _ _ ?_))
    clear hK6
    refine wp_seq' fun K7 hK7 => ?_
    refine wp_block' ?_
    refine wp_seq' fun K8 hK8 => ?_
    refine wp_reg ?_
    refine ol_r (r_move rfl) rfl ?_
    refine ol_ixr hl rfl rfl sl22 (by omega) rfl fun x14 hx14 => ?_
    try simp only [Int.toNat_natCast] at hx14
    refine ol_r (r_ldw rfl (fun w1 hb1 hs1 hB1 => show Loads _ _ _ _ (.int .i64 x14) from Rd.loads hl ty3 hx14 hb1)) rfl ?_
    refine ol_r (r_assign rfl) rfl ?_
    refine ol_r (r_assign rfl) rfl ?_
    refine ol_nil (to_k0 (fun _ _ h => h) (hK8 _ _ _ _ _ ?_))
    clear hK8
    refine wp_seq' fun K9 hK9 => ?_
    refine wp_seq' fun K10 hK10 => ?_
    refine wp_reg ?_
    refine ol_r (r_move rfl) rfl ?_
    refine ol_r (r_move rfl) rfl ?_
    refine ol_r (r_move rfl) rfl ?_
    refine ol_call rfl rfl cb69 rfl (fun w1 hb1 hs1 hB1 => Calls.mono (effort_in _ _ _ _) ?_)
    rintro e w2 ⟨rfl, hb2⟩
    refine After.below rfl hb1 hs1 hB1 hb2 ?_
    clear hb2 hB1 hs1 hb1 w2 w1
    refine ol_r (r_not rfl) rfl ?_
    refine ol_nil (to_k0 (fun _ _ h => h) (hK10 _ _ _ _ _ ?_))
    clear hK10
    first | refine wp_condD rfl (fun hc20 => ?_) (fun hc20 => ?_) | refine wp_condN rfl (fun hc20 => ?_) (fun hc20 => ?_) | refine wp_condNB rfl (fun hc20 => ?_) (fun hc20 => ?_) | refine wp_cond' rfl (fun hc20 => ?_) (fun hc20 => ?_)
    ·refine wp_seq' fun K11 hK11 => ?_
     refine wp_reg ?_
     refine ol_r (r_assign rfl) rfl ?_
     refine ol_nil (to_k0 (fun _ _ h => h) (hK11 _ _ _ _ _ ?_))
     clear hK11
     refine hQ.ret (rvs1 (rv_t rfl)) (fun _ _ h => h) fun w hb hs hB hkd => ?_
     first
       | (refine ⟨by rw [chkG_end hP (by omega)], hb⟩; done)
       | (refine ⟨by rw [chkG_bad hP hx14 (by simpa using hc20)], hb⟩; done)
       | (refine ⟨by rw [chkG_ord hP hx14 (by simpa using hc20) phs23 hx28 (by simpa using hc31)], hb⟩; done)
    ·refine wp_skip' (to_k0 (fun _ _ h => h) (hK9 _ _ _ _ _ ?_))
     clear hK9
     refine wp_seq' fun K12 hK12 => ?_
     refine wp_reg ?_
     refine ol_r (r_move rfl) rfl ?_
     refine ol_r (r_gtr rfl rfl) rfl ?_
     refine ol_r (r_move rfl) rfl ?_
     refine ol_split (d := 23) rfl (fun hs23 => ?_) (fun hs23 => ?_)
     ·have phs23 := hs23; try simp only [decide_eq_true_eq, decide_eq_false_iff_not, Bool.not_eq_true', Bool.not_eq_false', Bool.not_true, Bool.not_false] at phs23
      refine ol_g rfl rfl hs23 ?_
      refine ol_r (r_move rfl) rfl ?_
      refine ol_g rfl rfl hs23 ?_
      refine ol_r (r_move rfl) rfl ?_
      refine ol_g rfl rfl hs23 ?_
      refine ol_r (r_move rfl) rfl ?_
      refine ol_g rfl rfl hs23 ?_
      refine ol_r (r_sub rfl rfl (by omega)) rfl ?_
      refine ol_g rfl rfl hs23 ?_
      refine ol_ixr hl rfl rfl sl22 (by omega) rfl fun x28 hx28 => ?_
      try simp only [Int.toNat_natCast] at hx28
      refine ol_g rfl rfl hs23 ?_
      refine ol_r (r_ldw rfl (fun w1 hb1 hs1 hB1 => show Loads _ _ _ _ (.int .i64 x28) from Rd.loads hl ty3 hx28 hb1)) rfl ?_
      refine ol_g rfl rfl hs23 ?_
      refine ol_r (r_leq rfl rfl) rfl ?_
      refine ol_r (r_pickT rfl hs23 rfl) rfl ?_
      refine ol_nil (to_k0 (fun _ _ h => h) (hK12 _ _ _ _ _ ?_))
      clear hK12
      first | refine wp_condD rfl (fun hc31 => ?_) (fun hc31 => ?_) | refine wp_condN rfl (fun hc31 => ?_) (fun hc31 => ?_) | refine wp_condNB rfl (fun hc31 => ?_) (fun hc31 => ?_) | refine wp_cond' rfl (fun hc31 => ?_) (fun hc31 => ?_)
      ·refine wp_seq' fun K13 hK13 => ?_
       refine wp_reg ?_
       refine ol_r (r_assign rfl) rfl ?_
       refine ol_nil (to_k0 (fun _ _ h => h) (hK13 _ _ _ _ _ ?_))
       clear hK13
       refine hQ.ret (rvs1 (rv_t rfl)) (fun _ _ h => h) fun w hb hs hB hkd => ?_
       first
         | (refine ⟨by rw [chkG_end hP (by omega)], hb⟩; done)
         | (refine ⟨by rw [chkG_bad hP hx14 (by simpa using hc20)], hb⟩; done)
         | (refine ⟨by rw [chkG_ord hP hx14 (by simpa using hc20) phs23 hx28 (by simpa using hc31)], hb⟩; done)
      ·refine wp_skip' (to_k0 (fun _ _ h => h) (hK7 _ _ _ _ _ ?_))
       clear hK7
       refine wp_reg ?_
       refine ol_r (r_add rfl rfl (by omega)) rfl ?_
       refine ol_r (r_move rfl) rfl ?_
       refine ol_nil (to_k0 (fun _ _ h => h) (hK4 (k + 1) _ _ ?_ ?_ (sub_cons rfl sub_nil) (sub_cons rfl (sub_cons rfl (sub_cons rfl (sub_cons rfl (sub_cons rfl sub_nil))))) (by exact subH_nil) subH_nil))
       ·try dsimp only
        refine ⟨by omega, ?_⟩
        have hq : inB x14 lo hi = true := by simpa using hc20
        first | exact chkG_next hP hx14 hq phs23 hx28 (by simpa using hc31) | exact chkG_next0 hP hx14 hq phs23
       ·try dsimp only
        omega
     ·have phs23 := hs23; try simp only [decide_eq_true_eq, decide_eq_false_iff_not, Bool.not_eq_true', Bool.not_eq_false', Bool.not_true, Bool.not_false] at phs23
      refine ol_s rfl rfl hs23 rfl ?_
      refine ol_s rfl rfl hs23 rfl ?_
      refine ol_s rfl rfl hs23 rfl ?_
      refine ol_s rfl rfl hs23 rfl ?_
      refine ol_s rfl rfl hs23 rfl ?_
      refine ol_s rfl rfl hs23 rfl ?_
      refine ol_s rfl rfl hs23 rfl ?_
      refine ol_r (r_pickF rfl hs23 rfl) rfl ?_
      refine ol_nil (to_k0 (fun _ _ h => h) (hK12 _ _ _ _ _ ?_))
      clear hK12
      refine wp_condF rfl ?_
      refine wp_skip' (to_k0 (fun _ _ h => h) (hK7 _ _ _ _ _ ?_))
      clear hK7
      refine wp_reg ?_
      refine ol_r (r_add rfl rfl (by omega)) rfl ?_
      refine ol_r (r_move rfl) rfl ?_
      refine ol_nil (to_k0 (fun _ _ h => h) (hK4 (k + 1) _ _ ?_ ?_ (sub_cons rfl sub_nil) (sub_cons rfl (sub_cons rfl (sub_cons rfl (sub_cons rfl (sub_cons rfl sub_nil))))) (by exact subH_nil) subH_nil))
      ·try dsimp only
       refine ⟨by omega, ?_⟩
       have hq : inB x14 lo hi = true := by simpa using hc20
       first | exact chkG_next hP hx14 hq phs23 hx28 (by simpa using hc31) | exact chkG_next0 hP hx14 hq phs23
      ·try dsimp only
       omega
   ·refine wp_exit' (to_k0 (fun _ _ h => h) (hK2 _ _ _ _ _ ?_))
    clear hK2
    refine wp_seq' fun K14 hK14 => ?_
    refine wp_reg ?_
    refine ol_r (r_assign rfl) rfl ?_
    refine ol_nil (to_k0 (fun _ _ h => h) (hK14 _ _ _ _ _ ?_))
    clear hK14
    refine hQ.ret (rvs1 (rv_t rfl)) (fun _ _ h => h) fun w hb hs hB hkd => ?_
    first
      | (refine ⟨by rw [chkG_end hP (by omega)], hb⟩; done)
      | (refine ⟨by rw [chkG_bad hP hx14 (by simpa using hc20)], hb⟩; done)
      | (refine ⟨by rw [chkG_ord hP hx14 (by simpa using hc20) phs23 hx28 (by simpa using hc31)], hb⟩; done)
theorem effort_CheckSizes (a : Option Addr) (n cap : Nat) (xs : List Int) (w : World) (hl : Rd encI w.heap.size w a n cap xs) :
    Calls Try.prog 33 #[.slice a n cap] w fun e w' => e = .returned (.int .i64 (sizesC xs)) ∧ Below w.heap.size w w' := by
  have hn := hl.len
  subst hn
  refine enterQ (N := 13) (C := fun _ => True) (H := []) (B := w.heap.size) (args := [_]) Try.func33 rfl rfl rfl (Nat.le_refl _) (Sat.nil _ _) fun Q hQ => ?_
  refine wp_seq' fun K1 hK1 => ?_
  refine wp_reg ?_
  refine ol_r (r_assign rfl) rfl ?_
  refine ol_nil (to_k0 (fun _ _ h => h) (hK1 _ _ _ _ _ ?_))
  clear hK1
  refine wp_seq' fun K2 hK2 => ?_
  refine wp_block' ?_
  refine wp_seq' fun K3 hK3 => ?_
  refine wp_reg ?_
  refine ol_r (r_move rfl) rfl ?_
  refine ol_r (r_len rfl sl22) rfl ?_
  refine ol_r (r_eql rfl rfl) rfl ?_
  refine ol_r (r_assign rfl) rfl ?_
  refine ol_nil (to_k0 (fun _ _ h => h) (hK3 _ _ _ _ _ ?_))
  clear hK3
  first | refine wp_condD rfl (fun hc3 => ?_) (fun hc3 => ?_) | refine wp_condN rfl (fun hc3 => ?_) (fun hc3 => ?_) | refine wp_condNB rfl (fun hc3 => ?_) (fun hc3 => ?_) | refine wp_cond' rfl (fun hc3 => ?_) (fun hc3 => ?_)
  ·refine wp_seq' fun K4 hK4 => ?_
   refine wp_reg ?_
   refine ol_r (r_assign rfl) rfl ?_
   refine ol_nil (to_k0 (fun _ _ h => h) (hK4 _ _ _ _ _ ?_))
   clear hK4
   refine hQ.ret (rvs1 (rv_t rfl)) (fun _ _ h => h) fun w hb hs hB hkd => ?_
   first
     | (refine ⟨by rw [show sizesC xs = 13 from if_pos (by omega)], hb⟩; done)
     | (refine ⟨by unfold sizesC; rw [if_neg (by omega), if_pos (by omega)], hb⟩; done)
     | (refine ⟨by unfold sizesC; rw [if_neg (by omega), if_neg (by omega)], hb⟩; done)
  ·refine wp_seq' fun K5 hK5 => ?_
   refine wp_reg ?_
   refine ol_r (r_move rfl) rfl ?_
   refine ol_r (r_len rfl sl22) rfl ?_
   refine ol_r (r_gtr rfl rfl) rfl ?_
   refine ol_r (r_assign rfl) rfl ?_
   refine ol_nil (to_k0 (fun _ _ h => h) (hK5 _ _ _ _ _ ?_))
   clear hK5
   first | refine wp_condD rfl (fun hc7 => ?_) (fun hc7 => ?_) | refine wp_condN rfl (fun hc7 => ?_) (fun hc7 => ?_) | refine wp_condNB rfl (fun hc7 => ?_) (fun hc7 => ?_) | refine wp_cond' rfl (fun hc7 => ?_) (fun hc7 => ?_)
   ·refine wp_seq' fun K6 hK6 => ?_
    refine wp_reg ?_
    refine ol_r (r_assign rfl) rfl ?_
    refine ol_nil (to_k0 (fun _ _ h => h) (hK6 _ _ _ _ _ ?_))
    clear hK6
    refine hQ.ret (rvs1 (rv_t rfl)) (fun _ _ h => h) fun w hb hs hB hkd => ?_
    first
      | (refine ⟨by rw [show sizesC xs = 13 from if_pos (by omega)], hb⟩; done)
      | (refine ⟨by unfold sizesC; rw [if_neg (by omega), if_pos (by omega)], hb⟩; done)
      | (refine ⟨by unfold sizesC; rw [if_neg (by omega), if_neg (by omega)], hb⟩; done)
   ·refine wp_skip' (to_k0 (fun _ _ h => h) (hK2 _ _ _ _ _ ?_))
    clear hK2
    refine wp_seq' fun K7 hK7 => ?_
    refine wp_reg ?_
    refine ol_r (r_move rfl) rfl ?_
    refine ol_call rfl rfl cb76 rfl (fun w1 hb1 hs1 hB1 => Calls.mono (effort_rising _ _ _ xs _ _ _ (hl.at hb1 hB1)) ?_)
    rintro e w2 ⟨rfl, hb2⟩
    refine After.below rfl hb1 hs1 hB1 hb2 ?_
    clear hb2 hB1 hs1 hb1 w2 w1
    refine ol_r (r_assign rfl) rfl ?_
    refine ol_nil (to_k0 (fun _ _ h => h) (hK7 _ _ _ _ _ ?_))
    clear hK7
    refine hQ.ret (rvs1 (rv_t rfl)) (fun _ _ h => h) fun w hb hs hB hkd => ?_
    first
      | (refine ⟨by rw [show sizesC xs = 13 from if_pos (by omega)], hb⟩; done)
      | (refine ⟨by unfold sizesC; rw [if_neg (by omega), if_pos (by omega)], hb⟩; done)
      | (refine ⟨by unfold sizesC; rw [if_neg (by omega), if_neg (by omega)], hb⟩; done)
theorem ref_CheckSizes (a : Option Addr) (n cap : Nat) (xs : List Int) (w : World) (hl : Rd encI w.heap.size w a n cap xs) :
    Calls Try.prog 34 #[.slice a n cap] w fun e w' => e = .returned (.int .i64 (sizesC xs)) ∧ Below w.heap.size w w' := by
  have hn := hl.len
  have hfit := hl.fit
  subst hn
  refine enterQ (N := 36) (C := fun _ => True) (H := []) (B := w.heap.size) (args := [_]) Try.func34 rfl rfl rfl (Nat.le_refl _) (Sat.nil _ _) fun Q hQ => ?_
  refine wp_seq' fun K1 hK1 => ?_
  refine wp_reg ?_
  refine ol_r (r_assign rfl) rfl ?_
  refine ol_nil (to_k0 (fun _ _ h => h) (hK1 _ _ _ _ _ ?_))
  clear hK1
  refine wp_seq' fun K2 hK2 => ?_
  refine wp_seq' fun K3 hK3 => ?_
  refine wp_reg ?_
  refine ol_r (r_move rfl) rfl ?_
  refine ol_r (r_len rfl sl22) rfl ?_
  refine ol_r (r_eql rfl rfl) rfl ?_
  refine ol_nil (to_k0 (fun _ _ h => h) (hK3 _ _ _ _ _ ?_))
  clear hK3
  first | refine wp_condD rfl (fun hc7 => ?_) (fun hc7 => ?_) | refine wp_condN rfl (fun hc7 => ?_) (fun hc7 => ?_) | refine wp_condNB rfl (fun hc7 => ?_) (fun hc7 => ?_) | refine wp_cond' rfl (fun hc7 => ?_) (fun hc7 => ?_)
  ·refine wp_seq' fun K4 hK4 => ?_
   refine wp_reg ?_
   refine ol_r (r_assign rfl) rfl ?_
   refine ol_nil (to_k0 (fun _ _ h => h) (hK4 _ _ _ _ _ ?_))
   clear hK4
   refine hQ.ret (rvs1 (rv_t rfl)) (fun _ _ h => h) fun w hb hs hB hkd => ?_
   first
     | (refine ⟨by rw [show sizesC xs = 13 from if_pos (by omega)], hb⟩; done)
     | (refine ⟨by unfold sizesC; rw [if_neg (by omega), if_pos (by omega)], hb⟩; done)
     | (rw [show sizesC xs = risR 1 1000000 xs by unfold sizesC; rw [if_neg (by omega), if_neg (by omega)]]
        first
          | (refine ⟨by rw [chkG_end hP (by omega)], hb⟩; done)
          | (refine ⟨by rw [chkG_bad hP hx16 (inB_not.2 (by omega))], hb⟩; done)
          | (refine ⟨by rw [chkG_ord hP hx16 (inB_iff.2 (by omega)) phs26 hx31 (by simpa using hc34)], hb⟩; done))
  ·refine wp_skip' (to_k0 (fun _ _ h => h) (hK2 _ _ _ _ _ ?_))
   clear hK2
   refine wp_seq' fun K5 hK5 => ?_
   refine wp_seq' fun K6 hK6 => ?_
   refine wp_reg ?_
   refine ol_r (r_move rfl) rfl ?_
   refine ol_r (r_len rfl sl22) rfl ?_
   refine ol_r (r_gtr rfl rfl) rfl ?_
   refine ol_nil (to_k0 (fun _ _ h => h) (hK6 _ _ _ _ _ ?_))
   clear hK6
   first | refine wp_condD rfl (fun hc10 => ?_) (fun hc10 => ?_) | refine wp_condN rfl (fun hc10 => ?_) (fun hc10 => ?_) | refine wp_condNB rfl (fun hc10 => ?_) (fun hc10 => ?_) | refine wp_cond' rfl (fun hc10 => ?_) (fun hc10 => ?_)
   ·refine wp_seq' fun K7 hK7 => ?_
    refine wp_reg ?_
    refine ol_r (r_assign rfl) rfl ?_
    refine ol_nil (to_k0 (fun _ _ h => h) (hK7 _ _ _ _ _ ?_))
    clear hK7
    refine hQ.ret (rvs1 (rv_t rfl)) (fun _ _ h => h) fun w hb hs hB hkd => ?_
    first
      | (refine ⟨by rw [show sizesC xs = 13 from if_pos (by omega)], hb⟩; done)
      | (refine ⟨by unfold sizesC; rw [if_neg (by omega), if_pos (by omega)], hb⟩; done)
      | (rw [show sizesC xs = risR 1 1000000 xs by unfold sizesC; rw [if_neg (by omega), if_neg (by omega)]]
         first
           | (refine ⟨by rw [chkG_end hP (by omega)], hb⟩; done)
           | (refine ⟨by rw [chkG_bad hP hx16 (inB_not.2 (by omega))], hb⟩; done)
           | (refine ⟨by rw [chkG_ord hP hx16 (inB_iff.2 (by omega)) phs26 hx31 (by simpa using hc34)], hb⟩; done))
   ·refine wp_skip' (to_k0 (fun _ _ h => h) (hK5 _ _ _ _ _ ?_))
    clear hK5
    refine wp_seq' fun K8 hK8 => ?_
    refine wp_seq' fun K9 hK9 => ?_
    refine wp_reg ?_
    refine ol_r (r_move rfl) rfl ?_
    refine ol_r (r_len rfl sl22) rfl ?_
    refine ol_r (r_move rfl) rfl ?_
    refine ol_nil (to_k0 (fun _ _ h => h) (hK9 _ _ _ _ _ ?_))
    clear hK9
    refine wp_block' ?_
    apply wp_loopM (σ := Nat) (fun s => s ≤ xs.length ∧ risR 1 1000000 xs = chkG (inB · 1 1000000) (fun y x => decide (x ≤ y)) (ahead xs s) (xs.drop s)) (fun s => [(13, .int .i64 s)]) [(0, _), (11, _), (12, _)] (fun s => []) [] (fun s => xs.length - s) (0)
    ·try dsimp only
     exact ⟨Nat.zero_le _, risR_start _ _ _⟩
    ·exact (sub_cons rfl sub_nil)
    ·exact (sub_cons rfl (sub_cons rfl (sub_cons rfl sub_nil)))
    ·exact subH_nil
    ·exact subH_nil
    ·rintro k ⟨hk, hP⟩
     intro K10 hK10
     refine wp_seq' fun K11 hK11 => ?_
     refine wp_reg ?_
     refine ol_r (r_lss rfl rfl) rfl ?_
     refine ol_nil (to_k0 (fun _ _ h => h) (hK11 _ _ _ _ _ ?_))
     clear hK11
     refine wp_seq' fun K12 hK12 => ?_
     first | refine wp_condD rfl (fun hc14 => ?_) (fun hc14 => ?_) | refine wp_condN rfl (fun hc14 => ?_) (fun hc14 => ?_) | refine wp_condNB rfl (fun hc14 => ?_) (fun hc14 => ?_) | refine wp_cond' rfl (fun hc14 => ?_) (fun hc14 => ?_)
     ·refine wp_skip' (to_k0 (fun _ _ h => h) (hK12 _ _ _ _ _ ?_))
      clear hK12
      refine wp_seq' fun K13 hK13 => ?_
      refine wp_block' ?_
      refine wp_seq' fun K14 hK14 => ?_
      refine wp_reg ?_
      refine ol_r (r_move rfl) rfl ?_
      refine ol_ixr hl rfl rfl sl22 (by omega) rfl fun x16 hx16 => ?_
      try simp only [Int.toNat_natCast] at hx16
      refine ol_r (r_ldw rfl (fun w1 hb1 hs1 hB1 => show Loads _ _ _ _ (.int .i64 x16) from Rd.loads hl ty3 hx16 hb1)) rfl ?_
      refine ol_r (r_assign rfl) rfl ?_
      refine ol_r (r_assign rfl) rfl ?_
      refine ol_nil (to_k0 (fun _ _ h => h) (hK14 _ _ _ _ _ ?_))
      clear hK14
      refine wp_seq' fun K15 hK15 => ?_
      refine wp_seq' fun K16 hK16 => ?_
      refine wp_reg ?_
      refine ol_r (r_move rfl) rfl ?_
      refine ol_r (r_lss rfl rfl) rfl ?_
      refine ol_r (r_move rfl) rfl ?_
      refine ol_split (d := 20) rfl (fun hs20 => ?_) (fun hs20 => ?_)
      ·have phs20 := hs20; try simp only [decide_eq_true_eq, decide_eq_false_iff_not, Bool.not_eq_true', Bool.not_eq_false', Bool.not_true, Bool.not_false] at phs20
       refine ol_s rfl rfl hs20 rfl ?_
       refine ol_s rfl rfl hs20 rfl ?_
       refine ol_r (r_pickT rfl hs20 rfl) rfl ?_
       refine ol_nil (to_k0 (fun _ _ h => h) (hK16 _ _ _ _ _ ?_))
       clear hK16
       refine wp_condT rfl ?_
       refine wp_seq' fun K17 hK17 => ?_
       refine wp_reg ?_
       refine ol_r (r_assign rfl) rfl ?_
       refine ol_nil (to_k0 (fun _ _ h => h) (hK17 _ _ _ _ _ ?_))
       clear hK17
       refine hQ.ret (rvs1 (rv_t rfl)) (fun _ _ h => h) fun w hb hs hB hkd => ?_
       first
         | (refine ⟨by rw [show sizesC xs = 13 from if_pos (by omega)], hb⟩; done)
         | (refine ⟨by unfold sizesC; rw [if_neg (by omega), if_pos (by omega)], hb⟩; done)
         | (rw [show sizesC xs = risR 1 1000000 xs by unfold sizesC; rw [if_neg (by omega), if_neg (by omega)]]
            first
              | (refine ⟨by rw [chkG_end hP (by omega)], hb⟩; done)
              | (refine ⟨by rw [chkG_bad hP hx16 (inB_not.2 (by omega))], hb⟩; done)
              | (refine ⟨by rw [chkG_ord hP hx16 (inB_iff.2 (by omega)) phs26 hx31 (by simpa using hc34)], hb⟩; done))
      ·have phs20 := hs20; try simp only [decide_eq_true_eq, decide_eq_false_iff_not, Bool.not_eq_true', Bool.not_eq_false', Bool.not_true, Bool.not_false] at phs20
       refine ol_g rfl rfl hs20 ?_
       refine ol_r (r_move rfl) rfl ?_
       refine ol_g rfl rfl hs20 ?_
       refine ol_r (r_gtr rfl rfl) rfl ?_
       refine ol_r (r_pickF rfl hs20 rfl) rfl ?_
       refine ol_nil (to_k0 (fun _ _ h => h) (hK16 _ _ _ _ _ ?_))
       clear hK16
       first | refine wp_condD rfl (fun hc23 => ?_) (fun hc23 => ?_) | refine wp_condN rfl (fun hc23 => ?_) (fun hc23 => ?_) | refine wp_condNB rfl (fun hc23 => ?_) (fun hc23 => ?_) | refine wp_cond' rfl (fun hc23 => ?_) (fun hc23 => ?_)
       ·refine wp_seq' fun K18 hK18 => ?_
        refine wp_reg ?_
        refine ol_r (r_assign rfl) rfl ?_
        refine ol_nil (to_k0 (fun _ _ h => h) (hK18 _ _ _ _ _ ?_))
        clear hK18
        refine hQ.ret (rvs1 (rv_t rfl)) (fun _ _ h => h) fun w hb hs hB hkd => ?_
        first
          | (refine ⟨by rw [show sizesC xs = 13 from if_pos (by omega)], hb⟩; done)
          | (refine ⟨by unfold sizesC; rw [if_neg (by omega), if_pos (by omega)], hb⟩; done)
          | (rw [show sizesC xs = risR 1 1000000 xs by unfold sizesC; rw [if_neg (by omega), if_neg (by omega)]]
             first
               | (refine ⟨by rw [chkG_end hP (by omega)], hb⟩; done)
               | (refine ⟨by rw [chkG_bad hP hx16 (inB_not.2 (by omega))], hb⟩; done)
               | (refine ⟨by rw [chkG_ord hP hx16 (inB_iff.2 (by omega)) phs26 hx31 (by simpa using hc34)], hb⟩; done))
       ·refine wp_skip' (to_k0 (fun _ _ h => h) (hK15 _ _ _ _ _ ?_))
        clear hK15
        refine wp_seq' fun K19 hK19 => ?_
        refine wp_reg ?_
        refine ol_r (r_move rfl) rfl ?_
        refine ol_r (r_gtr rfl rfl) rfl ?_
        refine ol_r (r_move rfl) rfl ?_
        refine ol_split (d := 26) rfl (fun hs26 => ?_) (fun hs26 => ?_)
        ·have phs26 := hs26; try simp only [decide_eq_true_eq, decide_eq_false_iff_not, Bool.not_eq_true', Bool.not_eq_false', Bool.not_true, Bool.not_false] at phs26
         refine ol_g rfl rfl hs26 ?_
         refine ol_r (r_move rfl) rfl ?_
         refine ol_g rfl rfl hs26 ?_
         refine ol_r (r_move rfl) rfl ?_
         refine ol_g rfl rfl hs26 ?_
         refine ol_r (r_move rfl) rfl ?_
         refine ol_g rfl rfl hs26 ?_
         refine ol_r (r_sub rfl rfl (by omega)) rfl ?_
         refine ol_g rfl rfl hs26 ?_
         refine ol_ixr hl rfl rfl sl22 (by omega) rfl fun x31 hx31 => ?_
         try simp only [Int.toNat_natCast] at hx31
         refine ol_g rfl rfl hs26 ?_
         refine ol_r (r_ldw rfl (fun w1 hb1 hs1 hB1 => show Loads _ _ _ _ (.int .i64 x31) from Rd.loads hl ty3 hx31 hb1)) rfl ?_
         refine ol_g rfl rfl hs26 ?_
         refine ol_r (r_leq rfl rfl) rfl ?_
         refine ol_r (r_pickT rfl hs26 rfl) rfl ?_
         refine ol_nil (to_k0 (fun _ _ h => h) (hK19 _ _ _ _ _ ?_))
         clear hK19
         first | refine wp_condD rfl (fun hc34 => ?_) (fun hc34 => ?_) | refine wp_condN rfl (fun hc34 => ?_) (fun hc34 => ?_) | refine wp_condNB rfl (fun hc34 => ?_) (fun hc34 => ?_) | refine wp_cond' rfl (fun hc34 => ?_) (fun hc34 => ?_)
         ·refine wp_seq' fun K20 hK20 => ?_
          refine wp_reg ?_
          refine ol_r (r_assign rfl) rfl ?_
          refine ol_nil (to_k0 (fun _ _ h => h) (hK20 _ _ _ _ _ ?_))
          clear hK20
          refine hQ.ret (rvs1 (rv_t rfl)) (fun _ _ h => h) fun w hb hs hB hkd => ?_
          first
            | (refine ⟨by rw [show sizesC xs = 13 from if_pos (by omega)], hb⟩; done)
            | (refine ⟨by unfold sizesC; rw [if_neg (by omega), if_pos (by omega)], hb⟩; done)
            | (rw [show sizesC xs = risR 1 1000000 xs by unfold sizesC; rw [if_neg (by omega), if_neg (by omega)]]
               first
                 | (refine ⟨by rw [chkG_end hP (by omega)], hb⟩; done)
                 | (refine ⟨by rw [chkG_bad hP hx16 (inB_not.2 (by omega))], hb⟩; done)
                 | (refine ⟨by rw [chkG_ord hP hx16 (inB_iff.2 (by omega)) phs26 hx31 (by simpa using hc34)], hb⟩; done))
         ·refine wp_skip' (to_k0 (fun _ _ h => h) (hK13 _ _ _ _ _ ?_))
          clear hK13
          refine wp_reg ?_
          refine ol_r (r_add rfl rfl (by omega)) rfl ?_
          refine ol_r (r_move rfl) rfl ?_
          refine ol_nil (to_k0 (fun _ _ h => h) (hK10 (k + 1) _ _ ?_ ?_ (sub_cons rfl sub_nil) (sub_cons rfl (sub_cons rfl (sub_cons rfl sub_nil))) (by exact subH_nil) subH_nil))
          ·try dsimp only
           refine ⟨by omega, ?_⟩
           have hq : inB x16 1 1000000 = true := inB_iff.2 (by omega)
           first | exact chkG_next hP hx16 hq phs26 hx31 (by simpa using hc34) | exact chkG_next0 hP hx16 hq phs26
          ·try dsimp only
           omega
        ·have phs26 := hs26; try simp only [decide_eq_true_eq, decide_eq_false_iff_not, Bool.not_eq_true', Bool.not_eq_false', Bool.not_true, Bool.not_false] at phs26
         refine ol_s rfl rfl hs26 rfl ?_
         refine ol_s rfl rfl hs26 rfl ?_
         refine ol_s rfl rfl hs26 rfl ?_
         refine ol_s rfl rfl hs26 rfl ?_
         refine ol_s rfl rfl hs26 rfl ?_
         refine ol_s rfl rfl hs26 rfl ?_
         refine ol_s rfl rfl hs26 rfl ?_
         refine ol_r (r_pickF rfl hs26 rfl) rfl ?_
         refine ol_nil (to_k0 (fun _ _ h => h) (hK19 _ _ _ _ _ ?_))
         clear hK19
         refine wp_condF rfl ?_
         refine wp_skip' (to_k0 (fun _ _ h => h) (hK13 _ _ _ _ _ ?_))
         clear hK13
         refine wp_reg ?_
         refine ol_r (r_add rfl rfl (by omega)) rfl ?_
         refine ol_r (r_move rfl) rfl ?_
         refine ol_nil (to_k0 (fun _ _ h => h) (hK10 (k + 1) _ _ ?_ ?_ (sub_cons rfl sub_nil) (sub_cons rfl (sub_cons rfl (sub_cons rfl sub_nil))) (by exact subH_nil) subH_nil))
         ·try dsimp only
          refine ⟨by omega, ?_⟩
          have hq : inB x16 1 1000000 = true := inB_iff.2 (by omega)
          first | exact chkG_next hP hx16 hq phs26 hx31 (by simpa using hc34) | exact chkG_next0 hP hx16 hq phs26
         ·try dsimp only
          omega
     ·refine wp_exit' (to_k0 (fun _ _ h => h) (hK8 _ _ _ _ _ ?_))
      clear hK8
      refine wp_seq' fun K21 hK21 => ?_
      refine wp_reg ?_
      refine ol_r (r_assign rfl) rfl ?_
      refine ol_nil (to_k0 (fun _ _ h => h) (hK21 _ _ _ _ _ ?_))
      clear hK21
      refine hQ.ret (rvs1 (rv_t rfl)) (fun _ _ h => h) fun w hb hs hB hkd => ?_
      first
        | (refine ⟨by rw [show sizesC xs = 13 from if_pos (by omega)], hb⟩; done)
        | (refine ⟨by unfold sizesC; rw [if_neg (by omega), if_pos (by omega)], hb⟩; done)
        | (rw [show sizesC xs = risR 1 1000000 xs by unfold sizesC; rw [if_neg (by omega), if_neg (by omega)]]
           first
             | (refine ⟨by rw [chkG_end hP (by omega)], hb⟩; done)
             | (refine ⟨by rw [chkG_bad hP hx16 (inB_not.2 (by omega))], hb⟩; done)
             | (refine ⟨by rw [chkG_ord hP hx16 (inB_iff.2 (by omega)) phs26 hx31 (by simpa using hc34)], hb⟩; done))
/-! #### cmp.Or, slices.BinarySearch -/
def orR : List Int → Int
  | [] => 0
  | x :: r => if x ≠ 0 then x else orR r
end Go.Proofs.Ytafkojlccknicaa

/-
  CheckCurve, sized, Merge, Beats: program and reference.
-/




namespace Go.Proofs.Ytafkojlccknicaa
open Go Go.RowKit Hx
set_option linter.unusedVariables false
set_option linter.unusedSimpArgs false
set_option maxRecDepth 8000
theorem szs_take {xs : List BestR} {k : Nat} {x : BestR} (h : xs[k]? = some x) : szs (xs.take (k + 1)) = szs (xs.take k) ++ [x.size] := by
  unfold szs; rw [take_succ_get h, List.map_append]; rfl
theorem eff_sizesOf (a : Option Addr) (n c : Nat) (xs : List BestR) (w : World) (hl : Rd encBest w.heap.size w a n c xs) (hn : n ≤ 4398046511104) :
    Calls Try.prog 95 #[.slice a n c] w fun e w' => ∃ b m k, e = .returned (.slice b m k) ∧ Fresh encI 3 w w' b m k (szs xs) := by
  obtain rfl := hl.len
  refine enterQ (N := 19) (C := fun _ => True) (H := []) (B := w.heap.size) (args := [_]) Try.func95 rfl rfl rfl (Nat.le_refl _) (Sat.nil _ _) fun Q hQ => ?_
  refine wp_seq' fun K1 hK1 => ?_
  refine wp_reg ?_
  refine ol_r (r_assign rfl) rfl ?_
  refine ol_nil (to_k0 (fun _ _ h => h) (hK1 _ _ _ _ _ ?_))
  clear hK1
  refine wp_seq' fun K2 hK2 => ?_
  refine wp_reg ?_
  refine ol_nilrow 3 3 1 ?_
  refine ol_r (r_assign rfl) rfl ?_
  refine ol_nil (to_k0 (fun _ _ h => h) (hK2 _ _ _ _ _ ?_))
  clear hK2
  refine wp_seq' fun K3 hK3 => ?_
  refine wp_seq' fun K4 hK4 => ?_
  refine wp_reg ?_
  refine ol_r (r_move rfl) rfl ?_
  refine ol_r (r_len rfl sl38) rfl ?_
  refine ol_r (r_move rfl) rfl ?_
  refine ol_nil (to_k0 (fun _ _ h => h) (hK4 _ _ _ _ _ ?_))
  clear hK4
  refine wp_block' ?_
  apply wp_loopM (σ := Nat × Option Addr × Nat) (fun s => s.1 ≤ xs.length) (fun s => [(8, .int .i64 s.1), (3, .slice s.2.1 s.1 s.2.2)]) [(2, _), (6, _), (7, _)] (fun s => [(3, .row s.2.1 s.1 s.2.2 (encI.enc (szs (xs.take s.1))) 3 1)]) [] (fun s => xs.length - s.1) ((0, none, 0))
  ·try dsimp only
   exact Nat.zero_le _
  ·exact (sub_cons rfl (sub_cons rfl sub_nil))
  ·exact (sub_cons rfl (sub_cons rfl (sub_cons rfl sub_nil)))
  ·exact (subH_row rfl (by first | (dsimp only; rfl; done) | (rfl; done) | (dsimp only; done)) subH_nil)
  ·exact subH_nil
  ·rintro ⟨i, oa, oc⟩ hi
   dsimp only at hi ⊢
   intro K5 hK5
   refine wp_seq' fun K6 hK6 => ?_
   refine wp_reg ?_
   refine ol_r (r_lss rfl rfl) rfl ?_
   refine ol_nil (to_k0 (fun _ _ h => h) (hK6 _ _ _ _ _ ?_))
   clear hK6
   refine wp_seq' fun K7 hK7 => ?_
   first | refine wp_condD rfl (fun hc9 => ?_) (fun hc9 => ?_) | refine wp_condN rfl (fun hc9 => ?_) (fun hc9 => ?_) | refine wp_condNB rfl (fun hc9 => ?_) (fun hc9 => ?_) | refine wp_cond' rfl (fun hc9 => ?_) (fun hc9 => ?_)
   ·refine wp_skip' (to_k0 (fun _ _ h => h) (hK7 _ _ _ _ _ ?_))
    clear hK7
    refine wp_seq' fun K8 hK8 => ?_
    refine wp_block' ?_
    refine wp_seq' fun K9 hK9 => ?_
    refine wp_reg ?_
    refine ol_ixr hl rfl rfl sl38 (by omega) rfl fun x10 hx10 => ?_
    try simp only [Int.toNat_natCast] at hx10
    refine ol_r (r_ldw rfl (fun w1 hb1 hs1 hB1 => Rd.loads hl ty24 hx10 hb1)) rfl ?_
    refine ol_alloc 5 z24 rfl fun b5 => ?_
    refine ol_store (id := 5) rfl rfl rfl rfl sz24 rfl rfl (by first | decide | exact Nat.zero_lt_succ _ | simp) ?_
    refine ol_nil (to_k0 (fun _ _ h => h) (hK9 _ _ _ _ _ ?_))
    clear hK9
    refine wp_reg ?_
    refine ol_r (r_move rfl) rfl ?_
    refine ol_r (r_fa (o' := 0) rfl fl24_0 rfl) rfl ?_
    refine ol_r (r_ld (id := 5) rfl rfl rfl sc3) rfl ?_
    refine ol_bs1 15 rfl rfl rw22 rfl rfl rfl fun a15 => ?_
    refine ol_append1 (id := 3) (id2 := 15) rfl rfl rfl rfl rfl rw22 (by omega) rfl fun a16 c16 => ?_
    refine ol_r (r_assign rfl) rfl ?_
    refine ol_nil (to_k0 (fun _ _ h => h) (hK8 _ _ _ _ _ ?_))
    clear hK8
    refine wp_reg ?_
    refine ol_r (r_add rfl rfl (by omega)) rfl ?_
    refine ol_r (r_move rfl) rfl ?_
    refine ol_nil (to_k0 (fun _ _ h => h) (hK5 ((i + 1, _, _)) _ _ ?_ ?_ (sub_cons rfl (sub_cons rfl sub_nil)) (sub_cons rfl (sub_cons rfl (sub_cons rfl sub_nil))) (by exact (subH_row rfl (by first | (dsimp only; rw [szs_take hx10, Enc.enc_append]; rfl; done) | (rw [szs_take hx10, Enc.enc_append]; rfl; done) | (dsimp only; done)) subH_nil)) subH_nil))
    ·try dsimp only
     omega
    ·try dsimp only
     omega
   ·refine wp_exit' (to_k0 (fun _ _ h => h) (hK3 _ _ _ _ _ ?_))
    clear hK3
    refine wp_seq' fun K10 hK10 => ?_
    refine wp_reg ?_
    refine ol_r (r_move rfl) rfl ?_
    refine ol_r (r_assign rfl) rfl ?_
    refine ol_nil (to_k0 (fun _ _ h => h) (hK10 _ _ _ _ _ ?_))
    clear hK10
    refine hQ.ret (rvs1 (rv_t rfl)) (fun _ _ h => h) fun w hb hs hB hkd => ?_
    obtain rfl : i = xs.length := by omega
    have := hs.ok 3 _ rfl
    rw [List.take_length] at this
    exact ⟨oa, _, oc, rfl, hb, this⟩
theorem ref4_sizesOf (a : Option Addr) (n c : Nat) (xs : List BestR) (w : World) (hl : Rd encBest w.heap.size w a n c xs) (hn : n ≤ 4398046511104) :
    Calls Try.prog 101 #[.slice a n c] w fun e w' => ∃ b m k, e = .returned (.slice b m k) ∧ Fresh encI 3 w w' b m k (szs xs) := by
  obtain rfl := hl.len
  refine enterQ (N := 19) (C := fun _ => True) (H := []) (B := w.heap.size) (args := [_]) Try.func101 rfl rfl rfl (Nat.le_refl _) (Sat.nil _ _) fun Q hQ => ?_
  refine wp_seq' fun K1 hK1 => ?_
  refine wp_reg ?_
  refine ol_r (r_assign rfl) rfl ?_
  refine ol_nil (to_k0 (fun _ _ h => h) (hK1 _ _ _ _ _ ?_))
  clear hK1
  refine wp_seq' fun K2 hK2 => ?_
  refine wp_reg ?_
  refine ol_nilrow 3 3 1 ?_
  refine ol_r (r_assign rfl) rfl ?_
  refine ol_nil (to_k0 (fun _ _ h => h) (hK2 _ _ _ _ _ ?_))
  clear hK2
  refine wp_seq' fun K3 hK3 => ?_
  refine wp_seq' fun K4 hK4 => ?_
  refine wp_reg ?_
  refine ol_r (r_move rfl) rfl ?_
  refine ol_r (r_len rfl sl38) rfl ?_
  refine ol_r (r_move rfl) rfl ?_
  refine ol_nil (to_k0 (fun _ _ h => h) (hK4 _ _ _ _ _ ?_))
  clear hK4
  refine wp_block' ?_
  apply wp_loopM (σ := Nat × Option Addr × Nat) (fun s => s.1 ≤ xs.length) (fun s => [(8, .int .i64 s.1), (3, .slice s.2.1 s.1 s.2.2)]) [(2, _), (6, _), (7, _)] (fun s => [(3, .row s.2.1 s.1 s.2.2 (encI.enc (szs (xs.take s.1))) 3 1)]) [] (fun s => xs.length - s.1) ((0, none, 0))
  ·try dsimp only
   exact Nat.zero_le _
  ·exact (sub_cons rfl (sub_cons rfl sub_nil))
  ·exact (sub_cons rfl (sub_cons rfl (sub_cons rfl sub_nil)))
  ·exact (subH_row rfl (by first | (dsimp only; rfl; done) | (rfl; done) | (dsimp only; done)) subH_nil)
  ·exact subH_nil
  ·rintro ⟨i, oa, oc⟩ hi
   dsimp only at hi ⊢
   intro K5 hK5
   refine wp_seq' fun K6 hK6 => ?_
   refine wp_reg ?_
   refine ol_r (r_lss rfl rfl) rfl ?_
   refine ol_nil (to_k0 (fun _ _ h => h) (hK6 _ _ _ _ _ ?_))
   clear hK6
   refine wp_seq' fun K7 hK7 => ?_
   first | refine wp_condD rfl (fun hc9 => ?_) (fun hc9 => ?_) | refine wp_condN rfl (fun hc9 => ?_) (fun hc9 => ?_) | refine wp_condNB rfl (fun hc9 => ?_) (fun hc9 => ?_) | refine wp_cond' rfl (fun hc9 => ?_) (fun hc9 => ?_)
   ·refine wp_skip' (to_k0 (fun _ _ h => h) (hK7 _ _ _ _ _ ?_))
    clear hK7
    refine wp_seq' fun K8 hK8 => ?_
    refine wp_block' ?_
    refine wp_seq' fun K9 hK9 => ?_
    refine wp_reg ?_
    refine ol_ixr hl rfl rfl sl38 (by omega) rfl fun x10 hx10 => ?_
    try simp only [Int.toNat_natCast] at hx10
    refine ol_r (r_ldw rfl (fun w1 hb1 hs1 hB1 => Rd.loads hl ty24 hx10 hb1)) rfl ?_
    refine ol_alloc 5 z24 rfl fun b5 => ?_
    refine ol_store (id := 5) rfl rfl rfl rfl sz24 rfl rfl (by first | decide | exact Nat.zero_lt_succ _ | simp) ?_
    refine ol_nil (to_k0 (fun _ _ h => h) (hK9 _ _ _ _ _ ?_))
    clear hK9
    refine wp_reg ?_
    refine ol_r (r_move rfl) rfl ?_
    refine ol_r (r_fa (o' := 0) rfl fl24_0 rfl) rfl ?_
    refine ol_r (r_ld (id := 5) rfl rfl rfl sc3) rfl ?_
    refine ol_bs1 15 rfl rfl rw22 rfl rfl rfl fun a15 => ?_
    refine ol_append1 (id := 3) (id2 := 15) rfl rfl rfl rfl rfl rw22 (by omega) rfl fun a16 c16 => ?_
    refine ol_r (r_assign rfl) rfl ?_
    refine ol_nil (to_k0 (fun _ _ h => h) (hK8 _ _ _ _ _ ?_))
    clear hK8
    refine wp_reg ?_
    refine ol_r (r_add rfl rfl (by omega)) rfl ?_
    refine ol_r (r_move rfl) rfl ?_
    refine ol_nil (to_k0 (fun _ _ h => h) (hK5 ((i + 1, _, _)) _ _ ?_ ?_ (sub_cons rfl (sub_cons rfl sub_nil)) (sub_cons rfl (sub_cons rfl (sub_cons rfl sub_nil))) (by exact (subH_row rfl (by first | (dsimp only; rw [szs_take hx10, Enc.enc_append]; rfl; done) | (rw [szs_take hx10, Enc.enc_append]; rfl; done) | (dsimp only; done)) subH_nil)) subH_nil))
    ·try dsimp only
     omega
    ·try dsimp only
     omega
   ·refine wp_exit' (to_k0 (fun _ _ h => h) (hK3 _ _ _ _ _ ?_))
    clear hK3
    refine wp_seq' fun K10 hK10 => ?_
    refine wp_reg ?_
    refine ol_r (r_move rfl) rfl ?_
    refine ol_r (r_assign rfl) rfl ?_
    refine ol_nil (to_k0 (fun _ _ h => h) (hK10 _ _ _ _ _ ?_))
    clear hK10
    refine hQ.ret (rvs1 (rv_t rfl)) (fun _ _ h => h) fun w hb hs hB hkd => ?_
    obtain rfl : i = xs.length := by omega
    have := hs.ok 3 _ rfl
    rw [List.take_length] at this
    exact ⟨oa, _, oc, rfl, hb, this⟩
theorem chkC_s {c : List BestR} (h : sizesC (szs c) ≠ 0) : chkC c = sizesC (szs c) := if_pos h
theorem chkC_b {c : List BestR} (h : sizesC (szs c) = 0) : chkC c = bErrs c := if_neg fun h2 => h2 h
theorem bErr_eq (b : BestR) : bErr b = if b.found = false then (if b.sum = 0 ∧ b.at_ = 0 then 0 else 2) else if inB b.sum 0 (b.size * 1000000000) = true ∧ inB b.at_ 0 (1000000 - b.size) = true then 0 else 9 := by
  unfold bErr
  simp only [inB_iff, and_assoc]
theorem chkC_at {c : List BestR} {k : Nat} {b : BestR} {v : Int} (h : sizesC (szs c) = 0) (hP : bErrs c = bErrs (c.drop k)) (hb : c[k]? = some b) (hv : bErr b = v) (h0 : v ≠ 0) : chkC c = v := by
  rw [chkC_b h, hP, bErrs_bad hb (by rw [hv]; exact h0), hv]
theorem eff_CheckCurve (a : Option Addr) (n c : Nat) (xs : List BestR) (w : World) (hl : Rd encBest w.heap.size w a n c xs) (hn : n ≤ 4398046511104) :
    Calls Try.prog 52 #[.slice a n c] w fun e w' => e = .returned (.int .i64 (chkC xs)) ∧ Below w.heap.size w w' := by
  obtain rfl := hl.len
  refine enterQ (N := 54) (C := fun _ => True) (H := []) (B := w.heap.size) (args := [_]) Try.func52 rfl rfl rfl (Nat.le_refl _) (Sat.nil _ _) fun Q hQ => ?_
  refine wp_seq' fun K1 hK1 => ?_
  refine wp_reg ?_
  refine ol_r (r_assign rfl) rfl ?_
  refine ol_nil (to_k0 (fun _ _ h => h) (hK1 _ _ _ _ _ ?_))
  clear hK1
  refine wp_seq' fun K2 hK2 => ?_
  refine wp_seq' fun K3 hK3 => ?_
  refine wp_reg ?_
  refine ol_r (r_move rfl) rfl ?_
  refine ol_call rfl rfl cb95 rfl (fun w1 hb1 hs1 hB1 => Calls.mono (eff_sizesOf _ _ _ xs _ (hl.at hb1 hB1) hn) ?_)
  rintro e w2 ⟨a7, n7, c7, rfl, hf7⟩
  refine After.fresh (id := 7) rfl hb1 hs1 hB1 hf7 ?_
  have hl7 := hf7.len; clear hf7 hB1 hs1 hb1 w2 w1
  refine ol_call rfl rfl cb33 rfl (fun w1 hb1 hs1 hB1 => Calls.mono (effort_CheckSizes _ _ _ (szs xs) _ (Sat.rd hs1 (E := encI) (id := 7) rfl rfl)) ?_)
  rintro e w2 ⟨rfl, hb2⟩
  refine After.below rfl hb1 hs1 hB1 hb2 ?_
  clear hb2 hB1 hs1 hb1 w2 w1
  refine ol_r (r_assign rfl) rfl ?_
  refine ol_nil (to_k0 (fun _ _ h => h) (hK3 _ _ _ _ _ ?_))
  clear hK3
  refine wp_seq' fun K4 hK4 => ?_
  refine wp_reg ?_
  refine ol_r (r_move rfl) rfl ?_
  refine ol_r (r_neq rfl rfl) rfl ?_
  refine ol_nil (to_k0 (fun _ _ h => h) (hK4 _ _ _ _ _ ?_))
  clear hK4
  first | refine wp_condD rfl (fun hc10 => ?_) (fun hc10 => ?_) | refine wp_condN rfl (fun hc10 => ?_) (fun hc10 => ?_) | refine wp_condNB rfl (fun hc10 => ?_) (fun hc10 => ?_) | refine wp_cond' rfl (fun hc10 => ?_) (fun hc10 => ?_)
  ·refine wp_seq' fun K5 hK5 => ?_
   refine wp_reg ?_
   refine ol_r (r_move rfl) rfl ?_
   refine ol_r (r_assign rfl) rfl ?_
   refine ol_nil (to_k0 (fun _ _ h => h) (hK5 _ _ _ _ _ ?_))
   clear hK5
   refine hQ.ret (rvs1 (rv_t rfl)) (fun _ _ h => h) fun w hb hs hB hkd => ?_
   exact ⟨by rw [chkC_s hc10], hb⟩
  ·refine wp_skip' (to_k0 (fun _ _ h => h) (hK2 _ _ _ _ _ ?_))
   clear hK2
   refine wp_seq' fun K6 hK6 => ?_
   refine wp_seq' fun K7 hK7 => ?_
   refine wp_reg ?_
   refine ol_r (r_move rfl) rfl ?_
   refine ol_r (r_len rfl sl38) rfl ?_
   have hz := sizesC_ok (Decidable.not_not.1 hc10)
   refine ol_r (r_move rfl) rfl ?_
   refine ol_nil (to_k0 (fun _ _ h => h) (hK7 _ _ _ _ _ ?_))
   clear hK7
   refine wp_block' ?_
   apply wp_loopM (σ := Nat) (fun s => s ≤ xs.length ∧ bErrs xs = bErrs (xs.drop s)) (fun s => [(14, .int .i64 s)]) [(12, _), (13, _)] (fun s => []) [(7, _)] (fun s => xs.length - s) (0)
   ·try dsimp only
    exact ⟨Nat.zero_le _, rfl⟩
   ·exact (sub_cons rfl sub_nil)
   ·exact (sub_cons rfl (sub_cons rfl sub_nil))
   ·exact subH_nil
   ·exact (subH_same rfl subH_nil)
   ·rintro k ⟨hk, hP⟩
    intro K8 hK8
    refine wp_seq' fun K9 hK9 => ?_
    refine wp_reg ?_
    refine ol_r (r_lss rfl rfl) rfl ?_
    refine ol_nil (to_k0 (fun _ _ h => h) (hK9 _ _ _ _ _ ?_))
    clear hK9
    refine wp_seq' fun K10 hK10 => ?_
    first | refine wp_condD rfl (fun hc15 => ?_) (fun hc15 => ?_) | refine wp_condN rfl (fun hc15 => ?_) (fun hc15 => ?_) | refine wp_condNB rfl (fun hc15 => ?_) (fun hc15 => ?_) | refine wp_cond' rfl (fun hc15 => ?_) (fun hc15 => ?_)
    ·refine wp_skip' (to_k0 (fun _ _ h => h) (hK10 _ _ _ _ _ ?_))
     clear hK10
     refine wp_seq' fun K11 hK11 => ?_
     refine wp_block' ?_
     refine wp_seq' fun K12 hK12 => ?_
     refine wp_reg ?_
     refine ol_ixr hl rfl rfl sl38 (by omega) rfl fun x16 hx16 => ?_
     try simp only [Int.toNat_natCast] at hx16
     refine ol_r (r_ldw rfl (fun w1 hb1 hs1 hB1 => Rd.loads hl ty24 hx16 hb1)) rfl ?_
     refine ol_alloc 5 z24 rfl fun b5 => ?_
     refine ol_store (id := 5) rfl rfl rfl rfl sz24 rfl rfl (by first | decide | exact Nat.zero_lt_succ _ | simp) ?_
     refine ol_nil (to_k0 (fun _ _ h => h) (hK12 _ _ _ _ _ ?_))
     clear hK12
     refine wp_block' ?_
     refine wp_seq' fun K13 hK13 => ?_
     refine wp_reg ?_
     refine ol_r (r_fa (o' := 3) rfl fl24_3 rfl) rfl ?_
     refine ol_r (r_ld (id := 5) rfl rfl rfl sc4) rfl ?_
     refine ol_r (r_not rfl) rfl ?_
     refine ol_r (r_move rfl) rfl ?_
     refine ol_split (d := 22) rfl (fun hs22 => ?_) (fun hs22 => ?_)
     ·have phs22 := hs22; try simp only [decide_eq_true_eq, decide_eq_false_iff_not, Bool.not_eq_true', Bool.not_eq_false', Bool.not_true, Bool.not_false] at phs22
      refine ol_g rfl rfl hs22 ?_
      refine ol_r (r_fa (o' := 1) rfl fl24_1 rfl) rfl ?_
      refine ol_g rfl rfl hs22 ?_
      refine ol_r (r_ld (id := 5) rfl rfl rfl sc3) rfl ?_
      refine ol_g rfl rfl hs22 ?_
      refine ol_r (r_neq rfl rfl) rfl ?_
      refine ol_g rfl rfl hs22 ?_
      refine ol_r (r_move rfl) rfl ?_
      refine ol_split (d := 26) rfl (fun hs26 => ?_) (fun hs26 => ?_)
      ·have phs26 := hs26; try simp only [decide_eq_true_eq, decide_eq_false_iff_not, Bool.not_eq_true', Bool.not_eq_false', Bool.not_true, Bool.not_false] at phs26
       refine ol_s rfl rfl hs26 rfl ?_
       refine ol_s rfl rfl hs26 rfl ?_
       refine ol_s rfl rfl hs26 rfl ?_
       refine ol_g rfl rfl hs22 ?_
       refine ol_r (r_pickT rfl hs26 rfl) rfl ?_
       refine ol_r (r_pickT rfl hs22 rfl) rfl ?_
       refine ol_r (r_assign rfl) rfl ?_
       refine ol_nil (to_k0 (fun _ _ h => h) (hK13 _ _ _ _ _ ?_))
       clear hK13
       refine wp_condT rfl ?_
       refine wp_seq' fun K14 hK14 => ?_
       refine wp_reg ?_
       refine ol_r (r_assign rfl) rfl ?_
       refine ol_nil (to_k0 (fun _ _ h => h) (hK14 _ _ _ _ _ ?_))
       clear hK14
       refine hQ.ret (rvs1 (rv_t rfl)) (fun _ _ h => h) fun w hb hs hB hkd => ?_
       first
         | (have hke : xs.length ≤ k := by omega
            exact ⟨by rw [chkC_b (Decidable.not_not.1 hc10), hP, List.drop_eq_nil_of_le hke]; rfl, hb⟩)
         | (refine ⟨congrArg (fun v => Ending.returned (Value.int .i64 v)) (chkC_at (Decidable.not_not.1 hc10) hP hx16 ?_ (by decide)).symm, hb⟩
            rw [bErr_eq]
            simp_all
            done)
      ·have phs26 := hs26; try simp only [decide_eq_true_eq, decide_eq_false_iff_not, Bool.not_eq_true', Bool.not_eq_false', Bool.not_true, Bool.not_false] at phs26
       refine ol_g rfl rfl hs26 ?_
       refine ol_r (r_fa (o' := 2) rfl fl24_2 rfl) rfl ?_
       refine ol_g rfl rfl hs26 ?_
       refine ol_r (r_ld (id := 5) rfl rfl rfl sc3) rfl ?_
       refine ol_g rfl rfl hs26 ?_
       refine ol_r (r_neq rfl rfl) rfl ?_
       refine ol_g rfl rfl hs22 ?_
       refine ol_r (r_pickF rfl hs26 rfl) rfl ?_
       refine ol_r (r_pickT rfl hs22 rfl) rfl ?_
       refine ol_r (r_assign rfl) rfl ?_
       refine ol_nil (to_k0 (fun _ _ h => h) (hK13 _ _ _ _ _ ?_))
       clear hK13
       first | refine wp_condD rfl (fun hc18 => ?_) (fun hc18 => ?_) | refine wp_condN rfl (fun hc18 => ?_) (fun hc18 => ?_) | refine wp_condNB rfl (fun hc18 => ?_) (fun hc18 => ?_) | refine wp_cond' rfl (fun hc18 => ?_) (fun hc18 => ?_)
       ·refine wp_seq' fun K15 hK15 => ?_
        refine wp_reg ?_
        refine ol_r (r_assign rfl) rfl ?_
        refine ol_nil (to_k0 (fun _ _ h => h) (hK15 _ _ _ _ _ ?_))
        clear hK15
        refine hQ.ret (rvs1 (rv_t rfl)) (fun _ _ h => h) fun w hb hs hB hkd => ?_
        first
          | (have hke : xs.length ≤ k := by omega
             exact ⟨by rw [chkC_b (Decidable.not_not.1 hc10), hP, List.drop_eq_nil_of_le hke]; rfl, hb⟩)
          | (refine ⟨congrArg (fun v => Ending.returned (Value.int .i64 v)) (chkC_at (Decidable.not_not.1 hc10) hP hx16 ?_ (by decide)).symm, hb⟩
             rw [bErr_eq]
             simp_all
             done)
       ·refine wp_seq' fun K16 hK16 => ?_
        refine wp_reg ?_
        refine ol_r (r_fa (o' := 3) rfl fl24_3 rfl) rfl ?_
        refine ol_r (r_ld (id := 5) rfl rfl rfl sc4) rfl ?_
        refine ol_r (r_move rfl) rfl ?_
        refine ol_split (d := 35) rfl (fun hs35 => ?_) (fun hs35 => ?_)
        ·have phs35 := hs35; try simp only [decide_eq_true_eq, decide_eq_false_iff_not, Bool.not_eq_true', Bool.not_eq_false', Bool.not_true, Bool.not_false] at phs35
         refine ol_g rfl rfl hs35 ?_
         refine ol_r (r_fa (o' := 1) rfl fl24_1 rfl) rfl ?_
         refine ol_g rfl rfl hs35 ?_
         refine ol_r (r_ld (id := 5) rfl rfl rfl sc3) rfl ?_
         refine ol_g rfl rfl hs35 ?_
         refine ol_r (r_fa (o' := 0) rfl fl24_0 rfl) rfl ?_
         refine ol_g rfl rfl hs35 ?_
         refine ol_r (r_ld (id := 5) rfl rfl rfl sc3) rfl ?_
         refine ol_g rfl rfl hs35 ?_
         have hzz := hz.2.2.1 x16.size (List.mem_map_of_mem (f := (·.size)) (List.mem_of_getElem? hx16))
         refine ol_r (r_mul rfl rfl (by omega)) rfl ?_
         refine ol_g rfl rfl hs35 ?_
         refine ol_call rfl rfl cb69 rfl (fun w1 hb1 hs1 hB1 => Calls.mono (effort_in _ _ _ _) ?_)
         rintro e w2 ⟨rfl, hb2⟩
         refine After.below rfl hb1 hs1 hB1 hb2 ?_
         clear hb2 hB1 hs1 hb1 w2 w1
         refine ol_g rfl rfl hs35 ?_
         refine ol_r (r_not rfl) rfl ?_
         refine ol_g rfl rfl hs35 ?_
         refine ol_r (r_move rfl) rfl ?_
         refine ol_split (d := 43) rfl (fun hs43 => ?_) (fun hs43 => ?_)
         ·have phs43 := hs43; try simp only [decide_eq_true_eq, decide_eq_false_iff_not, Bool.not_eq_true', Bool.not_eq_false', Bool.not_true, Bool.not_false] at phs43
          refine ol_s rfl rfl hs43 rfl ?_
          refine ol_s rfl rfl hs43 rfl ?_
          refine ol_s rfl rfl hs43 rfl ?_
          refine ol_s rfl rfl hs43 rfl ?_
          refine ol_s rfl rfl hs43 rfl ?_
          refine ol_s rfl rfl hs43 rfl ?_
          refine ol_s rfl rfl hs43 rfl ?_
          refine ol_g rfl rfl hs35 ?_
          refine ol_r (r_pickT rfl hs43 rfl) rfl ?_
          refine ol_r (r_pickT rfl hs35 rfl) rfl ?_
          refine ol_r (r_assign rfl) rfl ?_
          refine ol_nil (to_k0 (fun _ _ h => h) (hK16 _ _ _ _ _ ?_))
          clear hK16
          refine wp_condT rfl ?_
          refine wp_seq' fun K17 hK17 => ?_
          refine wp_reg ?_
          refine ol_r (r_assign rfl) rfl ?_
          refine ol_nil (to_k0 (fun _ _ h => h) (hK17 _ _ _ _ _ ?_))
          clear hK17
          refine hQ.ret (rvs1 (rv_t rfl)) (fun _ _ h => h) fun w hb hs hB hkd => ?_
          first
            | (have hke : xs.length ≤ k := by omega
               exact ⟨by rw [chkC_b (Decidable.not_not.1 hc10), hP, List.drop_eq_nil_of_le hke]; rfl, hb⟩)
            | (refine ⟨congrArg (fun v => Ending.returned (Value.int .i64 v)) (chkC_at (Decidable.not_not.1 hc10) hP hx16 ?_ (by decide)).symm, hb⟩
               rw [bErr_eq]
               simp_all
               done)
         ·have phs43 := hs43; try simp only [decide_eq_true_eq, decide_eq_false_iff_not, Bool.not_eq_true', Bool.not_eq_false', Bool.not_true, Bool.not_false] at phs43
          refine ol_g rfl rfl hs43 ?_
          refine ol_r (r_fa (o' := 2) rfl fl24_2 rfl) rfl ?_
          refine ol_g rfl rfl hs43 ?_
          refine ol_r (r_ld (id := 5) rfl rfl rfl sc3) rfl ?_
          refine ol_g rfl rfl hs43 ?_
          refine ol_r (r_fa (o' := 0) rfl fl24_0 rfl) rfl ?_
          refine ol_g rfl rfl hs43 ?_
          refine ol_r (r_ld (id := 5) rfl rfl rfl sc3) rfl ?_
          refine ol_g rfl rfl hs43 ?_
          refine ol_r (r_sub rfl rfl (by omega)) rfl ?_
          refine ol_g rfl rfl hs43 ?_
          refine ol_call rfl rfl cb69 rfl (fun w1 hb1 hs1 hB1 => Calls.mono (effort_in _ _ _ _) ?_)
          rintro e w2 ⟨rfl, hb2⟩
          refine After.below rfl hb1 hs1 hB1 hb2 ?_
          clear hb2 hB1 hs1 hb1 w2 w1
          refine ol_g rfl rfl hs43 ?_
          refine ol_r (r_not rfl) rfl ?_
          refine ol_g rfl rfl hs35 ?_
          refine ol_r (r_pickF rfl hs43 rfl) rfl ?_
          refine ol_r (r_pickT rfl hs35 rfl) rfl ?_
          refine ol_r (r_assign rfl) rfl ?_
          refine ol_nil (to_k0 (fun _ _ h => h) (hK16 _ _ _ _ _ ?_))
          clear hK16
          first | refine wp_condD rfl (fun hc32 => ?_) (fun hc32 => ?_) | refine wp_condN rfl (fun hc32 => ?_) (fun hc32 => ?_) | refine wp_condNB rfl (fun hc32 => ?_) (fun hc32 => ?_) | refine wp_cond' rfl (fun hc32 => ?_) (fun hc32 => ?_)
          ·refine wp_seq' fun K18 hK18 => ?_
           refine wp_reg ?_
           refine ol_r (r_assign rfl) rfl ?_
           refine ol_nil (to_k0 (fun _ _ h => h) (hK18 _ _ _ _ _ ?_))
           clear hK18
           refine hQ.ret (rvs1 (rv_t rfl)) (fun _ _ h => h) fun w hb hs hB hkd => ?_
           first
             | (have hke : xs.length ≤ k := by omega
                exact ⟨by rw [chkC_b (Decidable.not_not.1 hc10), hP, List.drop_eq_nil_of_le hke]; rfl, hb⟩)
             | (refine ⟨congrArg (fun v => Ending.returned (Value.int .i64 v)) (chkC_at (Decidable.not_not.1 hc10) hP hx16 ?_ (by decide)).symm, hb⟩
                rw [bErr_eq]
                simp_all
                done)
          ·refine wp_skip' (to_k0 (fun _ _ h => h) (hK11 _ _ _ _ _ ?_))
           clear hK11
           refine wp_reg ?_
           refine ol_r (r_add rfl rfl (by omega)) rfl ?_
           have hz := sizesC_ok (Decidable.not_not.1 hc10)
           refine ol_r (r_move rfl) rfl ?_
           refine ol_nil (to_k0 (fun _ _ h => h) (hK8 (k + 1) _ _ ?_ ?_ (sub_cons rfl sub_nil) (sub_cons rfl (sub_cons rfl sub_nil)) (by exact subH_nil) (subH_same rfl subH_nil)))
           ·try dsimp only
            have hbe : bErr x16 = 0 := by (rw [bErr_eq]; simp_all; done)
            exact ⟨by omega, hP.trans (bErrs_next hx16 hbe)⟩
           ·try dsimp only
            omega
        ·have phs35 := hs35; try simp only [decide_eq_true_eq, decide_eq_false_iff_not, Bool.not_eq_true', Bool.not_eq_false', Bool.not_true, Bool.not_false] at phs35
         refine ol_s rfl rfl hs35 rfl ?_
         refine ol_s rfl rfl hs35 rfl ?_
         refine ol_s rfl rfl hs35 rfl ?_
         refine ol_s rfl rfl hs35 rfl ?_
         refine ol_s rfl rfl hs35 rfl ?_
         refine ol_s rfl rfl hs35 rfl ?_
         refine ol_s rfl rfl hs35 rfl ?_
         refine ol_s rfl rfl hs35 rfl ?_
         refine ol_u rfl rfl rfl ?_
         refine ol_u rfl rfl rfl ?_
         refine ol_u rfl rfl rfl ?_
         refine ol_u rfl rfl rfl ?_
         refine ol_u rfl rfl rfl ?_
         refine ol_u rfl rfl rfl ?_
         refine ol_u rfl rfl rfl ?_
         refine ol_s rfl rfl hs35 rfl ?_
         refine ol_r (r_pickF rfl hs35 rfl) rfl ?_
         refine ol_r (r_assign rfl) rfl ?_
         refine ol_nil (to_k0 (fun _ _ h => h) (hK16 _ _ _ _ _ ?_))
         clear hK16
         refine wp_condF rfl ?_
         refine wp_skip' (to_k0 (fun _ _ h => h) (hK11 _ _ _ _ _ ?_))
         clear hK11
         refine wp_reg ?_
         refine ol_r (r_add rfl rfl (by omega)) rfl ?_
         have hz := sizesC_ok (Decidable.not_not.1 hc10)
         refine ol_r (r_move rfl) rfl ?_
         refine ol_nil (to_k0 (fun _ _ h => h) (hK8 (k + 1) _ _ ?_ ?_ (sub_cons rfl sub_nil) (sub_cons rfl (sub_cons rfl sub_nil)) (by exact subH_nil) (subH_same rfl subH_nil)))
         ·try dsimp only
          have hbe : bErr x16 = 0 := by (rw [bErr_eq]; simp_all; done)
          exact ⟨by omega, hP.trans (bErrs_next hx16 hbe)⟩
         ·try dsimp only
          omega
     ·have phs22 := hs22; try simp only [decide_eq_true_eq, decide_eq_false_iff_not, Bool.not_eq_true', Bool.not_eq_false', Bool.not_true, Bool.not_false] at phs22
      refine ol_s rfl rfl hs22 rfl ?_
      refine ol_s rfl rfl hs22 rfl ?_
      refine ol_s rfl rfl hs22 rfl ?_
      refine ol_s rfl rfl hs22 rfl ?_
      refine ol_u rfl rfl rfl ?_
      refine ol_u rfl rfl rfl ?_
      refine ol_u rfl rfl rfl ?_
      refine ol_s rfl rfl hs22 rfl ?_
      refine ol_r (r_pickF rfl hs22 rfl) rfl ?_
      refine ol_r (r_assign rfl) rfl ?_
      refine ol_nil (to_k0 (fun _ _ h => h) (hK13 _ _ _ _ _ ?_))
      clear hK13
      refine wp_condF rfl ?_
      refine wp_seq' fun K19 hK19 => ?_
      refine wp_reg ?_
      refine ol_r (r_fa (o' := 3) rfl fl24_3 rfl) rfl ?_
      refine ol_r (r_ld (id := 5) rfl rfl rfl sc4) rfl ?_
      refine ol_r (r_move rfl) rfl ?_
      refine ol_split (d := 35) rfl (fun hs35 => ?_) (fun hs35 => ?_)
      ·have phs35 := hs35; try simp only [decide_eq_true_eq, decide_eq_false_iff_not, Bool.not_eq_true', Bool.not_eq_false', Bool.not_true, Bool.not_false] at phs35
       refine ol_g rfl rfl hs35 ?_
       refine ol_r (r_fa (o' := 1) rfl fl24_1 rfl) rfl ?_
       refine ol_g rfl rfl hs35 ?_
       refine ol_r (r_ld (id := 5) rfl rfl rfl sc3) rfl ?_
       refine ol_g rfl rfl hs35 ?_
       refine ol_r (r_fa (o' := 0) rfl fl24_0 rfl) rfl ?_
       refine ol_g rfl rfl hs35 ?_
       refine ol_r (r_ld (id := 5) rfl rfl rfl sc3) rfl ?_
       refine ol_g rfl rfl hs35 ?_
       have hzz := hz.2.2.1 x16.size (List.mem_map_of_mem (f := (·.size)) (List.mem_of_getElem? hx16))
       refine ol_r (r_mul rfl rfl (by omega)) rfl ?_
       refine ol_g rfl rfl hs35 ?_
       refine ol_call rfl rfl cb69 rfl (fun w1 hb1 hs1 hB1 => Calls.mono (effort_in _ _ _ _) ?_)
       rintro e w2 ⟨rfl, hb2⟩
       refine After.below rfl hb1 hs1 hB1 hb2 ?_
       clear hb2 hB1 hs1 hb1 w2 w1
       refine ol_g rfl rfl hs35 ?_
       refine ol_r (r_not rfl) rfl ?_
       refine ol_g rfl rfl hs35 ?_
       refine ol_r (r_move rfl) rfl ?_
       refine ol_split (d := 43) rfl (fun hs43 => ?_) (fun hs43 => ?_)
       ·have phs43 := hs43; try simp only [decide_eq_true_eq, decide_eq_false_iff_not, Bool.not_eq_true', Bool.not_eq_false', Bool.not_true, Bool.not_false] at phs43
        refine ol_s rfl rfl hs43 rfl ?_
        refine ol_s rfl rfl hs43 rfl ?_
        refine ol_s rfl rfl hs43 rfl ?_
        refine ol_s rfl rfl hs43 rfl ?_
        refine ol_s rfl rfl hs43 rfl ?_
        refine ol_s rfl rfl hs43 rfl ?_
        refine ol_s rfl rfl hs43 rfl ?_
        refine ol_g rfl rfl hs35 ?_
        refine ol_r (r_pickT rfl hs43 rfl) rfl ?_
        refine ol_r (r_pickT rfl hs35 rfl) rfl ?_
        refine ol_r (r_assign rfl) rfl ?_
        refine ol_nil (to_k0 (fun _ _ h => h) (hK19 _ _ _ _ _ ?_))
        clear hK19
        refine wp_condT rfl ?_
        refine wp_seq' fun K20 hK20 => ?_
        refine wp_reg ?_
        refine ol_r (r_assign rfl) rfl ?_
        refine ol_nil (to_k0 (fun _ _ h => h) (hK20 _ _ _ _ _ ?_))
        clear hK20
        refine hQ.ret (rvs1 (rv_t rfl)) (fun _ _ h => h) fun w hb hs hB hkd => ?_
        first
          | (have hke : xs.length ≤ k := by omega
             exact ⟨by rw [chkC_b (Decidable.not_not.1 hc10), hP, List.drop_eq_nil_of_le hke]; rfl, hb⟩)
          | (refine ⟨congrArg (fun v => Ending.returned (Value.int .i64 v)) (chkC_at (Decidable.not_not.1 hc10) hP hx16 ?_ (by decide)).symm, hb⟩
             rw [bErr_eq]
             simp_all
             done)
       ·have phs43 := hs43; try simp only [decide_eq_true_eq, decide_eq_false_iff_not, Bool.not_eq_true', Bool.not_eq_false', Bool.not_true, Bool.not_false] at phs43
        refine ol_g rfl rfl hs43 ?_
        refine ol_r (r_fa (o' := 2) rfl fl24_2 rfl) rfl ?_
        refine ol_g rfl rfl hs43 ?_
        refine ol_r (r_ld (id := 5) rfl rfl rfl sc3) rfl ?_
        refine ol_g rfl rfl hs43 ?_
        refine ol_r (r_fa (o' := 0) rfl fl24_0 rfl) rfl ?_
        refine ol_g rfl rfl hs43 ?_
        refine ol_r (r_ld (id := 5) rfl rfl rfl sc3) rfl ?_
        refine ol_g rfl rfl hs43 ?_
        refine ol_r (r_sub rfl rfl (by omega)) rfl ?_
        refine ol_g rfl rfl hs43 ?_
        refine ol_call rfl rfl cb69 rfl (fun w1 hb1 hs1 hB1 => Calls.mono (effort_in _ _ _ _) ?_)
        rintro e w2 ⟨rfl, hb2⟩
        refine After.below rfl hb1 hs1 hB1 hb2 ?_
        clear hb2 hB1 hs1 hb1 w2 w1
        refine ol_g rfl rfl hs43 ?_
        refine ol_r (r_not rfl) rfl ?_
        refine ol_g rfl rfl hs35 ?_
        refine ol_r (r_pickF rfl hs43 rfl) rfl ?_
        refine ol_r (r_pickT rfl hs35 rfl) rfl ?_
        refine ol_r (r_assign rfl) rfl ?_
        refine ol_nil (to_k0 (fun _ _ h => h) (hK19 _ _ _ _ _ ?_))
        clear hK19
        first | refine wp_condD rfl (fun hc32 => ?_) (fun hc32 => ?_) | refine wp_condN rfl (fun hc32 => ?_) (fun hc32 => ?_) | refine wp_condNB rfl (fun hc32 => ?_) (fun hc32 => ?_) | refine wp_cond' rfl (fun hc32 => ?_) (fun hc32 => ?_)
        ·refine wp_seq' fun K21 hK21 => ?_
         refine wp_reg ?_
         refine ol_r (r_assign rfl) rfl ?_
         refine ol_nil (to_k0 (fun _ _ h => h) (hK21 _ _ _ _ _ ?_))
         clear hK21
         refine hQ.ret (rvs1 (rv_t rfl)) (fun _ _ h => h) fun w hb hs hB hkd => ?_
         first
           | (have hke : xs.length ≤ k := by omega
              exact ⟨by rw [chkC_b (Decidable.not_not.1 hc10), hP, List.drop_eq_nil_of_le hke]; rfl, hb⟩)
           | (refine ⟨congrArg (fun v => Ending.returned (Value.int .i64 v)) (chkC_at (Decidable.not_not.1 hc10) hP hx16 ?_ (by decide)).symm, hb⟩
              rw [bErr_eq]
              simp_all
              done)
        ·refine wp_skip' (to_k0 (fun _ _ h => h) (hK11 _ _ _ _ _ ?_))
         clear hK11
         refine wp_reg ?_
         refine ol_r (r_add rfl rfl (by omega)) rfl ?_
         have hz := sizesC_ok (Decidable.not_not.1 hc10)
         refine ol_r (r_move rfl) rfl ?_
         refine ol_nil (to_k0 (fun _ _ h => h) (hK8 (k + 1) _ _ ?_ ?_ (sub_cons rfl sub_nil) (sub_cons rfl (sub_cons rfl sub_nil)) (by exact subH_nil) (subH_same rfl subH_nil)))
         ·try dsimp only
          have hbe : bErr x16 = 0 := by (rw [bErr_eq]; simp_all; done)
          exact ⟨by omega, hP.trans (bErrs_next hx16 hbe)⟩
         ·try dsimp only
          omega
      ·have phs35 := hs35; try simp only [decide_eq_true_eq, decide_eq_false_iff_not, Bool.not_eq_true', Bool.not_eq_false', Bool.not_true, Bool.not_false] at phs35
       refine ol_s rfl rfl hs35 rfl ?_
       refine ol_s rfl rfl hs35 rfl ?_
       refine ol_s rfl rfl hs35 rfl ?_
       refine ol_s rfl rfl hs35 rfl ?_
       refine ol_s rfl rfl hs35 rfl ?_
       refine ol_s rfl rfl hs35 rfl ?_
       refine ol_s rfl rfl hs35 rfl ?_
       refine ol_s rfl rfl hs35 rfl ?_
       refine ol_u rfl rfl rfl ?_
       refine ol_u rfl rfl rfl ?_
       refine ol_u rfl rfl rfl ?_
       refine ol_u rfl rfl rfl ?_
       refine ol_u rfl rfl rfl ?_
       refine ol_u rfl rfl rfl ?_
       refine ol_u rfl rfl rfl ?_
       refine ol_s rfl rfl hs35 rfl ?_
       refine ol_r (r_pickF rfl hs35 rfl) rfl ?_
       refine ol_r (r_assign rfl) rfl ?_
       refine ol_nil (to_k0 (fun _ _ h => h) (hK19 _ _ _ _ _ ?_))
       clear hK19
       refine wp_condF rfl ?_
       refine wp_skip' (to_k0 (fun _ _ h => h) (hK11 _ _ _ _ _ ?_))
       clear hK11
       refine wp_reg ?_
       refine ol_r (r_add rfl rfl (by omega)) rfl ?_
       have hz := sizesC_ok (Decidable.not_not.1 hc10)
       refine ol_r (r_move rfl) rfl ?_
       refine ol_nil (to_k0 (fun _ _ h => h) (hK8 (k + 1) _ _ ?_ ?_ (sub_cons rfl sub_nil) (sub_cons rfl (sub_cons rfl sub_nil)) (by exact subH_nil) (subH_same rfl subH_nil)))
       ·try dsimp only
        have hbe : bErr x16 = 0 := by (rw [bErr_eq]; simp_all; done)
        exact ⟨by omega, hP.trans (bErrs_next hx16 hbe)⟩
       ·try dsimp only
        omega
    ·refine wp_exit' (to_k0 (fun _ _ h => h) (hK6 _ _ _ _ _ ?_))
     clear hK6
     refine wp_seq' fun K22 hK22 => ?_
     refine wp_reg ?_
     refine ol_r (r_assign rfl) rfl ?_
     refine ol_nil (to_k0 (fun _ _ h => h) (hK22 _ _ _ _ _ ?_))
     clear hK22
     refine hQ.ret (rvs1 (rv_t rfl)) (fun _ _ h => h) fun w hb hs hB hkd => ?_
     first
       | (have hke : xs.length ≤ k := by omega
          exact ⟨by rw [chkC_b (Decidable.not_not.1 hc10), hP, List.drop_eq_nil_of_le hke]; rfl, hb⟩)
       | (refine ⟨congrArg (fun v => Ending.returned (Value.int .i64 v)) (chkC_at (Decidable.not_not.1 hc10) hP hx16 ?_ (by decide)).symm, hb⟩
          rw [bErr_eq]
          simp_all
          done)
end Go.Proofs.Ytafkojlccknicaa
