/-
  Join: plain part.
-/
import Derived.Sort.EncStr
import Derived.Test.YtogcclagmobkiaaPartM
import Derived.Test.YtogcclagmobkiaaOrdM
namespace Go.Proofs.Ytogcclagmobkiaa
open Go Hx
set_option linter.unusedVariables false
set_option linter.unusedSimpArgs false
/-! #### names in order -/
def bytesB (b : ByteArray) : List UInt8 := b.data.toList
def ofB (l : List UInt8) : ByteArray := ⟨l.toArray⟩
theorem ofB_bytesB (b : ByteArray) : ofB (bytesB b) = b := by simp [ofB, bytesB]
theorem bytesB_ofB (l : List UInt8) : bytesB (ofB l) = l := by simp [ofB, bytesB]
theorem bytesB_inj {x y : ByteArray} (h : bytesB x = bytesB y) : x = y := by rw [← ofB_bytesB x, h, ofB_bytesB]
theorem less_eq : ∀ (x y : List UInt8), Op.bytesLess x y = decide (x < y)
  | [], [] => by simp [Op.bytesLess]
  | _ :: _, [] => by simp [Op.bytesLess]
  | [], _ :: _ => by simp [Op.bytesLess]
  | a :: x, b :: y => by
    rw [Op.bytesLess, less_eq x y]
    simp only [List.cons_lt_cons_iff]
    by_cases h1 : a < b <;> by_cases h2 : a = b <;> by_cases h3 : x < y <;> simp [h1, h2, h3]
theorem sLt_iff {x y : ByteArray} : sLt x y = true ↔ bytesB x < bytesB y := by
  unfold sLt; rw [less_eq, ByteArray.toList_eq, ByteArray.toList_eq, decide_eq_true_iff]; rfl
theorem sEq_iff {x y : ByteArray} : sEq x y = true ↔ x = y := by
  unfold sEq
  rw [ByteArray.toList_eq, ByteArray.toList_eq, beq_iff_eq]
  exact ⟨fun h => bytesB_inj h, fun h => by rw [h]⟩
def ltB (x y : ByteArray) : Prop := bytesB x < bytesB y
theorem ltB_asym (x y : ByteArray) (h : ltB x y) : ¬ltB y x := fun h2 => List.lt_irrefl _ (List.lt_trans h h2)
theorem ltB_trans {x y z : ByteArray} (h : ltB x y) (h2 : ltB y z) : ltB x z := List.lt_trans h h2
theorem ltB_tri (x y : ByteArray) (h : ¬ltB x y) (h2 : x ≠ y) : ltB y x := by
  apply Classical.byContradiction
  intro h3
  exact h2 (bytesB_inj (List.le_antisymm (List.not_lt.1 h3) (List.not_lt.1 h)))
/-- The names of a right activity. -/
theorem tags_up {a : ActD} (hg : GoodA a) : a.ts.Pairwise ltB := by
  have step : ∀ (k : Nat) (x y : ByteArray), a.ts[k]? = some x → a.ts[k + 1]? = some y → ltB x y := fun k x y hx hy => by
    have h := chkE_ok hg.t hy
    rw [ahead_succ hx] at h
    unfold fT at h
    by_cases h1 : nameB y = false
    · rw [if_pos h1] at h; omega
    · rw [if_neg h1] at h
      by_cases h2 : ordT (some x) y = true
      · rw [if_pos h2] at h; omega
      · have h3 : sLe y x ≠ true := h2
        unfold sLe at h3
        rw [Ne, Bool.or_eq_true, not_or] at h3
        exact ltB_tri y x (fun h4 => h3.1 (sLt_iff.2 h4)) (fun h4 => h3.2 (sEq_iff.2 h4))
  have far : ∀ (d k : Nat) (x y : ByteArray), a.ts[k]? = some x → a.ts[k + d + 1]? = some y → ltB x y := by
    intro d
    induction d with
    | zero => exact step
    | succ d ih =>
      intro k x y hx hy
      have hlt := (List.getElem?_eq_some_iff.1 hy).1
      have hz := List.getElem?_eq_getElem (l := a.ts) (i := k + d + 1) (by omega)
      exact ltB_trans (ih k x _ hx hz) (step _ _ _ hz hy)
  rw [List.pairwise_iff_getElem]
  intro i j hi hj hij
  exact far (j - i - 1) i _ _ (List.getElem?_eq_getElem hi) (by rw [show i + (j - i - 1) + 1 = j by omega]; exact List.getElem?_eq_getElem hj)
/-- The names of both, as the reference does it. -/
def tagR : List ByteArray → List ByteArray → List ByteArray
  | [], b => b
  | x :: a, [] => x :: a
  | x :: a, y :: b => if sLt x y = true then x :: tagR a (y :: b) else if sEq x y = true then y :: tagR a b else y :: tagR (x :: a) b
termination_by a b => a.length + b.length
theorem tagR_nil (b : List ByteArray) : tagR [] b = b := by rw [tagR]
theorem tagR_nilr : ∀ a : List ByteArray, tagR a [] = a
  | [] => by rw [tagR]
  | x :: a => by rw [tagR]
theorem tagR_a {x y : ByteArray} {a b : List ByteArray} (h : sLt x y = true) : tagR (x :: a) (y :: b) = x :: tagR a (y :: b) := by rw [tagR, if_pos h]
theorem tagR_e {x y : ByteArray} {a b : List ByteArray} (h : ¬sLt x y = true) (h2 : sEq x y = true) : tagR (x :: a) (y :: b) = y :: tagR a b := by rw [tagR, if_neg h, if_pos h2]
theorem tagR_b {x y : ByteArray} {a b : List ByteArray} (h : ¬sLt x y = true) (h2 : ¬sEq x y = true) : tagR (x :: a) (y :: b) = y :: tagR (x :: a) b := by rw [tagR, if_neg h, if_neg h2]
theorem mem_tagR : ∀ (a b : List ByteArray) (s : ByteArray), s ∈ tagR a b ↔ s ∈ a ∨ s ∈ b
  | [], b, s => by rw [tagR_nil]; simp
  | x :: a, [], s => by rw [tagR_nilr]; simp
  | x :: a, y :: b, s => by
    by_cases h1 : sLt x y = true
    · rw [tagR_a h1, List.mem_cons, mem_tagR a (y :: b) s, List.mem_cons (a := s) (b := x), or_assoc]
    · by_cases h2 : sEq x y = true
      · have he := sEq_iff.1 h2
        subst he
        rw [tagR_e h1 h2, List.mem_cons, mem_tagR a b s, List.mem_cons, List.mem_cons]
        constructor
        · rintro (h | h | h)
          · exact .inl (.inl h)
          · exact .inl (.inr h)
          · exact .inr (.inr h)
        · rintro ((h | h) | (h | h))
          · exact .inl h
          · exact .inr (.inl h)
          · exact .inl h
          · exact .inr (.inr h)
      · rw [tagR_b h1 h2, List.mem_cons, mem_tagR (x :: a) b s, List.mem_cons (a := s) (b := y)]
        constructor
        · rintro (h | h | h)
          · exact .inr (.inl h)
          · exact .inl h
          · exact .inr (.inr h)
        · rintro (h | h | h)
          · exact .inr (.inl h)
          · exact .inl h
          · exact .inr (.inr h)
termination_by a b => a.length + b.length
theorem tagR_up : ∀ (a b : List ByteArray), a.Pairwise ltB → b.Pairwise ltB → (tagR a b).Pairwise ltB
  | [], b, _, hb => by rw [tagR_nil]; exact hb
  | x :: a, [], ha, _ => by rw [tagR_nilr]; exact ha
  | x :: a, y :: b, ha, hb => by
    have ha' := List.pairwise_cons.1 ha
    have hb' := List.pairwise_cons.1 hb
    by_cases h1 : sLt x y = true
    · have h0 : ltB x y := sLt_iff.1 h1
      rw [tagR_a h1, List.pairwise_cons]
      refine ⟨fun s hs => ?_, tagR_up a (y :: b) ha'.2 hb⟩
      rcases (mem_tagR _ _ _).1 hs with h | h
      · exact ha'.1 s h
      · rcases List.mem_cons.1 h with h | h
        · subst h; exact h0
        · exact ltB_trans h0 (hb'.1 s h)
    · by_cases h2 : sEq x y = true
      · have he := sEq_iff.1 h2
        subst he
        rw [tagR_e h1 h2, List.pairwise_cons]
        refine ⟨fun s hs => ?_, tagR_up a b ha'.2 hb'.2⟩
        rcases (mem_tagR _ _ _).1 hs with h | h
        · exact ha'.1 s h
        · exact hb'.1 s h
      · have h0 : ltB y x := ltB_tri x y (fun h => h1 (sLt_iff.2 h)) (fun h => h2 (sEq_iff.2 h))
        rw [tagR_b h1 h2, List.pairwise_cons]
        refine ⟨fun s hs => ?_, tagR_up (x :: a) b ha hb'.2⟩
        rcases (mem_tagR _ _ _).1 hs with h | h
        · rcases List.mem_cons.1 h with h | h
          · subst h; exact h0
          · exact ltB_trans h0 (ha'.1 s h)
        · exact hb'.1 s h
termination_by a b => a.length + b.length
theorem tagR_len : ∀ (a b : List ByteArray), (tagR a b).length ≤ a.length + b.length
  | [], b => by rw [tagR_nil]; simp
  | x :: a, [] => by rw [tagR_nilr]; simp
  | x :: a, y :: b => by
    by_cases h1 : sLt x y = true
    · rw [tagR_a h1]; have := tagR_len a (y :: b); simp only [List.length_cons] at *; omega
    · by_cases h2 : sEq x y = true
      · rw [tagR_e h1 h2]; have := tagR_len a b; simp only [List.length_cons] at *; omega
      · rw [tagR_b h1 h2]; have := tagR_len (x :: a) b; simp only [List.length_cons] at *; omega
termination_by a b => a.length + b.length
/-- .. and as the program does it. -/
def ordBA (xs : List ByteArray) : List ByteArray := (Go.Lib.compact ((xs.map bytesB).mergeSort fun x y => decide (x ≤ y))).map ofB
theorem sortB_pair (xs : List (List UInt8)) : (xs.mergeSort fun x y => decide (x ≤ y)).Pairwise (· ≤ ·) := by
  have h := List.pairwise_mergeSort (le := fun x y : List UInt8 => decide (x ≤ y)) (fun a b c h1 h2 => decide_eq_true (List.le_trans (of_decide_eq_true h1) (of_decide_eq_true h2))) (fun a b => by
    rcases List.le_total a b with h | h
    · simp [h]
    · simp [h]) xs
  exact h.imp fun h => of_decide_eq_true h
theorem ordBA_up (xs : List ByteArray) : (ordBA xs).Pairwise ltB := by
  unfold ordBA
  rw [List.pairwise_map]
  refine (compact_strict (le := (· ≤ ·)) (fun a => List.le_refl a) (fun a b h1 h2 => List.le_antisymm h1 h2) (sortB_pair (xs.map bytesB))).imp fun {a b} h => ?_
  show bytesB (ofB a) < bytesB (ofB b)
  rw [bytesB_ofB, bytesB_ofB]
  apply Decidable.byContradiction
  intro h3
  exact h.2 (List.le_antisymm h.1 (List.not_lt.1 h3))
theorem mem_ordBA {xs : List ByteArray} {x : ByteArray} : x ∈ ordBA xs ↔ x ∈ xs := by
  unfold ordBA
  rw [List.mem_map]
  constructor
  · rintro ⟨l, hl, rfl⟩
    rw [mem_compact, List.mem_mergeSort, List.mem_map] at hl
    obtain ⟨y, hy, rfl⟩ := hl
    rw [ofB_bytesB]; exact hy
  · intro h
    exact ⟨bytesB x, by rw [mem_compact, List.mem_mergeSort]; exact List.mem_map_of_mem h, ofB_bytesB x⟩
theorem ordBA_eq {a b : List ByteArray} (ha : a.Pairwise ltB) (hb : b.Pairwise ltB) : ordBA (a ++ b) = tagR a b :=
  strict_unique (lt := ltB) ltB_asym (ordBA_up _) (tagR_up a b ha hb) fun s => by rw [mem_ordBA, mem_tagR, List.mem_append]
/-! #### samples and laps -/
def SmpR.fwd (by_ : Int) (x : SmpR) : SmpR := ⟨x.at_ + by_, x.x, x.y, x.z, x.pulse, x.power, x.steps⟩
def LapR.fwd (by_ : Int) (x : LapR) : LapR := ⟨x.from_ + by_, x.to + by_, x.name⟩
def joinK (as bs : List SmpR) (by_ : Int) : Nat → List SmpR
  | 0 => as
  | k + 1 => match bs[k]? with
    | some s => if 0 < k ∨ as.length = 0 ∨ spanL as < s.at_ + by_ then joinK as bs by_ k ++ [s.fwd by_] else joinK as bs by_ k
    | none => joinK as bs by_ k
theorem joinK_yes {as bs : List SmpR} {by_ : Int} {k : Nat} {s : SmpR} (h : bs[k]? = some s) (hc : 0 < k ∨ as.length = 0 ∨ spanL as < s.at_ + by_) : joinK as bs by_ (k + 1) = joinK as bs by_ k ++ [s.fwd by_] := by rw [joinK, h]; exact if_pos hc
theorem joinK_no {as bs : List SmpR} {by_ : Int} {k : Nat} {s : SmpR} (h : bs[k]? = some s) (hc : ¬(0 < k ∨ as.length = 0 ∨ spanL as < s.at_ + by_)) : joinK as bs by_ (k + 1) = joinK as bs by_ k := by rw [joinK, h]; exact if_neg hc
theorem joinK_len (as bs : List SmpR) (by_ : Int) : ∀ k, (joinK as bs by_ k).length ≤ as.length + k
  | 0 => Nat.le_refl _
  | k + 1 => by
    have ih := joinK_len as bs by_ k
    cases h : bs[k]? with
    | none => rw [joinK, h]; show (joinK as bs by_ k).length ≤ _; omega
    | some s =>
      by_cases hc : 0 < k ∨ as.length = 0 ∨ spanL as < s.at_ + by_
      · rw [joinK_yes h hc, List.length_append]; simp only [List.length_cons, List.length_nil]; omega
      · rw [joinK_no h hc]; omega
theorem last_snoc {α : Type} (l : List α) (x : α) : (l ++ [x])[(l ++ [x]).length - 1]? = some x := by simp
/-- The last one so far, behind the first round. -/
theorem join_last {st st' by_ : Int} {as bs : List SmpR} (ha : SmpOk st as) (hb : SmpOk st' bs) (hby : spanL as ≤ by_) : ∀ k, 0 < k → k ≤ bs.length → ∃ x y, (joinK as bs by_ k)[(joinK as bs by_ k).length - 1]? = some x ∧ bs[k - 1]? = some y ∧ x.at_ = y.at_ + by_
  | 0, h, _ => by omega
  | k + 1, _, hk => by
    have hy := List.getElem?_eq_getElem (l := bs) (i := k) (by omega)
    by_cases hc : 0 < k ∨ as.length = 0 ∨ spanL as < bs[k].at_ + by_
    · rw [joinK_yes hy hc]
      exact ⟨_, _, last_snoc _ _, hy, rfl⟩
    · rw [joinK_no hy hc]
      have hk0 : k = 0 := by omega
      subst hk0
      have hz := hb.first _ hy
      have hx := List.getElem?_eq_getElem (l := as) (i := as.length - 1) (by omega)
      have hs := spanL_get hx (by omega)
      refine ⟨_, _, hx, hy, ?_⟩
      rw [← hs]; omega
/-- The program asks another question, with the same answer. -/
theorem join_cond {st st' by_ : Int} {as bs : List SmpR} (ha : SmpOk st as) (hb : SmpOk st' bs) (hby : spanL as ≤ by_) {k : Nat} {s : SmpR} (hs : bs[k]? = some s) :
    ((joinK as bs by_ k).length = 0 ∨ ∀ x, (joinK as bs by_ k)[(joinK as bs by_ k).length - 1]? = some x → x.at_ ≠ s.at_ + by_) ↔ (0 < k ∨ as.length = 0 ∨ spanL as < s.at_ + by_) := by
  have hlt := (List.getElem?_eq_some_iff.1 hs).1
  by_cases h0 : k = 0
  · subst h0
    have hz := hb.first _ hs
    show (as.length = 0 ∨ ∀ x, as[as.length - 1]? = some x → x.at_ ≠ s.at_ + by_) ↔ _
    constructor
    · rintro (h | h)
      · exact .inr (.inl h)
      · by_cases hl : as.length = 0
        · exact .inr (.inl hl)
        · have hx := List.getElem?_eq_getElem (l := as) (i := as.length - 1) (by omega)
          have h1 := h _ hx
          have h2 := spanL_get hx (by omega)
          exact .inr (.inr (by omega))
    · rintro (h | h | h)
      · omega
      · exact .inl h
      · refine .inr fun x hx => ?_
        have hl := (List.getElem?_eq_some_iff.1 hx).1
        have h2 := spanL_get hx (by omega)
        omega
  · refine ⟨fun _ => .inl (by omega), fun _ => .inr fun x hx => ?_⟩
    obtain ⟨x', y, h1, h2, h3⟩ := join_last ha hb hby k (by omega) (by omega)
    rw [hx] at h1; cases h1
    have := hb.rise (k - 1) y s h2 (by rw [show k - 1 + 1 = k by omega]; exact hs)
    omega
def fwdL (by_ : Int) (l : List LapR) : List LapR := l.map (LapR.fwd by_)
theorem fwdL_succ {by_ : Int} {l : List LapR} {k : Nat} {x : LapR} (h : l[k]? = some x) : fwdL by_ (l.take (k + 1)) = fwdL by_ (l.take k) ++ [x.fwd by_] := by
  unfold fwdL; rw [take_succ_get h, List.map_append]; rfl
def joinD (a b : ActD) : ActD := ⟨a.name, a.sport, a.start, joinK a.ss b.ss (b.start - a.start) b.ss.length, a.ls ++ fwdL (b.start - a.start) b.ls, tagR a.ts b.ts⟩
/-- What Join returns. -/
def joinR (a b : ActD) : ActD × Int :=
  if chkA a ≠ 0 then (noA, chkA a) else if chkA b ≠ 0 then (noA, chkA b)
  else if a.sport ≠ b.sport then (noA, 7) else if b.start - a.start < spanL a.ss then (noA, 11)
  else if 20000 < (joinD a b).ss.length ∨ 200 < (joinD a b).ls.length ∨ 20 < (joinD a b).ts.length then (noA, 3)
  else if chkA (joinD a b) ≠ 0 then (noA, chkA (joinD a b)) else (joinD a b, 0)
section
variable {a b : ActD}
theorem joinR_a (h : chkA a ≠ 0) : joinR a b = (noA, chkA a) := if_pos h
theorem joinR_b (h : ¬chkA a ≠ 0) (h2 : chkA b ≠ 0) : joinR a b = (noA, chkA b) := by rw [joinR, if_neg h, if_pos h2]
theorem joinR_7 (h : ¬chkA a ≠ 0) (h2 : ¬chkA b ≠ 0) (h3 : a.sport ≠ b.sport) : joinR a b = (noA, 7) := by rw [joinR, if_neg h, if_neg h2, if_pos h3]
theorem joinR_11 (h : ¬chkA a ≠ 0) (h2 : ¬chkA b ≠ 0) (h3 : ¬a.sport ≠ b.sport) (h4 : b.start - a.start < spanL a.ss) : joinR a b = (noA, 11) := by rw [joinR, if_neg h, if_neg h2, if_neg h3, if_pos h4]
theorem joinR_d (h : ¬chkA a ≠ 0) (h2 : ¬chkA b ≠ 0) (h3 : ¬a.sport ≠ b.sport) (h4 : ¬b.start - a.start < spanL a.ss) : joinR a b = if 20000 < (joinD a b).ss.length ∨ 200 < (joinD a b).ls.length ∨ 20 < (joinD a b).ts.length then (noA, 3) else if chkA (joinD a b) ≠ 0 then (noA, chkA (joinD a b)) else (joinD a b, 0) := by rw [joinR, if_neg h, if_neg h2, if_neg h3, if_neg h4]
end
end Go.Proofs.Ytogcclagmobkiaa
