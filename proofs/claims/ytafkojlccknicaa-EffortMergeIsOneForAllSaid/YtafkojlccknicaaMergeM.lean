/-
  Curves and their merges: plain part.
-/
import Derived.Test.YtafkojlccknicaaOrdM
import Derived.Test.YtafkojlccknicaaZonesM
import Derived.Test.YtafkojlccknicaaEncBest
namespace Go.Proofs.Ytafkojlccknicaa
set_option linter.unusedVariables false
set_option linter.unusedSimpArgs false
def bErr (b : BestR) : Int :=
  if b.found = false then (if b.sum = 0 ∧ b.at_ = 0 then 0 else 2)
  else if 0 ≤ b.sum ∧ b.sum ≤ b.size * 1000000000 ∧ 0 ≤ b.at_ ∧ b.at_ ≤ 1000000 - b.size then 0 else 9
def bErrs : List BestR → Int
  | [] => 0
  | b :: r => if bErr b = 0 then bErrs r else bErr b
def szs (c : List BestR) : List Int := c.map (·.size)
def chkC (c : List BestR) : Int := if sizesC (szs c) ≠ 0 then sizesC (szs c) else bErrs c
theorem bErrs_ok : ∀ {c : List BestR}, bErrs c = 0 → ∀ x ∈ c, bErr x = 0
  | [], _, x, h => by simp at h
  | b :: r, h, x, hx => by
    rw [bErrs] at h
    by_cases hb : bErr b = 0
    · rw [if_pos hb] at h
      rcases List.mem_cons.1 hx with e | e
      · subst e; exact hb
      · exact bErrs_ok h x e
    · rw [if_neg hb] at h; exact absurd h hb
theorem bErrs_of : ∀ {c : List BestR}, (∀ x ∈ c, bErr x = 0) → bErrs c = 0
  | [], _ => rfl
  | b :: r, h => by rw [bErrs, if_pos (h b (by simp))]; exact bErrs_of fun x hx => h x (List.mem_cons_of_mem _ hx)
theorem bErrs_next {c : List BestR} {k : Nat} {b : BestR} (h : c[k]? = some b) (hb : bErr b = 0) : bErrs (c.drop k) = bErrs (c.drop (k + 1)) := by
  rw [drop_cons_get h, bErrs, if_pos hb]
theorem bErrs_bad {c : List BestR} {k : Nat} {b : BestR} (h : c[k]? = some b) (hb : bErr b ≠ 0) : bErrs (c.drop k) = bErr b := by
  rw [drop_cons_get h, bErrs, if_neg hb]
def RisingB (c : List BestR) : Prop := (szs c).Pairwise (· < ·)
theorem rising_pair {xs : List Int} : Rising xs ↔ xs.Pairwise (· < ·) := by
  rw [List.pairwise_iff_getElem]
  constructor
  · intro h i j hi hj hij
    exact h i j _ _ hij (List.getElem?_eq_getElem hi) (List.getElem?_eq_getElem hj)
  · intro h i j x y hij hx hy
    obtain ⟨hi, rfl⟩ := List.getElem?_eq_some_iff.1 hx
    obtain ⟨hj, rfl⟩ := List.getElem?_eq_some_iff.1 hy
    exact h i j hi hj hij
/-- What a right curve is. -/
structure CurveOk (c : List BestR) : Prop where
  len : 0 < c.length ∧ c.length ≤ 100
  sz : ∀ x ∈ c, 1 ≤ x.size ∧ x.size ≤ 1000000
  up : RisingB c
  ok : ∀ x ∈ c, bErr x = 0
theorem chkC_ok {c : List BestR} (h : chkC c = 0) : CurveOk c := by
  unfold chkC at h
  by_cases h1 : sizesC (szs c) = 0
  · rw [if_neg (fun h => h h1)] at h
    obtain ⟨a1, a2, a3, a4⟩ := sizesC_ok h1
    have hl : (szs c).length = c.length := List.length_map _
    exact ⟨⟨by omega, by omega⟩, fun x hx => a3 _ (List.mem_map_of_mem hx), rising_pair.1 a4, bErrs_ok h⟩
  · rw [if_pos h1] at h; exact absurd h h1
theorem chkG_of : ∀ (xs : List Int) (p : Option Int), (∀ x ∈ xs, 1 ≤ x ∧ x ≤ 1000000) → xs.Pairwise (· < ·) → (∀ y ∈ p, ∀ x ∈ xs, y < x) → chkG (inB · 1 1000000) (fun y x => decide (x ≤ y)) p xs = 0
  | [], p, _, _, _ => rfl
  | x :: r, p, h1, h2, h3 => by
    rw [List.pairwise_cons] at h2
    have hx := h1 x (by simp)
    rw [chkG_cons, if_neg (by rw [show inB x 1 1000000 = true from inB_iff.2 hx]; simp)]
    have ho : ordG (fun y x : Int => decide (x ≤ y)) p x = false := by
      cases p with
      | none => rfl
      | some y => exact decide_eq_false (by have := h3 y rfl x (by simp); omega)
    rw [if_neg (by rw [ho]; simp)]
    exact chkG_of r (some x) (fun y hy => h1 y (List.mem_cons_of_mem _ hy)) h2.2 fun y hy z hz => by cases hy; exact h2.1 z hz
theorem CurveOk.chk {c : List BestR} (h : CurveOk c) : chkC c = 0 := by
  have hl : (szs c).length = c.length := List.length_map _
  have h1 : sizesC (szs c) = 0 := by
    unfold sizesC
    rw [if_neg (by have := h.len; omega), if_neg (by have := h.len; omega)]
    exact chkG_of _ _ (fun x hx => by obtain ⟨y, hy, rfl⟩ := List.mem_map.1 hx; exact h.sz y hy) h.up (fun y hy => by cases hy)
  unfold chkC
  rw [if_neg (fun h => h h1)]
  exact bErrs_of h.ok
/-- Is a worse than b? -/
def lessB (a b : BestR) : Bool := b.found && (!a.found || decide (a.sum < b.sum))
def lkB : List BestR → Int → Option BestR
  | [], _ => none
  | b :: r, s => if b.size = s then some b else lkB r s
def pkO : Option BestR → Option BestR → Option BestR
  | none, y => y
  | some x, none => some x
  | some x, some y => some (if lessB x y = true then y else x)
def noB : BestR := ⟨0, 0, 0, false⟩
def mgR : List BestR → List BestR → List BestR
  | [], b => b
  | x :: a, [] => x :: a
  | x :: a, y :: b => if x.size < y.size then x :: mgR a (y :: b) else if y.size < x.size then y :: mgR (x :: a) b else (if lessB x y = true then y else x) :: mgR a b
termination_by a b => a.length + b.length
theorem mgR_nil (b : List BestR) : mgR [] b = b := by rw [mgR]
theorem mgR_nilr : ∀ a : List BestR, mgR a [] = a
  | [] => by rw [mgR]
  | x :: a => by rw [mgR]
theorem mgR_a {x y : BestR} {a b : List BestR} (h : x.size < y.size) : mgR (x :: a) (y :: b) = x :: mgR a (y :: b) := by rw [mgR, if_pos h]
theorem mgR_b {x y : BestR} {a b : List BestR} (h : y.size < x.size) : mgR (x :: a) (y :: b) = y :: mgR (x :: a) b := by rw [mgR, if_neg (by omega), if_pos h]
theorem mgR_c {x y : BestR} {a b : List BestR} (h : ¬x.size < y.size) (h2 : ¬y.size < x.size) : mgR (x :: a) (y :: b) = (if lessB x y = true then y else x) :: mgR a b := by rw [mgR, if_neg h, if_neg h2]
theorem szs_cons (x : BestR) (a : List BestR) : szs (x :: a) = x.size :: szs a := rfl
theorem mem_szs_cons {x : BestR} {a : List BestR} {s : Int} : s ∈ szs (x :: a) ↔ s = x.size ∨ s ∈ szs a := List.mem_cons
theorem pk_size {x y : BestR} (h : x.size = y.size) : (if lessB x y = true then y else x).size = x.size := by split <;> simp [h]
theorem mem_mgR : ∀ (a b : List BestR) (s : Int), s ∈ szs (mgR a b) ↔ s ∈ szs a ∨ s ∈ szs b
  | [], b, s => by rw [mgR_nil]; simp [szs]
  | x :: a, [], s => by rw [mgR_nilr]; simp [szs]
  | x :: a, y :: b, s => by
    by_cases h1 : x.size < y.size
    · rw [mgR_a h1, szs_cons, List.mem_cons, mem_mgR a (y :: b) s, szs_cons x a, List.mem_cons, or_assoc]
    · by_cases h2 : y.size < x.size
      · rw [mgR_b h2, szs_cons, List.mem_cons, mem_mgR (x :: a) b s, szs_cons y b, List.mem_cons]
        constructor
        · rintro (h | h | h)
          · exact .inr (.inl h)
          · exact .inl h
          · exact .inr (.inr h)
        · rintro (h | h | h)
          · exact .inr (.inl h)
          · exact .inl h
          · exact .inr (.inr h)
      · have he : x.size = y.size := by omega
        rw [mgR_c h1 h2, szs_cons, List.mem_cons, mem_mgR a b s, pk_size he, szs_cons, szs_cons, List.mem_cons, List.mem_cons, ← he]
        constructor
        · rintro (h | h | h)
          · exact .inl (.inl h)
          · exact .inl (.inr h)
          · exact .inr (.inr h)
        · rintro ((h | h) | (h | h))
          · exact .inl h
          · exact .inr (.inl h)
          · exact .inl h
          · exact .inr (.inr h)
termination_by a b => a.length + b.length
theorem risB_cons {x : BestR} {a : List BestR} : RisingB (x :: a) ↔ (∀ s ∈ szs a, x.size < s) ∧ RisingB a := List.pairwise_cons
theorem mgR_rising : ∀ (a b : List BestR), RisingB a → RisingB b → RisingB (mgR a b)
  | [], b, _, hb => by rw [mgR_nil]; exact hb
  | x :: a, [], ha, _ => by rw [mgR_nilr]; exact ha
  | x :: a, y :: b, ha, hb => by
    have ha' := risB_cons.1 ha
    have hb' := risB_cons.1 hb
    by_cases h1 : x.size < y.size
    · rw [mgR_a h1, risB_cons]
      refine ⟨fun s hs => ?_, mgR_rising a (y :: b) ha'.2 hb⟩
      rcases (mem_mgR _ _ _).1 hs with h | h
      · exact ha'.1 s h
      · rcases mem_szs_cons.1 h with h | h
        · omega
        · have := hb'.1 s h; omega
    · by_cases h2 : y.size < x.size
      · rw [mgR_b h2, risB_cons]
        refine ⟨fun s hs => ?_, mgR_rising (x :: a) b ha hb'.2⟩
        rcases (mem_mgR _ _ _).1 hs with h | h
        · rcases mem_szs_cons.1 h with h | h
          · omega
          · have := ha'.1 s h; omega
        · exact hb'.1 s h
      · rw [mgR_c h1 h2, risB_cons, pk_size (by omega)]
        refine ⟨fun s hs => ?_, mgR_rising a b ha'.2 hb'.2⟩
        rcases (mem_mgR _ _ _).1 hs with h | h
        · exact ha'.1 s h
        · have := hb'.1 s h; omega
termination_by a b => a.length + b.length
theorem lkB_none : ∀ {c : List BestR} {s : Int}, s ∉ szs c → lkB c s = none
  | [], _, _ => rfl
  | b :: r, s, h => by
    rw [szs_cons, List.mem_cons, not_or] at h
    rw [lkB, if_neg (fun e => h.1 e.symm), lkB_none h.2]
theorem lkB_some : ∀ {c : List BestR} {s : Int} {x : BestR}, lkB c s = some x → x ∈ c ∧ x.size = s
  | b :: r, s, x, h => by
    rw [lkB] at h
    by_cases hb : b.size = s
    · rw [if_pos hb] at h; cases h; exact ⟨by simp, hb⟩
    · rw [if_neg hb] at h; have := lkB_some h; exact ⟨List.mem_cons_of_mem _ this.1, this.2⟩
theorem lkB_mem : ∀ {c : List BestR}, RisingB c → ∀ {x : BestR}, x ∈ c → lkB c x.size = some x
  | b :: r, hc, x, hx => by
    rw [risB_cons] at hc
    rw [lkB]
    rcases List.mem_cons.1 hx with e | e
    · subst e; rw [if_pos rfl]
    · have := hc.1 x.size (List.mem_map_of_mem e)
      rw [if_neg (by omega), lkB_mem hc.2 e]
theorem lkB_isSome {c : List BestR} {s : Int} : s ∈ szs c ↔ (lkB c s).isSome = true := by
  constructor
  · intro h
    cases hl : lkB c s with
    | some x => rfl
    | none =>
      exfalso
      induction c with
      | nil => simp [szs] at h
      | cons b r ih =>
        rw [lkB] at hl
        by_cases hb : b.size = s
        · rw [if_pos hb] at hl; cases hl
        · rw [if_neg hb] at hl
          rcases List.mem_cons.1 h with e | e
          · exact hb e.symm
          · exact ih e hl
  · intro h
    obtain ⟨x, hx⟩ := Option.isSome_iff_exists.1 h
    obtain ⟨h1, rfl⟩ := lkB_some hx
    exact List.mem_map_of_mem h1
theorem lkB_gt {c : List BestR} {x : BestR} {s : Int} (h : x.size < s) : lkB (x :: c) s = lkB c s := by rw [lkB, if_neg (by omega)]
theorem lkB_lt {c : List BestR} {s : Int} (h : ∀ t ∈ szs c, s < t) : lkB c s = none := lkB_none fun hm => by have := h s hm; omega
/-- What a merge tells of a size. -/
theorem lk_mgR : ∀ (a b : List BestR), RisingB a → RisingB b → ∀ s, lkB (mgR a b) s = pkO (lkB a s) (lkB b s)
  | [], b, _, hb, s => by rw [mgR_nil]; rfl
  | x :: a, [], ha, _, s => by
    rw [mgR_nilr]
    show lkB (x :: a) s = pkO (lkB (x :: a) s) none
    cases lkB (x :: a) s <;> rfl
  | x :: a, y :: b, ha, hb, s => by
    have ha' := risB_cons.1 ha
    have hb' := risB_cons.1 hb
    by_cases h1 : x.size < y.size
    · rw [mgR_a h1, lkB, lk_mgR a (y :: b) ha'.2 hb s, show lkB (x :: a) s = if x.size = s then some x else lkB a s from rfl]
      by_cases hs : x.size = s
      · have hn : lkB (y :: b) s = none := lkB_lt fun t ht => by
          rcases mem_szs_cons.1 ht with h | h
          · omega
          · have := hb'.1 t h; omega
        rw [if_pos hs, if_pos hs, hn]; rfl
      · rw [if_neg hs, if_neg hs]
    · by_cases h2 : y.size < x.size
      · rw [mgR_b h2, lkB, lk_mgR (x :: a) b ha hb'.2 s, show lkB (y :: b) s = if y.size = s then some y else lkB b s from rfl]
        by_cases hs : y.size = s
        · have hn : lkB (x :: a) s = none := lkB_lt fun t ht => by
            rcases mem_szs_cons.1 ht with h | h
            · omega
            · have := ha'.1 t h; omega
          rw [if_pos hs, if_pos hs, hn]; rfl
        · rw [if_neg hs, if_neg hs]
      · have he : x.size = y.size := by omega
        rw [mgR_c h1 h2, lkB, lk_mgR a b ha'.2 hb'.2 s, pk_size he, show lkB (x :: a) s = if x.size = s then some x else lkB a s from rfl, show lkB (y :: b) s = if y.size = s then some y else lkB b s from rfl, ← he]
        by_cases hs : x.size = s
        · rw [if_pos hs, if_pos hs, if_pos hs]; rfl
        · rw [if_neg hs, if_neg hs, if_neg hs]
termination_by a b => a.length + b.length
theorem curve_ext {c d : List BestR} (hc : RisingB c) (hd : RisingB d) (h : ∀ s, lkB c s = lkB d s) : c = d := by
  have hs : szs c = szs d := strict_unique (lt := (· < ·)) (fun a b h1 h2 => by omega) hc hd fun s => by rw [lkB_isSome, lkB_isSome, h]
  have key : ∀ {c : List BestR}, RisingB c → c = (szs c).map fun s => (lkB c s).getD noB := fun {c} hc => by
    rw [szs, List.map_map]
    have h2 : ∀ x ∈ c, ((fun s => (lkB c s).getD noB) ∘ (·.size)) x = _root_.id x := fun x hx => by
      show (lkB c x.size).getD noB = x
      rw [lkB_mem hc hx]; rfl
    rw [List.map_congr_left h2, List.map_id]
  rw [key hc, key hd, hs]
  exact List.map_congr_left fun s _ => by rw [h]
/-- The better of two that may be there, or none. -/
def pkV (x y : Option BestR) : BestR := (pkO x y).getD noB
def mgP (a b : List BestR) : List BestR := (ordI (szs a ++ szs b)).map fun s => pkV (lkB a s) (lkB b s)
theorem mgP_eq {a b : List BestR} (ha : RisingB a) (hb : RisingB b) : mgP a b = mgR a b := by
  have hr := mgR_rising a b ha hb
  have hs : ordI (szs a ++ szs b) = szs (mgR a b) := ordI_of hr fun s => by rw [mem_mgR, List.mem_append]
  rw [mgP, hs, szs, List.map_map]
  have h2 : ∀ x ∈ mgR a b, ((fun s => pkV (lkB a s) (lkB b s)) ∘ (·.size)) x = _root_.id x := fun x hx => by
    show (pkO (lkB a x.size) (lkB b x.size)).getD noB = x
    rw [← lk_mgR a b ha hb, lkB_mem hr hx]; rfl
  rw [List.map_congr_left h2, List.map_id]
theorem pkO_assoc (x y z : Option BestR) : pkO (pkO x y) z = pkO x (pkO y z) := by
  rcases x with _ | ⟨n1, s1, a1, f1⟩ <;> rcases y with _ | ⟨n2, s2, a2, f2⟩ <;> rcases z with _ | ⟨n3, s3, a3, f3⟩ <;> try rfl
  cases f1 <;> cases f2 <;> cases f3 <;> simp only [pkO, lessB, Bool.false_and, Bool.true_and, Bool.not_true, Bool.not_false, Bool.false_or, Bool.true_or, if_true, Bool.false_eq_true, if_false, decide_eq_true_eq] <;> (repeat' split) <;> first | rfl | (exfalso; simp_all; omega) | (simp_all; done) | (simp_all; omega)
theorem pkO_self (x : Option BestR) : pkO x x = x := by
  rcases x with _ | x
  · rfl
  · show some (if lessB x x = true then x else x) = some x
    split <;> rfl
theorem mgR_assoc {a b c : List BestR} (ha : RisingB a) (hb : RisingB b) (hc : RisingB c) : mgR (mgR a b) c = mgR a (mgR b c) := by
  have h1 := mgR_rising a b ha hb
  have h2 := mgR_rising b c hb hc
  refine curve_ext (mgR_rising _ _ h1 hc) (mgR_rising _ _ ha h2) fun s => ?_
  rw [lk_mgR _ _ h1 hc, lk_mgR _ _ ha hb, lk_mgR _ _ ha h2, lk_mgR _ _ hb hc, pkO_assoc]
theorem mgR_self {a : List BestR} (ha : RisingB a) : mgR a a = a :=
  curve_ext (mgR_rising _ _ ha ha) ha fun s => by rw [lk_mgR _ _ ha ha, pkO_self]
theorem mem_mgR_or {a b : List BestR} (ha : RisingB a) (hb : RisingB b) {x : BestR} (h : x ∈ mgR a b) : x ∈ a ∨ x ∈ b := by
  have h1 := lkB_mem (mgR_rising a b ha hb) h
  rw [lk_mgR a b ha hb] at h1
  cases h2 : lkB a x.size with
  | none => rw [h2] at h1; exact .inr (lkB_some h1).1
  | some y =>
    cases h3 : lkB b x.size with
    | none => rw [h2, h3] at h1; cases h1; exact .inl (lkB_some h2).1
    | some z =>
      rw [h2, h3] at h1
      simp only [pkO, Option.some.injEq] at h1
      split at h1
      · subst h1; exact .inr (lkB_some h3).1
      · subst h1; exact .inl (lkB_some h2).1
theorem mgR_ok {a b : List BestR} (ha : CurveOk a) (hb : CurveOk b) (hl : (mgR a b).length ≤ 100) : CurveOk (mgR a b) := by
  have hr := mgR_rising a b ha.up hb.up
  refine ⟨⟨?_, hl⟩, fun x hx => ?_, hr, fun x hx => ?_⟩
  · obtain ⟨x, hx⟩ := List.exists_mem_of_length_pos ha.len.1
    have : x.size ∈ szs (mgR a b) := (mem_mgR _ _ _).2 (.inl (List.mem_map_of_mem hx))
    obtain ⟨y, hy, _⟩ := List.mem_map.1 this
    exact List.length_pos_of_mem hy
  · rcases mem_mgR_or ha.up hb.up hx with h | h
    · exact ha.sz x h
    · exact hb.sz x h
  · rcases mem_mgR_or ha.up hb.up hx with h | h
    · exact ha.ok x h
    · exact hb.ok x h
/-- What Merge returns. -/
def mergeV (a b : List BestR) : List BestR × Int :=
  if chkC a ≠ 0 then ([], chkC a) else if chkC b ≠ 0 then ([], chkC b) else if 100 < (mgR a b).length then ([], 3) else (mgR a b, 0)
/-- What Beats returns. -/
def btsL (a b : List BestR) : List Int := (a.filter fun x => lessB ((lkB b x.size).getD noB) x).map (·.size)
def beatsV (a b : List BestR) : List Int × Int :=
  if chkC a ≠ 0 then ([], chkC a) else if chkC b ≠ 0 then ([], chkC b) else (btsL a b, 0)
theorem mergeV_ok {a b : List BestR} (h : (mergeV a b).2 = 0) : CurveOk a ∧ CurveOk b ∧ (mgR a b).length ≤ 100 ∧ mergeV a b = (mgR a b, 0) := by
  unfold mergeV at h ⊢
  by_cases h1 : chkC a = 0
  · rw [if_neg (fun h => h h1)] at h ⊢
    by_cases h2 : chkC b = 0
    · rw [if_neg (fun h => h h2)] at h ⊢
      by_cases h3 : 100 < (mgR a b).length
      · rw [if_pos h3] at h; cases h
      · rw [if_neg h3]; exact ⟨chkC_ok h1, chkC_ok h2, by omega, rfl⟩
    · rw [if_pos h2] at h; exact absurd h h2
  · rw [if_pos h1] at h; exact absurd h h1
theorem mergeV_of {a b : List BestR} (ha : CurveOk a) (hb : CurveOk b) : mergeV a b = if 100 < (mgR a b).length then ([], 3) else (mgR a b, 0) := by
  unfold mergeV
  rw [if_neg (fun h => h ha.chk), if_neg (fun h => h hb.chk)]
theorem lessB_pk (p : Option BestR) (x : BestR) (z : Option BestR) : lessB ((pkO (pkO p (some x)) z).getD noB) x = false := by
  rcases x with ⟨n2, s2, a2, f2⟩
  rcases p with _ | ⟨n1, s1, a1, f1⟩ <;> rcases z with _ | ⟨n3, s3, a3, f3⟩
  · cases f2 <;> simp [pkO, lessB]
  · cases f2 <;> cases f3 <;> simp only [pkO, lessB, Option.getD_some, Bool.false_and, Bool.true_and, Bool.not_true, Bool.not_false, Bool.false_or, Bool.true_or, if_true, Bool.false_eq_true, if_false, decide_eq_true_eq] <;> (repeat' split) <;> simp_all <;> omega
  · cases f1 <;> cases f2 <;> simp only [pkO, lessB, Option.getD_some, Bool.false_and, Bool.true_and, Bool.not_true, Bool.not_false, Bool.false_or, Bool.true_or, if_true, Bool.false_eq_true, if_false, decide_eq_true_eq] <;> (repeat' split) <;> simp_all <;> omega
  · cases f1 <;> cases f2 <;> cases f3 <;> simp only [pkO, lessB, Option.getD_some, Bool.false_and, Bool.true_and, Bool.not_true, Bool.not_false, Bool.false_or, Bool.true_or, if_true, Bool.false_eq_true, if_false, decide_eq_true_eq] <;> (repeat' split) <;> simp_all <;> omega
theorem bts_none {a b c : List BestR} (ha : RisingB a) (hb : RisingB b) (hc : RisingB c) : btsL b (mgR (mgR a b) c) = [] := by
  unfold btsL
  have : (b.filter fun x => lessB ((lkB (mgR (mgR a b) c) x.size).getD noB) x) = [] := List.filter_eq_nil_iff.2 fun x hx => by
    rw [lk_mgR _ _ (mgR_rising a b ha hb) hc, lk_mgR _ _ ha hb, lkB_mem hb hx, lessB_pk]
    simp
  rw [this]; rfl
end Go.Proofs.Ytafkojlccknicaa
