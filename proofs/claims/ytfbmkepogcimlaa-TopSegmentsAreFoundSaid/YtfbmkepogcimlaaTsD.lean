/-
  Quotients that are rounded up, and splits: plain part.
-/
import Derived.Lib.Mul64
import Derived.Lib.BitFns
import Derived.Test.YtfbmkepogcimlaaTsA
import Derived.Test.YtfbmkepogcimlaaTsB
import Derived.Test.YtfbmkepogcimlaaTsC

namespace Go.Proofs.Ytfbmkepogcimlaa
open Go Go.RowKit Hx
set_option linter.unusedVariables false
set_option linter.unusedSimpArgs false
/-- A quotient, rounded up. -/
def upD (x d : Int) : Int := (x + d - 1) / d
theorem upD_eq {x d : Int} (hd : 1 ≤ d) : x / d + (if 0 < x % d then 1 else 0) = upD x d := by
  unfold upD
  have h1 := Int.emod_nonneg x (show d ≠ 0 by omega)
  have h2 := Int.emod_lt_of_pos x (show 0 < d by omega)
  have h3 := Int.mul_ediv_add_emod x d
  split
  · have e : x + d - 1 = (x % d - 1) + d * (x / d + 1) := by rw [Int.mul_add]; omega
    have e0 : (x % d - 1) / d = 0 := Int.ediv_eq_zero_of_lt (by omega) (by omega)
    rw [e, Int.add_mul_ediv_left _ _ (show d ≠ 0 by omega), e0]; omega
  · have e : x + d - 1 = (d - 1) + d * (x / d) := by omega
    have e0 : (d - 1) / d = 0 := Int.ediv_eq_zero_of_lt (by omega) (by omega)
    rw [e, Int.add_mul_ediv_left _ _ (show d ≠ 0 by omega), e0]; omega
theorem upD_mono {x y d : Int} (hd : 1 ≤ d) (h : x ≤ y) : upD x d ≤ upD y d := Int.ediv_le_ediv (by omega) (by omega)
theorem upD_bd {x d n : Int} (h0 : 0 ≤ x) (hd : 1 ≤ d) (h : x ≤ n * d) : 0 ≤ upD x d ∧ upD x d ≤ n := by
  unfold upD
  refine ⟨Int.ediv_nonneg (by omega) (by omega), ?_⟩
  have : (x + d - 1) / d < n + 1 := Int.ediv_lt_of_lt_mul (by omega) (by rw [Int.add_mul]; omega)
  omega
structure SplitR where
  way : Int
  at_ : Int
section
variable (ss : List SmpR) (way : Int)
noncomputable def spN (k : Nat) : Nat := (wayN ss k / way).toNat
noncomputable def splJ (k j : Nat) : SplitR := match ss[k]?, ss[k + 1]? with
  | some p, some q => ⟨((j : Int) + 1) * way, 1000 * p.at_ + upD ((((j : Int) + 1) * way - wayN ss k) * (1000 * (q.at_ - p.at_))) (wayN ss (k + 1) - wayN ss k)⟩
  | _, _ => ⟨0, 0⟩
noncomputable def splK : Nat → List SplitR
  | 0 => []
  | k + 1 => splK k ++ (List.range' (spN ss way k) (spN ss way (k + 1) - spN ss way k)).map (splJ ss way k)
noncomputable def midK (k m : Nat) : List SplitR := splK ss way k ++ (List.range' (spN ss way k) m).map (splJ ss way k)
variable {ss way}
theorem midK_zero (k : Nat) : midK ss way k 0 = splK ss way k := by simp [midK]
theorem midK_succ (k m : Nat) : midK ss way k (m + 1) = midK ss way k m ++ [splJ ss way k (spN ss way k + m)] := by
  unfold midK
  rw [List.range'_concat, List.map_append, List.append_assoc, Nat.one_mul]; rfl
theorem midK_done (k : Nat) : midK ss way k (spN ss way (k + 1) - spN ss way k) = splK ss way (k + 1) := rfl
theorem splJ_eq {k : Nat} {p q : SmpR} (hp : ss[k]? = some p) (hq : ss[k + 1]? = some q) (j : Nat) :
    splJ ss way k j = ⟨((j : Int) + 1) * way, 1000 * p.at_ + upD ((((j : Int) + 1) * way - wayN ss k) * (1000 * (q.at_ - p.at_))) (wayN ss (k + 1) - wayN ss k)⟩ := by unfold splJ; rw [hp, hq]
theorem atI_le {st : Int} {k : Nat} {p q : SmpR} (hok : SmpOk st ss) (hp : ss[k]? = some p) (hq : ss[k + 1]? = some q) : 0 ≤ p.at_ ∧ p.at_ < q.at_ ∧ q.at_ ≤ 1000000 :=
  ⟨(hok.bd p (List.mem_of_getElem? hp)).1, hok.rise k p q hp hq, (hok.bd q (List.mem_of_getElem? hq)).2.1⟩
variable {st : Int} (hok : SmpOk st ss) (hw : 1 ≤ way)
include hok hw
theorem spN_eq (k : Nat) : ((spN ss way k : Nat) : Int) = wayN ss k / way := by
  have h1 := wayN_bd hok k
  have h2 : 0 ≤ wayN ss k / way := Int.ediv_nonneg h1.1 (by omega)
  unfold spN
  omega
theorem spN_mono {i j : Nat} (h : i ≤ j) : spN ss way i ≤ spN ss way j := by
  have h1 := wayN_mono hok h
  have h2 : wayN ss i / way ≤ wayN ss j / way := Int.ediv_le_ediv (by omega) h1
  have h3 := spN_eq hok hw i
  have h4 := spN_eq hok hw j
  omega
theorem splK_len : ∀ k, (splK ss way k).length = spN ss way k
  | 0 => by
    have h3 := spN_eq hok hw 0
    rw [wayN_zero] at h3
    simp at h3
    rw [show (splK ss way 0) = [] from rfl]
    simp
    omega
  | k + 1 => by
    rw [splK, List.length_append, List.length_map, List.length_range', splK_len k]
    have := spN_mono hok hw (show k ≤ k + 1 by omega)
    omega
theorem midK_len (k m : Nat) : (midK ss way k m).length = spN ss way k + m := by
  unfold midK
  rw [List.length_append, List.length_map, List.length_range', splK_len hok hw k]
/-- A split lies in the step: as both programs ask. -/
theorem spN_cond (k j : Nat) : ((j : Int) + 1) * way ≤ wayN ss k ↔ j < spN ss way k := by
  have h3 := spN_eq hok hw k
  rw [← Int.le_ediv_iff_mul_le (by omega), ← h3]
  omega
theorem spN_above {k j : Nat} (h : spN ss way k ≤ j) : wayN ss k < ((j : Int) + 1) * way := by
  have h1 := spN_cond hok hw k j
  have h2 : ¬ ((j : Int) + 1) * way ≤ wayN ss k := fun h3 => by have := h1.1 h3; omega
  omega
theorem split_bd {k j : Nat} {p q : SmpR} (hp : ss[k]? = some p) (hq : ss[k + 1]? = some q) (h1 : spN ss way k ≤ j) (h2 : j < spN ss way (k + 1)) :
    1 ≤ ((j : Int) + 1) * way - wayN ss k ∧ ((j : Int) + 1) * way - wayN ss k ≤ wayN ss (k + 1) - wayN ss k ∧ wayN ss (k + 1) - wayN ss k ≤ 300000000 ∧
    0 ≤ (((j : Int) + 1) * way - wayN ss k) * (1000 * (q.at_ - p.at_)) ∧ 0 ≤ upD ((((j : Int) + 1) * way - wayN ss k) * (1000 * (q.at_ - p.at_))) (wayN ss (k + 1) - wayN ss k) ∧
    upD ((((j : Int) + 1) * way - wayN ss k) * (1000 * (q.at_ - p.at_))) (wayN ss (k + 1) - wayN ss k) ≤ 1000 * (q.at_ - p.at_) := by
  have a1 := spN_above hok hw h1
  have a2 := (spN_cond hok hw (k + 1) j).2 h2
  have a3 := wayN_succ (stepsL_get hp hq)
  have a4 := lenD_bd (hok.place (List.mem_of_getElem? hp)) (hok.place (List.mem_of_getElem? hq))
  have a5 := atI_le hok hp hq
  have a6 : 0 ≤ (((j : Int) + 1) * way - wayN ss k) * (1000 * (q.at_ - p.at_)) := Int.mul_nonneg (by omega) (by omega)
  have a7 : (((j : Int) + 1) * way - wayN ss k) * (1000 * (q.at_ - p.at_)) ≤ (wayN ss (k + 1) - wayN ss k) * (1000 * (q.at_ - p.at_)) := Int.mul_le_mul_of_nonneg_right (by omega) (by omega)
  have a8 := upD_bd a6 (show 1 ≤ wayN ss (k + 1) - wayN ss k by omega) (n := 1000 * (q.at_ - p.at_)) (by rw [Int.mul_comm (1000 * _)]; exact a7)
  refine ⟨by omega, by omega, ?_, a6, a8.1, a8.2⟩
  rw [a3]
  have : lenD (p, q).1 (p, q).2 = lenD p q := rfl
  omega
end
def SpOk (way : Int) (l : List SplitR) (T : Int) : Prop := ∀ (i : Nat) (x : SplitR), l[i]? = some x → x.way = ((i : Int) + 1) * way ∧ 0 ≤ x.at_ ∧ x.at_ ≤ T ∧ ∀ y, 1 ≤ i → l[i - 1]? = some y → y.at_ ≤ x.at_
theorem spOk_nil (way T : Int) : SpOk way [] T := fun i x h => by simp at h
theorem SpOk.le {way T T' : Int} {l : List SplitR} (h : SpOk way l T) (hT : T ≤ T') : SpOk way l T' := fun i x hx => by
  obtain ⟨h1, h2, h3, h4⟩ := h i x hx
  exact ⟨h1, h2, Int.le_trans h3 hT, h4⟩
theorem SpOk.snoc {way T : Int} {l : List SplitR} {x : SplitR} (h : SpOk way l T) (h1 : x.way = ((l.length : Int) + 1) * way) (h2 : T ≤ x.at_) (h0 : 0 ≤ x.at_) : SpOk way (l ++ [x]) x.at_ := by
  intro i y hy
  have hi := (List.getElem?_eq_some_iff.1 hy).1
  rw [List.length_append, List.length_singleton] at hi
  by_cases hl : i < l.length
  · rw [List.getElem?_append_left hl] at hy
    obtain ⟨b1, b2, b3, b4⟩ := h i y hy
    exact ⟨b1, b2, by omega, fun z hz hzz => b4 z hz (by rw [List.getElem?_append_left (by omega)] at hzz; exact hzz)⟩
  · have he : i = l.length := by omega
    subst he
    rw [List.getElem?_concat_length] at hy
    cases hy
    refine ⟨h1, h0, Int.le_refl _, fun z hz hzz => ?_⟩
    rw [List.getElem?_append_left (by omega)] at hzz
    have := (h _ z hzz).2.2.1
    omega
theorem midK_ok {ss : List SmpR} {way st : Int} (hok : SmpOk st ss) (hw : 1 ≤ way) {k : Nat} {p q : SmpR} (hp : ss[k]? = some p) (hq : ss[k + 1]? = some q) (h : SpOk way (splK ss way k) (1000 * p.at_)) :
    ∀ m, spN ss way k + m ≤ spN ss way (k + 1) → ∃ T, SpOk way (midK ss way k m) T ∧ T ≤ 1000 * q.at_ ∧ (m = 0 → T = 1000 * p.at_) ∧ (∀ m', m = m' + 1 → T = (splJ ss way k (spN ss way k + m')).at_)
  | 0, _ => by
    have := atI_le hok hp hq
    exact ⟨1000 * p.at_, by rw [midK_zero]; exact h, by omega, fun _ => rfl, fun m' h => by omega⟩
  | m + 1, hm => by
    obtain ⟨T, t1, t2, t3, t4⟩ := midK_ok hok hw hp hq h m (by omega)
    have b := split_bd hok hw hp hq (j := spN ss way k + m) (by omega) (by omega)
    have a5 := atI_le hok hp hq
    have e := splJ_eq (way := way) hp hq (spN ss way k + m)
    have hT : T ≤ (splJ ss way k (spN ss way k + m)).at_ := by
      cases m with
      | zero => rw [t3 rfl, e]; dsimp only; omega
      | succ m' =>
        rw [t4 m' rfl, e, splJ_eq hp hq]
        dsimp only
        have b0 := split_bd hok hw hp hq (j := spN ss way k + m') (by omega) (by omega)
        have : upD (((((spN ss way k + m' : Nat) : Int) + 1) * way - wayN ss k) * (1000 * (q.at_ - p.at_))) (wayN ss (k + 1) - wayN ss k) ≤ upD (((((spN ss way k + (m' + 1) : Nat) : Int) + 1) * way - wayN ss k) * (1000 * (q.at_ - p.at_))) (wayN ss (k + 1) - wayN ss k) := by
          refine upD_mono (by omega) (Int.mul_le_mul_of_nonneg_right ?_ (by omega))
          have : (((spN ss way k + m' : Nat) : Int) + 1) * way ≤ (((spN ss way k + (m' + 1) : Nat) : Int) + 1) * way := Int.mul_le_mul_of_nonneg_right (by omega) (by omega)
          omega
        omega
    refine ⟨(splJ ss way k (spN ss way k + m)).at_, ?_, ?_, fun h => by omega, fun m' hm' => by rw [show m' = m by omega]⟩
    · rw [midK_succ]
      refine t1.snoc ?_ hT ?_
      · rw [e, midK_len hok hw]
      · rw [e]; dsimp only; omega
    · rw [e]; dsimp only; omega
theorem splK_ok {ss : List SmpR} {way st : Int} (hok : SmpOk st ss) (hw : 1 ≤ way) : ∀ (k : Nat) (p : SmpR), ss[k]? = some p → SpOk way (splK ss way k) (1000 * p.at_)
  | 0, p, hp => spOk_nil _ _
  | k + 1, q, hq => by
    have hlt := (List.getElem?_eq_some_iff.1 hq).1
    have hp : ss[k]? = some (ss[k]'(by omega)) := List.getElem?_eq_getElem _
    obtain ⟨T, t1, t2, _⟩ := midK_ok hok hw hp hq (splK_ok hok hw k _ hp) (spN ss way (k + 1) - spN ss way k) (by have := spN_mono hok hw (show k ≤ k + 1 by omega); omega)
    rw [midK_done] at t1
    exact t1.le t2
noncomputable def splitsR (a : ActD) (way : Int) : List SplitR × Int :=
  if chkA a ≠ 0 then ([], chkA a) else if ¬(1 ≤ way ∧ way ≤ 1000000000) then ([], 9) else if 10000 < wayN a.ss (a.ss.length - 1) / way then ([], 3) else (splK a.ss way (a.ss.length - 1), 0)
theorem splitsR_e {a : ActD} {f : Int} (h : chkA a ≠ 0) : splitsR a f = ([], chkA a) := if_pos h
theorem splitsR_9 {a : ActD} {f : Int} (h : chkA a = 0) (h1 : ¬(1 ≤ f ∧ f ≤ 1000000000)) : splitsR a f = ([], 9) := by unfold splitsR; rw [if_neg (by simp [h]), if_pos h1]
theorem splitsR_3 {a : ActD} {f : Int} (h : chkA a = 0) (h1 : 1 ≤ f ∧ f ≤ 1000000000) (h2 : 10000 < wayN a.ss (a.ss.length - 1) / f) : splitsR a f = ([], 3) := by unfold splitsR; rw [if_neg (by simp [h]), if_neg (fun h3 => h3 h1), if_pos h2]
theorem splitsR_0 {a : ActD} {f : Int} (h : chkA a = 0) (h1 : 1 ≤ f ∧ f ≤ 1000000000) (h2 : ¬10000 < wayN a.ss (a.ss.length - 1) / f) : splitsR a f = (splK a.ss f (a.ss.length - 1), 0) := by
  unfold splitsR; rw [if_neg (by simp [h]), if_neg (fun h3 => h3 h1), if_neg h2]
end Go.Proofs.Ytfbmkepogcimlaa

/-
  slices.IndexFunc and ContainsFunc, at any function that only reads.
-/


namespace Go.Proofs.Ytfbmkepogcimlaa
open Go Go.RowKit Hx
set_option linter.unusedVariables false
set_option linter.unusedSimpArgs false
/-- The first place at which p holds, or -1. -/
def idxP {α : Type} (p : α → Bool) (xs : List α) : Int := match xs.findIdx? p with | some i => i | none => -1
theorem idxP_at {α : Type} {p : α → Bool} {xs : List α} {k : Nat} {x : α} (h : xs[k]? = some x) (hp : p x = true) (h2 : ∀ y ∈ xs.take k, p y = false) : idxP p xs = k := by
  have : xs.findIdx? p = some k := by
    rw [List.findIdx?_eq_some_iff_getElem]
    obtain ⟨hk, rfl⟩ := List.getElem?_eq_some_iff.1 h
    refine ⟨hk, hp, fun j hj => ?_⟩
    have : xs[j]'(by omega) ∈ xs.take k := by
      rw [List.mem_take_iff_getElem]
      exact ⟨j, by omega, rfl⟩
    simp [h2 _ this]
  simp [idxP, this]
theorem idxP_no {α : Type} {p : α → Bool} {xs : List α} (h2 : ∀ y ∈ xs, p y = false) : idxP p xs = -1 := by
  have : xs.findIdx? p = none := by
    rw [List.findIdx?_eq_none_iff]
    intro y hy
    simp [h2 y hy]
  simp [idxP, this]
theorem idxP_any {α : Type} (p : α → Bool) (xs : List α) : decide (0 ≤ idxP p xs) = xs.any p := by
  unfold idxP
  cases h : xs.findIdx? p with
  | none =>
    rw [List.findIdx?_eq_none_iff] at h
    have : xs.any p = false := by rw [List.any_eq_false]; intro y hy; simp [h y hy]
    simp [this]
  | some i =>
    rw [List.findIdx?_eq_some_iff_getElem] at h
    obtain ⟨hi, hp, _⟩ := h
    have : xs.any p = true := by rw [List.any_eq_true]; exact ⟨_, List.getElem_mem hi, hp⟩
    rw [this]; simp
end Go.Proofs.Ytfbmkepogcimlaa

/-
  Root, squares, lengths of steps: program and reference.
-/


namespace Go.Proofs.Ytfbmkepogcimlaa
open Go Go.RowKit Hx
set_option linter.unusedVariables false
set_option linter.unusedSimpArgs false
set_option maxRecDepth 8000
theorem wrap_sq {x : Int} (h : 0 ≤ x ∧ x ≤ 18446744073709551615) : IntKind.i64.wrap x = if x ≤ 9223372036854775807 then x else x - 18446744073709551616 := by
  rw [IntKind.wrap_i64]
  split <;> omega
theorem r_mulw {P : Program} {N : Fr} {B : Nat} {w0 : World} {al : AL} {H : HL} {ty : TypeId} {x y : Operand} {t t' : TypeId} {m n : Int} (hx : ev al x = some (.int .i64 m)) (hy : ev al y = some (.int .i64 n)) :
    Runs P N B w0 (.binOp .mul t x y t') ty al H (.int .i64 (IntKind.i64.wrap (m * n))) := fun a w hst => by
  simp [execOp, hst.regs.eval hx, hst.regs.eval hy, eqGuard_mul, binOp_mul, Op.intArith]
theorem quant_Root (n : Int) (w : World) (hn : n ≤ 9223372036854775807) : Calls Try.prog 141 #[.int .i64 n] w fun e w' => e = .returned (.tuple #[.int .i64 (if n < 0 then 0 else rootI n), .int .i64 (if n < 0 then 1 else 0)]) ∧ Below w.heap.size w w' := by
  refine enterQ (N := 29) (C := fun _ => True) (H := []) (B := w.heap.size) (args := [_]) Try.func141 rfl rfl rfl (Nat.le_refl _) (Sat.nil _ _) fun Q hQ => ?_
  refine wp_seq' fun K1 hK1 => ?_
  refine wp_reg ?_
  refine ol_r (r_assign rfl) rfl ?_
  refine ol_r (r_assign rfl) rfl ?_
  refine ol_nil (to_k0 (fun _ _ h => h) (hK1 _ _ _ _ _ ?_))
  clear hK1
  refine wp_seq' fun K2 hK2 => ?_
  refine wp_seq' fun K3 hK3 => ?_
  refine wp_reg ?_
  refine ol_r (r_move rfl) rfl ?_
  refine ol_r (r_lss rfl rfl) rfl ?_
  refine ol_nil (to_k0 (fun _ _ h => h) (hK3 _ _ _ _ _ ?_))
  clear hK3
  refine wp_condD rfl (fun hc8 => ?_) (fun hc8 => ?_)
  ·refine wp_seq' fun K4 hK4 => ?_
   refine wp_reg ?_
   refine ol_r (r_assign rfl) rfl ?_
   refine ol_r (r_assign rfl) rfl ?_
   refine ol_nil (to_k0 (fun _ _ h => h) (hK4 _ _ _ _ _ ?_))
   clear hK4
   refine hQ.ret (rvs2 (rv_t rfl) (rv_t rfl)) (fun _ _ h => h) fun w hb hs hB hkd => ?_
   first
     | (exact ⟨by rw [if_pos hc8, if_pos hc8], hb⟩; done)
  ·refine wp_skip' (to_k0 (fun _ _ h => h) (hK2 _ _ _ _ _ ?_))
   clear hK2
   refine wp_seq' fun K5 hK5 => ?_
   refine wp_reg ?_
   refine ol_r (r_assign rfl) rfl ?_
   refine ol_nil (to_k0 (fun _ _ h => h) (hK5 _ _ _ _ _ ?_))
   clear hK5
   refine wp_seq' fun K6 hK6 => ?_
   refine wp_seq' fun K7 hK7 => ?_
   refine wp_reg ?_
   refine ol_r (r_assign rfl) rfl ?_
   refine ol_nil (to_k0 (fun _ _ h => h) (hK7 _ _ _ _ _ ?_))
   clear hK7
   refine wp_block' ?_
   apply wp_loopM (σ := Int × Int) (fun s => PW s.1 ∧ 0 ≤ s.2 ∧ s.2 * s.2 ≤ n ∧ n < (s.2 + s.1) * (s.2 + s.1) ∧ s.2 + s.1 ≤ 4294967296) (fun s => [(5, .int .i64 (s.1 / 2)), (4, .int .i64 s.2)]) [(0, _), (2, _), (3, _)] (fun s => []) [] (fun s => s.1.toNat) ((4294967296, 0))
   ·try dsimp only
    exact ⟨PW.top, by omega, by omega, by omega, by omega⟩
   ·exact (sub_cons rfl (sub_cons rfl sub_nil))
   ·exact (sub_cons rfl (sub_cons rfl (sub_cons rfl sub_nil)))
   ·exact subH_nil
   ·exact subH_nil
   ·rintro ⟨p, r⟩ ⟨h1, h2, h3, h4, h5⟩
    dsimp only at h1 h2 h3 h4 h5 ⊢
    intro K8 hK8
    refine wp_seq' fun K9 hK9 => ?_
    refine wp_seq' fun K10 hK10 => ?_
    refine wp_reg ?_
    refine ol_r (r_move rfl) rfl ?_
    refine ol_r (r_gtr rfl rfl) rfl ?_
    refine ol_nil (to_k0 (fun _ _ h => h) (hK10 _ _ _ _ _ ?_))
    clear hK10
    refine wp_condD rfl (fun hc10 => ?_) (fun hc10 => ?_)
    ·refine wp_skip' (to_k0 (fun _ _ h => h) (hK9 _ _ _ _ _ ?_))
     clear hK9
     refine wp_seq' fun K11 hK11 => ?_
     refine wp_block' ?_
     refine wp_seq' fun K12 hK12 => ?_
     refine wp_reg ?_
     obtain ⟨q, hq1, rfl, hq2⟩ := h1.half hc10
     have hq3 : 2 * q / 2 = q := by omega
     simp only [hq3]
     refine ol_r (r_move rfl) rfl ?_
     refine ol_r (r_move rfl) rfl ?_
     refine ol_r (r_add rfl rfl (by omega)) rfl ?_
     refine ol_r (r_assign rfl) rfl ?_
     refine ol_nil (to_k0 (fun _ _ h => h) (hK12 _ _ _ _ _ ?_))
     clear hK12
     refine wp_seq' fun K13 hK13 => ?_
     refine wp_reg ?_
     refine ol_r (r_move rfl) rfl ?_
     refine ol_r (r_move rfl) rfl ?_
     refine ol_r (r_mulw rfl rfl) rfl ?_
     refine ol_r (r_gtr rfl rfl) rfl ?_
     refine ol_r (r_move rfl) rfl ?_
     refine ol_split (d := 20) rfl (fun hs20 => ?_) (fun hs20 => ?_)
     ·have phs20 := hs20; try simp only [decide_eq_true_eq, decide_eq_false_iff_not, Bool.not_eq_true', Bool.not_eq_false', Bool.not_true, Bool.not_false] at phs20
      refine ol_g rfl rfl hs20 ?_
      refine ol_r (r_move rfl) rfl ?_
      refine ol_g rfl rfl hs20 ?_
      refine ol_r (r_move rfl) rfl ?_
      refine ol_g rfl rfl hs20 ?_
      refine ol_r (r_move rfl) rfl ?_
      refine ol_g rfl rfl hs20 ?_
      first | refine ol_r (r_quo rfl rfl (by omega)) rfl ?_ | refine ol_r (r_tquo rfl rfl (by omega)) rfl ?_
      refine ol_g rfl rfl hs20 ?_
      refine ol_r (r_leq rfl rfl) rfl ?_
      refine ol_r (r_pickT rfl hs20 rfl) rfl ?_
      refine ol_nil (to_k0 (fun _ _ h => h) (hK13 _ _ _ _ _ ?_))
      clear hK13
      refine wp_condD rfl (fun hc26 => ?_) (fun hc26 => ?_)
      ·refine wp_reg ?_
       refine ol_r (r_move rfl) rfl ?_
       refine ol_r (r_assign rfl) rfl ?_
       refine ol_nil (to_k0 (fun _ _ h => h) (hK11 _ _ _ _ _ ?_))
       clear hK11
       refine wp_reg ?_
       refine ol_r (r_move rfl) rfl ?_
       refine ol_r (r_shr1 rfl rfl) rfl ?_
       refine ol_r (r_assign rfl) rfl ?_
       refine ol_nil (to_k0 (fun _ _ h => h) (hK8 ((q, _)) _ _ ?_ ?_ (sub_cons rfl (sub_cons rfl sub_nil)) (sub_cons rfl (sub_cons rfl (sub_cons rfl sub_nil))) (by exact subH_nil) subH_nil))
       ·try dsimp only
        have ht := mul_bd (a := r + q) (b := r + q) (A := 4294967295) (B := 4294967295) (by omega) (by omega) (by omega) (by omega)
        have hw := wrap_sq (x := (r + q) * (r + q)) (by omega)
        have hd := le_div_sq (n := n) (t := r + q) (by omega)
        have h6 : r + q + q = r + 2 * q := by omega
        first
          | exact ⟨hq1, by omega, hd.1 (by simpa using hc26), by rw [h6]; exact h4, by omega⟩
          | (refine ⟨hq1, h2, h3, ?_, by omega⟩
             apply Decidable.byContradiction
             intro hlt
             have hpos : 0 < (r + q) * (r + q) := Int.mul_pos (by omega) (by omega)
             rw [if_pos (by omega)] at hw
             first
               | (have := hd.2 (by omega)
                  simp at hc26
                  omega)
               | omega)
       ·try dsimp only
        omega
      ·refine wp_skip' (to_k0 (fun _ _ h => h) (hK11 _ _ _ _ _ ?_))
       clear hK11
       refine wp_reg ?_
       refine ol_r (r_move rfl) rfl ?_
       refine ol_r (r_shr1 rfl rfl) rfl ?_
       refine ol_r (r_assign rfl) rfl ?_
       refine ol_nil (to_k0 (fun _ _ h => h) (hK8 ((q, _)) _ _ ?_ ?_ (sub_cons rfl (sub_cons rfl sub_nil)) (sub_cons rfl (sub_cons rfl (sub_cons rfl sub_nil))) (by exact subH_nil) subH_nil))
       ·try dsimp only
        have ht := mul_bd (a := r + q) (b := r + q) (A := 4294967295) (B := 4294967295) (by omega) (by omega) (by omega) (by omega)
        have hw := wrap_sq (x := (r + q) * (r + q)) (by omega)
        have hd := le_div_sq (n := n) (t := r + q) (by omega)
        have h6 : r + q + q = r + 2 * q := by omega
        first
          | exact ⟨hq1, by omega, hd.1 (by simpa using hc26), by rw [h6]; exact h4, by omega⟩
          | (refine ⟨hq1, h2, h3, ?_, by omega⟩
             apply Decidable.byContradiction
             intro hlt
             have hpos : 0 < (r + q) * (r + q) := Int.mul_pos (by omega) (by omega)
             rw [if_pos (by omega)] at hw
             first
               | (have := hd.2 (by omega)
                  simp at hc26
                  omega)
               | omega)
       ·try dsimp only
        omega
     ·have phs20 := hs20; try simp only [decide_eq_true_eq, decide_eq_false_iff_not, Bool.not_eq_true', Bool.not_eq_false', Bool.not_true, Bool.not_false] at phs20
      refine ol_s rfl rfl hs20 rfl ?_
      refine ol_s rfl rfl hs20 rfl ?_
      refine ol_s rfl rfl hs20 rfl ?_
      refine ol_s rfl rfl hs20 rfl ?_
      refine ol_s rfl rfl hs20 rfl ?_
      refine ol_r (r_pickF rfl hs20 rfl) rfl ?_
      refine ol_nil (to_k0 (fun _ _ h => h) (hK13 _ _ _ _ _ ?_))
      clear hK13
      refine wp_condF rfl ?_
      refine wp_skip' (to_k0 (fun _ _ h => h) (hK11 _ _ _ _ _ ?_))
      clear hK11
      refine wp_reg ?_
      refine ol_r (r_move rfl) rfl ?_
      refine ol_r (r_shr1 rfl rfl) rfl ?_
      refine ol_r (r_assign rfl) rfl ?_
      refine ol_nil (to_k0 (fun _ _ h => h) (hK8 ((q, _)) _ _ ?_ ?_ (sub_cons rfl (sub_cons rfl sub_nil)) (sub_cons rfl (sub_cons rfl (sub_cons rfl sub_nil))) (by exact subH_nil) subH_nil))
      ·try dsimp only
       have ht := mul_bd (a := r + q) (b := r + q) (A := 4294967295) (B := 4294967295) (by omega) (by omega) (by omega) (by omega)
       have hw := wrap_sq (x := (r + q) * (r + q)) (by omega)
       have hd := le_div_sq (n := n) (t := r + q) (by omega)
       have h6 : r + q + q = r + 2 * q := by omega
       first
         | exact ⟨hq1, by omega, hd.1 (by simpa using hc26), by rw [h6]; exact h4, by omega⟩
         | (refine ⟨hq1, h2, h3, ?_, by omega⟩
            apply Decidable.byContradiction
            intro hlt
            have hpos : 0 < (r + q) * (r + q) := Int.mul_pos (by omega) (by omega)
            rw [if_pos (by omega)] at hw
            first
              | (have := hd.2 (by omega)
                 simp at hc26
                 omega)
              | omega)
      ·try dsimp only
       omega
    ·refine wp_exit' (to_k0 (fun _ _ h => h) (hK6 _ _ _ _ _ ?_))
     clear hK6
     refine wp_seq' fun K14 hK14 => ?_
     refine wp_reg ?_
     refine ol_r (r_move rfl) rfl ?_
     refine ol_r (r_assign rfl) rfl ?_
     refine ol_r (r_assign rfl) rfl ?_
     refine ol_nil (to_k0 (fun _ _ h => h) (hK14 _ _ _ _ _ ?_))
     clear hK14
     refine hQ.ret (rvs2 (rv_t rfl) (rv_t rfl)) (fun _ _ h => h) fun w hb hs hB hkd => ?_
     first
       | (have hp1 := h1.one hc10
          rw [hp1] at h4
          have hr : IsRoot n r := ⟨h2, h3, h4⟩
          exact ⟨by rw [if_neg (by omega), if_neg (by omega), rootI_eq hr], hb⟩)
theorem track_in (n a b : Int) (w : World) : Calls Try.prog 48 #[.int .i64 n, .int .i64 a, .int .i64 b] w fun e w' => e = .returned (.bool (inB n a b)) ∧ Below w.heap.size w w' := by
  refine enterQ (N := 15) (C := fun _ => True) (H := []) (B := w.heap.size) (args := [_, _, _]) Try.func48 rfl rfl rfl (Nat.le_refl _) (Sat.nil _ _) fun Q hQ => ?_
  refine wp_seq' fun K1 hK1 => ?_
  refine wp_reg ?_
  refine ol_r (r_assign rfl) rfl ?_
  refine ol_nil (to_k0 (fun _ _ h => h) (hK1 _ _ _ _ _ ?_))
  clear hK1
  refine wp_seq' fun K2 hK2 => ?_
  refine wp_reg ?_
  refine ol_r (r_move rfl) rfl ?_
  refine ol_r (r_move rfl) rfl ?_
  refine ol_r (r_geq rfl rfl) rfl ?_
  refine ol_r (r_move rfl) rfl ?_
  refine ol_split (d := 10) rfl (fun hs10 => ?_) (fun hs10 => ?_)
  ·have phs10 := hs10; try simp only [decide_eq_true_eq, decide_eq_false_iff_not, Bool.not_eq_true', Bool.not_eq_false', Bool.not_true, Bool.not_false] at phs10
   refine ol_g rfl rfl hs10 ?_
   refine ol_r (r_move rfl) rfl ?_
   refine ol_g rfl rfl hs10 ?_
   refine ol_r (r_move rfl) rfl ?_
   refine ol_g rfl rfl hs10 ?_
   refine ol_r (r_leq rfl rfl) rfl ?_
   refine ol_r (r_pickT rfl hs10 rfl) rfl ?_
   refine ol_r (r_assign rfl) rfl ?_
   refine ol_nil (to_k0 (fun _ _ h => h) (hK2 _ _ _ _ _ ?_))
   clear hK2
   refine hQ.ret (rvs1 (rv_t rfl)) (fun _ _ h => h) fun w hb hs hB hkd => ?_
   exact ⟨by simp [inB, hs10], hb⟩
  ·have phs10 := hs10; try simp only [decide_eq_true_eq, decide_eq_false_iff_not, Bool.not_eq_true', Bool.not_eq_false', Bool.not_true, Bool.not_false] at phs10
   refine ol_s rfl rfl hs10 rfl ?_
   refine ol_s rfl rfl hs10 rfl ?_
   refine ol_s rfl rfl hs10 rfl ?_
   refine ol_r (r_pickF rfl hs10 rfl) rfl ?_
   refine ol_r (r_assign rfl) rfl ?_
   refine ol_nil (to_k0 (fun _ _ h => h) (hK2 _ _ _ _ _ ?_))
   clear hK2
   refine hQ.ret (rvs1 (rv_t rfl)) (fun _ _ h => h) fun w hb hs hB hkd => ?_
   exact ⟨by simp [inB, hs10], hb⟩
theorem track_squares (p q : SmpR) (w : World) (hp : PlaceOk p) (hq : PlaceOk q) : Calls Try.prog 142 #[.agg #[.int .i64 p.at_, .int .i64 p.x, .int .i64 p.y, .int .i64 p.z, .int .i64 p.pulse, .int .i64 p.power, .int .i64 p.steps], .agg #[.int .i64 q.at_, .int .i64 q.x, .int .i64 q.y, .int .i64 q.z, .int .i64 q.pulse, .int .i64 q.power, .int .i64 q.steps]] w fun e w' => e = .returned (.int .i64 (sqD p q)) ∧ Below w.heap.size w w' := by
  have hb1 := sq_bd (a := q.x - p.x) (M := 200000000) (by have := hp.1; have := hq.1; omega)
  have hb2 := sq_bd (a := q.y - p.y) (M := 200000000) (by have := hp.2; have := hq.2; omega)
  obtain ⟨hp1, hp2⟩ := hp
  obtain ⟨hq1, hq2⟩ := hq
  refine enterQ (N := 28) (C := fun _ => True) (H := []) (B := w.heap.size) (args := [_, _]) Try.func142 rfl rfl rfl (Nat.le_refl _) (Sat.nil _ _) fun Q hQ => ?_
  refine wp_seq' fun K1 hK1 => ?_
  refine wp_reg ?_
  refine ol_box 2 rfl rfl rfl fun b2 => ?_
  refine ol_box 3 rfl rfl rfl fun b3 => ?_
  refine ol_r (r_assign rfl) rfl ?_
  refine ol_nil (to_k0 (fun _ _ h => h) (hK1 _ _ _ _ _ ?_))
  clear hK1
  refine wp_seq' fun K2 hK2 => ?_
  refine wp_reg ?_
  refine ol_r (r_fa (o' := 1) rfl fl70_1 rfl) rfl ?_
  refine ol_r (r_ld (id := 3) rfl rfl rfl sc3) rfl ?_
  refine ol_r (r_fa (o' := 1) rfl fl70_1 rfl) rfl ?_
  refine ol_r (r_ld (id := 2) rfl rfl rfl sc3) rfl ?_
  refine ol_r (r_sub rfl rfl (by omega)) rfl ?_
  refine ol_r (r_fa (o' := 1) rfl fl70_1 rfl) rfl ?_
  refine ol_r (r_ld (id := 3) rfl rfl rfl sc3) rfl ?_
  refine ol_r (r_fa (o' := 1) rfl fl70_1 rfl) rfl ?_
  refine ol_r (r_ld (id := 2) rfl rfl rfl sc3) rfl ?_
  refine ol_r (r_sub rfl rfl (by omega)) rfl ?_
  refine ol_r (r_mul rfl rfl (by omega)) rfl ?_
  refine ol_r (r_fa (o' := 2) rfl fl70_2 rfl) rfl ?_
  refine ol_r (r_ld (id := 3) rfl rfl rfl sc3) rfl ?_
  refine ol_r (r_fa (o' := 2) rfl fl70_2 rfl) rfl ?_
  refine ol_r (r_ld (id := 2) rfl rfl rfl sc3) rfl ?_
  refine ol_r (r_sub rfl rfl (by omega)) rfl ?_
  refine ol_r (r_fa (o' := 2) rfl fl70_2 rfl) rfl ?_
  refine ol_r (r_ld (id := 3) rfl rfl rfl sc3) rfl ?_
  refine ol_r (r_fa (o' := 2) rfl fl70_2 rfl) rfl ?_
  refine ol_r (r_ld (id := 2) rfl rfl rfl sc3) rfl ?_
  refine ol_r (r_sub rfl rfl (by omega)) rfl ?_
  refine ol_r (r_mul rfl rfl (by omega)) rfl ?_
  refine ol_r (r_add rfl rfl (by omega)) rfl ?_
  refine ol_r (r_assign rfl) rfl ?_
  refine ol_nil (to_k0 (fun _ _ h => h) (hK2 _ _ _ _ _ ?_))
  clear hK2
  refine hQ.ret (rvs1 (rv_t rfl)) (fun _ _ h => h) fun w hb hs hB hkd => ?_
  exact ⟨rfl, hb⟩
theorem track_length (p q : SmpR) (w : World) (hp : PlaceOk p) (hq : PlaceOk q) : Calls Try.prog 120 #[.agg #[.int .i64 p.at_, .int .i64 p.x, .int .i64 p.y, .int .i64 p.z, .int .i64 p.pulse, .int .i64 p.power, .int .i64 p.steps], .agg #[.int .i64 q.at_, .int .i64 q.x, .int .i64 q.y, .int .i64 q.z, .int .i64 q.pulse, .int .i64 q.power, .int .i64 q.steps]] w fun e w' => e = .returned (.int .i64 (lenD p q)) ∧ Below w.heap.size w w' := by
  have hbd := sqD_bd hp hq
  refine enterQ (N := 15) (C := fun _ => True) (H := []) (B := w.heap.size) (args := [_, _]) Try.func120 rfl rfl rfl (Nat.le_refl _) (Sat.nil _ _) fun Q hQ => ?_
  refine wp_seq' fun K1 hK1 => ?_
  refine wp_reg ?_
  refine ol_box 2 rfl rfl rfl fun b2 => ?_
  refine ol_box 3 rfl rfl rfl fun b3 => ?_
  refine ol_r (r_assign rfl) rfl ?_
  refine ol_nil (to_k0 (fun _ _ h => h) (hK1 _ _ _ _ _ ?_))
  clear hK1
  refine wp_seq' fun K2 hK2 => ?_
  refine wp_reg ?_
  refine ol_r (r_lda (id := 2) (n := 7) rfl rfl rfl ag70) rfl ?_
  refine ol_r (r_lda (id := 3) (n := 7) rfl rfl rfl ag70) rfl ?_
  refine ol_call rfl rfl cb142 rfl (fun w1 hb1 hs1 hB1 => Calls.mono (track_squares p q _ hp hq) ?_)
  rintro e w2 ⟨rfl, hb2⟩
  refine After.below rfl hb1 hs1 hB1 hb2 ?_
  clear hb2 hB1 hs1 hb1 w2 w1
  refine ol_call rfl rfl cb141 rfl (fun w1 hb1 hs1 hB1 => Calls.mono (quant_Root _ _ (by omega)) ?_)
  rintro e w2 ⟨rfl, hb2⟩
  refine After.below rfl hb1 hs1 hB1 hb2 ?_
  clear hb2 hB1 hs1 hb1 w2 w1
  refine ol_r (r_move rfl) rfl ?_
  refine ol_r (r_extract rfl rfl) rfl ?_
  refine ol_r (r_extract rfl rfl) rfl ?_
  refine ol_r (r_assign rfl) rfl ?_
  refine ol_r (r_assign rfl) rfl ?_
  refine ol_nil (to_k0 (fun _ _ h => h) (hK2 _ _ _ _ _ ?_))
  clear hK2
  refine wp_seq' fun K3 hK3 => ?_
  refine wp_reg ?_
  refine ol_r (r_move rfl) rfl ?_
  refine ol_r (r_assign rfl) rfl ?_
  refine ol_nil (to_k0 (fun _ _ h => h) (hK3 _ _ _ _ _ ?_))
  clear hK3
  refine hQ.ret (rvs1 (rv_t rfl)) (fun _ _ h => h) fun w hb hs hB hkd => ?_
  exact ⟨by rw [if_neg (by omega)]; rfl, hb⟩
/-- What Step returns. -/
noncomputable def stepD (p q : SmpR) : Int × Int := open Classical in if PlaceOk p ∧ PlaceOk q then (lenD p q, 0) else (0, 9)
theorem stepD_ok {p q : SmpR} (hp : PlaceOk p) (hq : PlaceOk q) : stepD p q = (lenD p q, 0) := if_pos ⟨hp, hq⟩
theorem stepD_no {p q : SmpR} (h : ¬(PlaceOk p ∧ PlaceOk q)) : stepD p q = (0, 9) := if_neg h
def placesL (p q : SmpR) : List Int := [p.x, p.y, q.x, q.y]
theorem placesL_in {p q : SmpR} (hp : PlaceOk p) (hq : PlaceOk q) : ∀ x ∈ placesL p q, -100000000 ≤ x ∧ x ≤ 100000000 := by
  intro x hx
  simp only [placesL, List.mem_cons, List.mem_nil_iff, or_false] at hx
  rcases hx with rfl | rfl | rfl | rfl
  · exact hp.1
  · exact hp.2
  · exact hq.1
  · exact hq.2
theorem track_Step (p q : SmpR) (w : World) : Calls Try.prog 108 #[.agg #[.int .i64 p.at_, .int .i64 p.x, .int .i64 p.y, .int .i64 p.z, .int .i64 p.pulse, .int .i64 p.power, .int .i64 p.steps], .agg #[.int .i64 q.at_, .int .i64 q.x, .int .i64 q.y, .int .i64 q.z, .int .i64 q.pulse, .int .i64 q.power, .int .i64 q.steps]] w fun e w' => e = .returned (.tuple #[.int .i64 (stepD p q).1, .int .i64 (stepD p q).2]) ∧ Below w.heap.size w w' := by
  refine enterQ (N := 29) (C := fun _ => True) (H := []) (B := w.heap.size) (args := [_, _]) Try.func108 rfl rfl rfl (Nat.le_refl _) (Sat.nil _ _) fun Q hQ => ?_
  refine wp_seq' fun K1 hK1 => ?_
  refine wp_reg ?_
  refine ol_box 2 rfl rfl rfl fun b2 => ?_
  refine ol_box 3 rfl rfl rfl fun b3 => ?_
  refine ol_r (r_assign rfl) rfl ?_
  refine ol_r (r_assign rfl) rfl ?_
  refine ol_nil (to_k0 (fun _ _ h => h) (hK1 _ _ _ _ _ ?_))
  clear hK1
  refine wp_seq' fun K2 hK2 => ?_
  refine wp_seq' fun K3 hK3 => ?_
  refine wp_reg ?_
  refine ol_r (r_fa (o' := 1) rfl fl70_1 rfl) rfl ?_
  refine ol_r (r_ld (id := 2) rfl rfl rfl sc3) rfl ?_
  refine ol_r (r_fa (o' := 2) rfl fl70_2 rfl) rfl ?_
  refine ol_r (r_ld (id := 2) rfl rfl rfl sc3) rfl ?_
  refine ol_r (r_fa (o' := 1) rfl fl70_1 rfl) rfl ?_
  refine ol_r (r_ld (id := 3) rfl rfl rfl sc3) rfl ?_
  refine ol_r (r_fa (o' := 2) rfl fl70_2 rfl) rfl ?_
  refine ol_r (r_ld (id := 3) rfl rfl rfl sc3) rfl ?_
  refine ol_bsN 16 rfl rw61 rfl rfl (fun _ => by kernel_rfl) rfl fun a16 => ?_
  refine ol_r (r_len rfl sl61) rfl ?_
  refine ol_r (r_move rfl) rfl ?_
  refine ol_nil (to_k0 (fun _ _ h => h) (hK3 _ _ _ _ _ ?_))
  clear hK3
  refine wp_block' ?_
  apply wp_loopM (σ := Nat) (fun s => s ≤ 4 ∧ ∀ i x, i < s → (placesL p q)[i]? = some x → -100000000 ≤ x ∧ x ≤ 100000000) (fun s => [(18, .int .i64 s)]) [(2, _), (3, _), (16, _), (17, _)] (fun s => []) [(2, _), (3, _), (16, _)] (fun s => 4 - s) (0)
  ·try dsimp only
   exact ⟨by omega, fun i x h => absurd h (by omega)⟩
  ·exact (sub_cons rfl sub_nil)
  ·exact (sub_cons rfl (sub_cons rfl (sub_cons rfl (sub_cons rfl sub_nil))))
  ·exact subH_nil
  ·exact (subH_same rfl (subH_same rfl (subH_same rfl subH_nil)))
  ·rintro k ⟨hk, hP⟩
   intro K4 hK4
   refine wp_seq' fun K5 hK5 => ?_
   refine wp_reg ?_
   refine ol_r (r_lss rfl rfl) rfl ?_
   refine ol_nil (to_k0 (fun _ _ h => h) (hK5 _ _ _ _ _ ?_))
   clear hK5
   refine wp_seq' fun K6 hK6 => ?_
   first | refine wp_condD rfl (fun hc19 => ?_) (fun hc19 => ?_) | refine wp_condN rfl (fun hc19 => ?_) (fun hc19 => ?_) | refine wp_condNB rfl (fun hc19 => ?_) (fun hc19 => ?_) | refine wp_cond' rfl (fun hc19 => ?_) (fun hc19 => ?_)
   ·refine wp_skip' (to_k0 (fun _ _ h => h) (hK6 _ _ _ _ _ ?_))
    clear hK6
    refine wp_seq' fun K7 hK7 => ?_
    refine wp_block' ?_
    refine wp_seq' fun K8 hK8 => ?_
    refine wp_reg ?_
    refine ol_ixo (id := 16) encI (placesL p q) rfl rfl rfl rfl sl61 (by omega) rfl fun x20 hx20 => ?_
    try simp only [Int.toNat_natCast] at hx20
    try simp only [Int.toNat_natCast] at hx20
    refine ol_r (r_ldw rfl (fun w1 hb1 hs1 hB1 => show Loads _ _ _ _ (.int .i64 x20) from ld_own (id := 16) hs1 rfl rfl ty3 hx20)) rfl ?_
    refine ol_r (r_assign rfl) rfl ?_
    refine ol_nil (to_k0 (fun _ _ h => h) (hK8 _ _ _ _ _ ?_))
    clear hK8
    refine wp_seq' fun K9 hK9 => ?_
    refine wp_reg ?_
    refine ol_r (r_move rfl) rfl ?_
    refine ol_call rfl rfl cb48 rfl (fun w1 hb1 hs1 hB1 => Calls.mono (track_in _ _ _ _) ?_)
    rintro e w2 ⟨rfl, hb2⟩
    refine After.below rfl hb1 hs1 hB1 hb2 ?_
    clear hb2 hB1 hs1 hb1 w2 w1
    refine ol_r (r_not rfl) rfl ?_
    refine ol_nil (to_k0 (fun _ _ h => h) (hK9 _ _ _ _ _ ?_))
    clear hK9
    first | refine wp_condD rfl (fun hc24 => ?_) (fun hc24 => ?_) | refine wp_condN rfl (fun hc24 => ?_) (fun hc24 => ?_) | refine wp_condNB rfl (fun hc24 => ?_) (fun hc24 => ?_) | refine wp_cond' rfl (fun hc24 => ?_) (fun hc24 => ?_)
    ·refine wp_seq' fun K10 hK10 => ?_
     refine wp_reg ?_
     refine ol_r (r_assign rfl) rfl ?_
     refine ol_r (r_assign rfl) rfl ?_
     refine ol_nil (to_k0 (fun _ _ h => h) (hK10 _ _ _ _ _ ?_))
     clear hK10
     refine hQ.ret (rvs2 (rv_t rfl) (rv_t rfl)) (fun _ _ h => h) fun w hb hs hB hkd => ?_
     first
       | (have h := stepD_no (p := p) (q := q) (fun h => by have h1 := placesL_in h.1 h.2 _ (List.mem_of_getElem? hx20); rw [inB_iff.2 h1] at hc24; cases hc24)
          refine ⟨?_, hb⟩
          rw [h]
          done)
       | (have h := stepD_ok hpq.1 hpq.2
          refine ⟨?_, hb⟩
          rw [h]
          done)
    ·refine wp_skip' (to_k0 (fun _ _ h => h) (hK7 _ _ _ _ _ ?_))
     clear hK7
     refine wp_reg ?_
     refine ol_r (r_add rfl rfl (by omega)) rfl ?_
     refine ol_r (r_move rfl) rfl ?_
     refine ol_nil (to_k0 (fun _ _ h => h) (hK4 (k + 1) _ _ ?_ ?_ (sub_cons rfl sub_nil) (sub_cons rfl (sub_cons rfl (sub_cons rfl (sub_cons rfl sub_nil)))) (by exact subH_nil) (subH_same rfl (subH_same rfl (subH_same rfl subH_nil)))))
     ·try dsimp only
      refine ⟨by omega, fun i y hi hy => ?_⟩
      by_cases hik : i < k
      · exact hP i y hik hy
      · have : i = k := by omega
        subst this
        rw [hx20] at hy
        cases hy
        exact inB_iff.1 hc24
     ·try dsimp only
      omega
   ·refine wp_exit' (to_k0 (fun _ _ h => h) (hK2 _ _ _ _ _ ?_))
    clear hK2
    refine wp_seq' fun K11 hK11 => ?_
    refine wp_reg ?_
    have hpq : PlaceOk p ∧ PlaceOk q := by
      have h0 := hP 0 p.x (by omega) rfl
      have h1 := hP 1 p.y (by omega) rfl
      have h2 := hP 2 q.x (by omega) rfl
      have h3 := hP 3 q.y (by omega) rfl
      exact ⟨⟨h0, h1⟩, ⟨h2, h3⟩⟩
    refine ol_r (r_lda (id := 2) (n := 7) rfl rfl rfl ag70) rfl ?_
    refine ol_r (r_lda (id := 3) (n := 7) rfl rfl rfl ag70) rfl ?_
    refine ol_call rfl rfl cb120 rfl (fun w1 hb1 hs1 hB1 => Calls.mono (track_length p q _ hpq.1 hpq.2) ?_)
    rintro e w2 ⟨rfl, hb2⟩
    refine After.below rfl hb1 hs1 hB1 hb2 ?_
    clear hb2 hB1 hs1 hb1 w2 w1
    refine ol_r (r_assign rfl) rfl ?_
    refine ol_r (r_assign rfl) rfl ?_
    refine ol_nil (to_k0 (fun _ _ h => h) (hK11 _ _ _ _ _ ?_))
    clear hK11
    refine hQ.ret (rvs2 (rv_t rfl) (rv_t rfl)) (fun _ _ h => h) fun w hb hs hB hkd => ?_
    first
      | (have h := stepD_no (p := p) (q := q) (fun h => by have h1 := placesL_in h.1 h.2 _ (List.mem_of_getElem? hx20); rw [inB_iff.2 h1] at hc24; cases hc24)
         refine ⟨?_, hb⟩
         rw [h]
         done)
      | (have h := stepD_ok hpq.1 hpq.2
         refine ⟨?_, hb⟩
         rw [h]
         done)
end Go.Proofs.Ytfbmkepogcimlaa

/-
  Scale: products over quotients, for numbers that are not too large; rounded up.
-/




namespace Go.Proofs.Ytfbmkepogcimlaa
open Go Go.RowKit Hx
set_option linter.unusedVariables false
set_option linter.unusedSimpArgs false
set_option maxRecDepth 8000
theorem bits_Mul64 (x y : Int) (w : World) (hx : 0 ≤ x ∧ x ≤ 4294967295) (hy : 0 ≤ y ∧ y ≤ 4294967295) (hxy : 0 ≤ x * y ∧ x * y ≤ 9223372036854775807) :
    Calls Try.prog 94 #[.int .u64 x, .int .u64 y] w fun e w' => e = .returned (.tuple #[.int .u64 0, .int .u64 (x * y)]) ∧ Below w.heap.size w w' := by
  refine enterQ (N := 51) (C := fun _ => True) (H := []) (B := w.heap.size) (args := [_, _]) Try.func94 rfl rfl rfl (Nat.le_refl _) (Sat.nil _ _) fun Q hQ => ?_
  refine wp_seq' fun K1 hK1 => ?_
  refine wp_reg ?_
  refine ol_r (r_assign rfl) rfl ?_
  refine ol_r (r_assign rfl) rfl ?_
  refine ol_nil (to_k0 (fun _ _ h => h) (hK1 _ _ _ _ _ ?_))
  clear hK1
  refine wp_seq' fun K2 hK2 => ?_
  refine wp_reg ?_
  refine ol_r (r_move rfl) rfl ?_
  refine ol_r (r_and32 x rfl rfl (by omega) (by omega) (by omega)) rfl ?_
  refine ol_r (r_assign rfl) rfl ?_
  refine ol_nil (to_k0 (fun _ _ h => h) (hK2 _ _ _ _ _ ?_))
  clear hK2
  refine wp_seq' fun K3 hK3 => ?_
  refine wp_reg ?_
  refine ol_r (r_move rfl) rfl ?_
  refine ol_r (r_shr32 0 rfl rfl (by omega) (by omega)) rfl ?_
  refine ol_r (r_assign rfl) rfl ?_
  refine ol_nil (to_k0 (fun _ _ h => h) (hK3 _ _ _ _ _ ?_))
  clear hK3
  refine wp_seq' fun K4 hK4 => ?_
  refine wp_reg ?_
  refine ol_r (r_move rfl) rfl ?_
  refine ol_r (r_and32 y rfl rfl (by omega) (by omega) (by omega)) rfl ?_
  refine ol_r (r_assign rfl) rfl ?_
  refine ol_nil (to_k0 (fun _ _ h => h) (hK4 _ _ _ _ _ ?_))
  clear hK4
  refine wp_seq' fun K5 hK5 => ?_
  refine wp_reg ?_
  refine ol_r (r_move rfl) rfl ?_
  refine ol_r (r_shr32 0 rfl rfl (by omega) (by omega)) rfl ?_
  refine ol_r (r_assign rfl) rfl ?_
  refine ol_nil (to_k0 (fun _ _ h => h) (hK5 _ _ _ _ _ ?_))
  clear hK5
  refine wp_seq' fun K6 hK6 => ?_
  refine wp_reg ?_
  refine ol_r (r_move rfl) rfl ?_
  refine ol_r (r_move rfl) rfl ?_
  refine ol_r (r_mulg (x * y) rfl rfl (wrap_u64 (by omega))) rfl ?_
  refine ol_r (r_assign rfl) rfl ?_
  refine ol_nil (to_k0 (fun _ _ h => h) (hK6 _ _ _ _ _ ?_))
  clear hK6
  refine wp_seq' fun K7 hK7 => ?_
  refine wp_reg ?_
  refine ol_r (r_move rfl) rfl ?_
  refine ol_r (r_move rfl) rfl ?_
  refine ol_r (r_mulg 0 rfl rfl (by rw [Int.zero_mul]; exact wrap_u64 (by omega))) rfl ?_
  refine ol_r (r_move rfl) rfl ?_
  refine ol_r (r_shr32 (x * y / 4294967296) rfl rfl (by omega) rfl) rfl ?_
  refine ol_r (r_addg (x * y / 4294967296) rfl rfl (by rw [Int.zero_add]; exact wrap_u64 (by omega))) rfl ?_
  refine ol_r (r_assign rfl) rfl ?_
  refine ol_nil (to_k0 (fun _ _ h => h) (hK7 _ _ _ _ _ ?_))
  clear hK7
  refine wp_seq' fun K8 hK8 => ?_
  refine wp_reg ?_
  refine ol_r (r_move rfl) rfl ?_
  refine ol_r (r_and32 (x * y / 4294967296) rfl rfl (by omega) (by omega) (by omega)) rfl ?_
  refine ol_r (r_assign rfl) rfl ?_
  refine ol_nil (to_k0 (fun _ _ h => h) (hK8 _ _ _ _ _ ?_))
  clear hK8
  refine wp_seq' fun K9 hK9 => ?_
  refine wp_reg ?_
  refine ol_r (r_move rfl) rfl ?_
  refine ol_r (r_shr32 0 rfl rfl (by omega) (by omega)) rfl ?_
  refine ol_r (r_assign rfl) rfl ?_
  refine ol_nil (to_k0 (fun _ _ h => h) (hK9 _ _ _ _ _ ?_))
  clear hK9
  refine wp_seq' fun K10 hK10 => ?_
  refine wp_reg ?_
  refine ol_r (r_move rfl) rfl ?_
  refine ol_r (r_move rfl) rfl ?_
  refine ol_r (r_move rfl) rfl ?_
  refine ol_r (r_mulg 0 rfl rfl (by rw [Int.mul_zero]; exact wrap_u64 (by omega))) rfl ?_
  refine ol_r (r_addg (x * y / 4294967296) rfl rfl (by rw [Int.add_zero]; exact wrap_u64 (by omega))) rfl ?_
  refine ol_r (r_assign rfl) rfl ?_
  refine ol_nil (to_k0 (fun _ _ h => h) (hK10 _ _ _ _ _ ?_))
  clear hK10
  refine wp_seq' fun K11 hK11 => ?_
  refine wp_reg ?_
  refine ol_r (r_move rfl) rfl ?_
  refine ol_r (r_move rfl) rfl ?_
  refine ol_r (r_mulg 0 rfl rfl (by rw [Int.zero_mul]; exact wrap_u64 (by omega))) rfl ?_
  refine ol_r (r_move rfl) rfl ?_
  refine ol_r (r_addg 0 rfl rfl (by rw [Int.zero_add]; exact wrap_u64 (by omega))) rfl ?_
  refine ol_r (r_move rfl) rfl ?_
  refine ol_r (r_shr32 0 rfl rfl (by omega) (by omega)) rfl ?_
  refine ol_r (r_addg 0 rfl rfl (by rw [Int.zero_add]; exact wrap_u64 (by omega))) rfl ?_
  refine ol_r (r_assign rfl) rfl ?_
  refine ol_nil (to_k0 (fun _ _ h => h) (hK11 _ _ _ _ _ ?_))
  clear hK11
  refine wp_seq' fun K12 hK12 => ?_
  refine wp_reg ?_
  refine ol_r (r_move rfl) rfl ?_
  refine ol_r (r_move rfl) rfl ?_
  refine ol_r (r_mulg (x * y) rfl rfl (wrap_u64 (by omega))) rfl ?_
  refine ol_r (r_assign rfl) rfl ?_
  refine ol_nil (to_k0 (fun _ _ h => h) (hK12 _ _ _ _ _ ?_))
  clear hK12
  refine hQ.ret (rvs2 (rv_t rfl) (rv_t rfl)) (fun _ _ h => h) fun w hb hs hB hkd => ?_
  exact ⟨rfl, hb⟩
theorem bits_Div64 (x y : Int) (w : World) (hx : 0 ≤ x ∧ x ≤ 9223372036854775807) (hy : 1 ≤ y ∧ y ≤ 9223372036854775807) :
    Calls Try.prog 95 #[.int .u64 0, .int .u64 x, .int .u64 y] w fun e w' => e = .returned (.tuple #[.int .u64 (x / y), .int .u64 (x % y)]) ∧ Below w.heap.size w w' := by
  have hq : 0 ≤ x / y := Int.ediv_nonneg hx.1 (by omega)
  have hq2 : x / y ≤ x := Int.ediv_le_self _ hx.1
  have hr : 0 ≤ x % y := Int.emod_nonneg _ (by omega)
  have hr2 : x % y < y := Int.emod_lt_of_pos _ (by omega)
  refine enterQ (N := 135) (C := fun _ => True) (H := []) (B := w.heap.size) (args := [_, _, _]) Try.func95 rfl rfl rfl (Nat.le_refl _) (Sat.nil _ _) fun Q hQ => ?_
  refine wp_seq' fun K1 hK1 => ?_
  refine wp_reg ?_
  refine ol_r (r_assign rfl) rfl ?_
  refine ol_r (r_assign rfl) rfl ?_
  refine ol_nil (to_k0 (fun _ _ h => h) (hK1 _ _ _ _ _ ?_))
  clear hK1
  refine wp_seq' fun K2 hK2 => ?_
  refine wp_seq' fun K3 hK3 => ?_
  refine wp_reg ?_
  refine ol_r (r_move rfl) rfl ?_
  refine ol_r (r_eql rfl rfl) rfl ?_
  refine ol_nil (to_k0 (fun _ _ h => h) (hK3 _ _ _ _ _ ?_))
  clear hK3
  refine wp_condD rfl (fun hc20 => ?_) (fun hc20 => ?_)
  ·exfalso
   omega
  ·refine wp_skip' (to_k0 (fun _ _ h => h) (hK2 _ _ _ _ _ ?_))
   clear hK2
   refine wp_seq' fun K4 hK4 => ?_
   refine wp_seq' fun K5 hK5 => ?_
   refine wp_reg ?_
   refine ol_r (r_move rfl) rfl ?_
   refine ol_r (r_move rfl) rfl ?_
   refine ol_r (r_leq rfl rfl) rfl ?_
   refine ol_nil (to_k0 (fun _ _ h => h) (hK5 _ _ _ _ _ ?_))
   clear hK5
   refine wp_condD rfl (fun hc24 => ?_) (fun hc24 => ?_)
   ·exfalso
    omega
   ·refine wp_skip' (to_k0 (fun _ _ h => h) (hK4 _ _ _ _ _ ?_))
    clear hK4
    refine wp_seq' fun K6 hK6 => ?_
    refine wp_seq' fun K7 hK7 => ?_
    refine wp_reg ?_
    refine ol_r (r_move rfl) rfl ?_
    refine ol_r (r_eql rfl rfl) rfl ?_
    refine ol_nil (to_k0 (fun _ _ h => h) (hK7 _ _ _ _ _ ?_))
    clear hK7
    refine wp_condD rfl (fun hc27 => ?_) (fun hc27 => ?_)
    ·refine wp_seq' fun K8 hK8 => ?_
     refine wp_regq (by kernel_rfl) (by kernel_rfl) ?_
     refine ql_r (r_move rfl) rfl ?_
     refine ql_r (r_move rfl) rfl ?_
     refine ql_r (r_quog rfl rfl (by omega) (by omega) (wrap_u64 (by omega))) rfl ?_
     refine ql_r (r_move rfl) rfl ?_
     refine ql_r (r_move rfl) rfl ?_
     refine ql_r (r_remg rfl rfl (by omega) (by omega) (wrap_u64 (by omega))) rfl ?_
     refine ql_r (r_assign rfl) rfl ?_
     refine ql_r (r_assign rfl) rfl ?_
     refine ql_nil (to_k0 (fun _ _ h => h) (hK8 _ _ _ _ _ ?_))
     clear hK8
     refine hQ.ret (rvs2 (rv_t rfl) (rv_t rfl)) (fun _ _ h => h) fun w hb hs hB hkd => ?_
     exact ⟨rfl, hb⟩
    ·exfalso
     omega
theorem cmp_isNaNu (x : Int) (w : World) : Calls Try.prog 129 #[.int .u64 x] w fun e w' => e = .returned (.bool false) ∧ Below w.heap.size w w' := by
  refine enterQ (N := 6) (C := fun _ => True) (H := []) (B := w.heap.size) (args := [_]) Try.func129 rfl rfl rfl (Nat.le_refl _) (Sat.nil _ _) fun Q hQ => ?_
  refine wp_seq' fun K1 hK1 => ?_
  refine wp_reg ?_
  refine ol_r (r_assign rfl) rfl ?_
  refine ol_nil (to_k0 (fun _ _ h => h) (hK1 _ _ _ _ _ ?_))
  clear hK1
  refine wp_seq' fun K2 hK2 => ?_
  refine wp_reg ?_
  refine ol_r (r_move rfl) rfl ?_
  refine ol_r (r_move rfl) rfl ?_
  refine ol_r (r_neq rfl rfl) rfl ?_
  refine ol_r (r_assign rfl) rfl ?_
  refine ol_nil (to_k0 (fun _ _ h => h) (hK2 _ _ _ _ _ ?_))
  clear hK2
  refine hQ.ret (rvs1 (rv_t rfl)) (fun _ _ h => h) fun w hb hs hB hkd => ?_
  exact ⟨by simp, hb⟩
def cmpI (x y : Int) : Int := if x < y then -1 else if y < x then 1 else 0
theorem cmp_Compareu (x y : Int) (w : World) : Calls Try.prog 96 #[.int .u64 x, .int .u64 y] w fun e w' => e = .returned (.int .i64 (cmpI x y)) ∧ Below w.heap.size w w' := by
  refine enterQ (N := 20) (C := fun _ => True) (H := []) (B := w.heap.size) (args := [_, _]) Try.func96 rfl rfl rfl (Nat.le_refl _) (Sat.nil _ _) fun Q hQ => ?_
  refine wp_seq' fun K1 hK1 => ?_
  refine wp_reg ?_
  refine ol_r (r_assign rfl) rfl ?_
  refine ol_nil (to_k0 (fun _ _ h => h) (hK1 _ _ _ _ _ ?_))
  clear hK1
  refine wp_seq' fun K2 hK2 => ?_
  refine wp_reg ?_
  refine ol_r (r_move rfl) rfl ?_
  refine ol_call rfl rfl cb129 rfl (fun w1 hb1 hs1 hB1 => Calls.mono (cmp_isNaNu _ _) ?_)
  rintro e w2 ⟨rfl, hb2⟩
  refine After.below rfl hb1 hs1 hB1 hb2 ?_
  clear hb2 hB1 hs1 hb1 w2 w1
  refine ol_r (r_assign rfl) rfl ?_
  refine ol_nil (to_k0 (fun _ _ h => h) (hK2 _ _ _ _ _ ?_))
  clear hK2
  refine wp_seq' fun K3 hK3 => ?_
  refine wp_reg ?_
  refine ol_r (r_move rfl) rfl ?_
  refine ol_call rfl rfl cb129 rfl (fun w1 hb1 hs1 hB1 => Calls.mono (cmp_isNaNu _ _) ?_)
  rintro e w2 ⟨rfl, hb2⟩
  refine After.below rfl hb1 hs1 hB1 hb2 ?_
  clear hb2 hB1 hs1 hb1 w2 w1
  refine ol_r (r_assign rfl) rfl ?_
  refine ol_nil (to_k0 (fun _ _ h => h) (hK3 _ _ _ _ _ ?_))
  clear hK3
  refine wp_seq' fun K4 hK4 => ?_
  refine wp_seq' fun K5 hK5 => ?_
  refine wp_reg ?_
  refine ol_r (r_move rfl) rfl ?_
  refine ol_nil (to_k0 (fun _ _ h => h) (hK5 _ _ _ _ _ ?_))
  clear hK5
  refine wp_cond' rfl (fun hc11 => ?_) (fun hc11 => ?_)
  ·refine wp_seq' fun K6 hK6 => ?_
   refine wp_seq' fun K7 hK7 => ?_
   refine wp_reg ?_
   refine ol_r (r_move rfl) rfl ?_
   refine ol_nil (to_k0 (fun _ _ h => h) (hK7 _ _ _ _ _ ?_))
   clear hK7
   refine wp_cond' rfl (fun hc12 => ?_) (fun hc12 => ?_)
   ·refine wp_seq' fun K8 hK8 => ?_
    refine wp_reg ?_
    refine ol_r (r_assign rfl) rfl ?_
    refine ol_nil (to_k0 (fun _ _ h => h) (hK8 _ _ _ _ _ ?_))
    clear hK8
    refine hQ.ret (rvs1 (rv_t rfl)) (fun _ _ h => h) fun w hb hs hB hkd => ?_
    first
      | (exfalso; simp_all; done)
   ·refine wp_skip' (to_k0 (fun _ _ h => h) (hK6 _ _ _ _ _ ?_))
    clear hK6
    refine wp_seq' fun K9 hK9 => ?_
    refine wp_reg ?_
    refine ol_r (r_assign rfl) rfl ?_
    refine ol_nil (to_k0 (fun _ _ h => h) (hK9 _ _ _ _ _ ?_))
    clear hK9
    refine hQ.ret (rvs1 (rv_t rfl)) (fun _ _ h => h) fun w hb hs hB hkd => ?_
    first
      | (exfalso; simp_all; done)
  ·refine wp_skip' (to_k0 (fun _ _ h => h) (hK4 _ _ _ _ _ ?_))
   clear hK4
   refine wp_seq' fun K10 hK10 => ?_
   refine wp_seq' fun K11 hK11 => ?_
   refine wp_reg ?_
   refine ol_r (r_move rfl) rfl ?_
   refine ol_nil (to_k0 (fun _ _ h => h) (hK11 _ _ _ _ _ ?_))
   clear hK11
   refine wp_cond' rfl (fun hc13 => ?_) (fun hc13 => ?_)
   ·refine wp_seq' fun K12 hK12 => ?_
    refine wp_reg ?_
    refine ol_r (r_assign rfl) rfl ?_
    refine ol_nil (to_k0 (fun _ _ h => h) (hK12 _ _ _ _ _ ?_))
    clear hK12
    refine hQ.ret (rvs1 (rv_t rfl)) (fun _ _ h => h) fun w hb hs hB hkd => ?_
    first
      | (exfalso; simp_all; done)
   ·refine wp_skip' (to_k0 (fun _ _ h => h) (hK10 _ _ _ _ _ ?_))
    clear hK10
    refine wp_seq' fun K13 hK13 => ?_
    refine wp_seq' fun K14 hK14 => ?_
    refine wp_reg ?_
    refine ol_r (r_move rfl) rfl ?_
    refine ol_r (r_move rfl) rfl ?_
    refine ol_r (r_lss rfl rfl) rfl ?_
    refine ol_nil (to_k0 (fun _ _ h => h) (hK14 _ _ _ _ _ ?_))
    clear hK14
    refine wp_condD rfl (fun hc16 => ?_) (fun hc16 => ?_)
    ·refine wp_seq' fun K15 hK15 => ?_
     refine wp_reg ?_
     refine ol_r (r_assign rfl) rfl ?_
     refine ol_nil (to_k0 (fun _ _ h => h) (hK15 _ _ _ _ _ ?_))
     clear hK15
     refine hQ.ret (rvs1 (rv_t rfl)) (fun _ _ h => h) fun w hb hs hB hkd => ?_
     first
       | exact ⟨by unfold cmpI; rw [if_pos (by omega)], hb⟩
    ·refine wp_skip' (to_k0 (fun _ _ h => h) (hK13 _ _ _ _ _ ?_))
     clear hK13
     refine wp_seq' fun K16 hK16 => ?_
     refine wp_seq' fun K17 hK17 => ?_
     refine wp_reg ?_
     refine ol_r (r_move rfl) rfl ?_
     refine ol_r (r_move rfl) rfl ?_
     refine ol_r (r_gtr rfl rfl) rfl ?_
     refine ol_nil (to_k0 (fun _ _ h => h) (hK17 _ _ _ _ _ ?_))
     clear hK17
     refine wp_condD rfl (fun hc19 => ?_) (fun hc19 => ?_)
     ·refine wp_seq' fun K18 hK18 => ?_
      refine wp_reg ?_
      refine ol_r (r_assign rfl) rfl ?_
      refine ol_nil (to_k0 (fun _ _ h => h) (hK18 _ _ _ _ _ ?_))
      clear hK18
      refine hQ.ret (rvs1 (rv_t rfl)) (fun _ _ h => h) fun w hb hs hB hkd => ?_
      first
        | exact ⟨by unfold cmpI; rw [if_neg (by omega), if_pos (by omega)], hb⟩
     ·refine wp_skip' (to_k0 (fun _ _ h => h) (hK16 _ _ _ _ _ ?_))
      clear hK16
      refine wp_seq' fun K19 hK19 => ?_
      refine wp_reg ?_
      refine ol_r (r_assign rfl) rfl ?_
      refine ol_nil (to_k0 (fun _ _ h => h) (hK19 _ _ _ _ _ ?_))
      clear hK19
      refine hQ.ret (rvs1 (rv_t rfl)) (fun _ _ h => h) fun w hb hs hB hkd => ?_
      first
        | exact ⟨by unfold cmpI; rw [if_neg (by omega), if_neg (by omega)], hb⟩
/-- A way of rounding, as it lies. -/
def encWay : Enc (Int × FuncId) := { size := 2, cells := fun x => [.int .i64 x.1, .func (.func x.2) #[] #[]], val := fun x => .agg #[.int .i64 x.1, .func (.func x.2) #[] #[]], len := fun _ => rfl, ones := fun _ u h => (by simp at h; rcases h with h | h <;> subst h <;> rfl), pos := by decide, vc := fun _ => rfl }
theorem ty168 : Ty Try.prog 168 encWay := .inr ⟨ag168, fun _ => rfl⟩
def waysL : List (Int × FuncId) := [(1, 123), (2, 124), (3, 125), (4, 126), (5, 127)]
theorem bd168_0_1 (x0 : Int) (g1 : FuncId) (w : World) : (Instr.build 168 #[(0, .int .i64 x0), (1, .func (.func g1) #[] #[])]).run Try.prog w = .ok (.agg #[.int .i64 x0, .func (.func g1) #[] #[]]) w := by kernel_rfl
theorem quant_ways (w : World) : Calls Try.prog 91 #[] w fun e w' => ∃ b m k, e = .returned (.slice b m k) ∧ Fresh encWay 168 w w' b m k waysL := by
  refine enterQ (N := 7) (C := fun _ => True) (H := []) (B := w.heap.size) (args := []) Try.func91 rfl rfl rfl (Nat.le_refl _) (Sat.nil _ _) fun Q hQ => ?_
  refine wp_seq' fun K1 hK1 => ?_
  refine wp_reg ?_
  refine ol_r (r_assign rfl) rfl ?_
  refine ol_nil (to_k0 (fun _ _ h => h) (hK1 _ _ _ _ _ ?_))
  clear hK1
  refine wp_seq' fun K2 hK2 => ?_
  refine wp_reg ?_
  refine ol_r (r_build rfl (fun _ => bd168_0_1 _ _ _)) rfl ?_
  refine ol_r (r_build rfl (fun _ => bd168_0_1 _ _ _)) rfl ?_
  refine ol_r (r_build rfl (fun _ => bd168_0_1 _ _ _)) rfl ?_
  refine ol_r (r_build rfl (fun _ => bd168_0_1 _ _ _)) rfl ?_
  refine ol_r (r_build rfl (fun _ => bd168_0_1 _ _ _)) rfl ?_
  refine ol_bsG (encWay.enc (waysL)) 6 rfl rw163 rfl rfl (fun _ => by kernel_rfl) rfl fun a6 => ?_
  refine ol_r (r_assign rfl) rfl ?_
  refine ol_nil (to_k0 (fun _ _ h => h) (hK2 _ _ _ _ _ ?_))
  clear hK2
  refine hQ.ret (rvs1 (rv_t rfl)) (fun _ _ h => h) fun w hb hs hB hkd => ?_
  exact ⟨_, _, _, rfl, hb, hs.ok 6 _ rfl⟩
theorem way_up (below : Bool) (whole half : Int) (w : World) : Calls Try.prog 124 #[.bool below, .int .u64 whole, .int .i64 half] w fun e w' => e = .returned (.bool (!below)) ∧ Below w.heap.size w w' := by
  refine enterQ (N := 9) (C := fun _ => True) (H := []) (B := w.heap.size) (args := [_, _, _]) Try.func124 rfl rfl rfl (Nat.le_refl _) (Sat.nil _ _) fun Q hQ => ?_
  refine wp_seq' fun K1 hK1 => ?_
  refine wp_reg ?_
  refine ol_r (r_assign rfl) rfl ?_
  refine ol_nil (to_k0 (fun _ _ h => h) (hK1 _ _ _ _ _ ?_))
  clear hK1
  refine wp_seq' fun K2 hK2 => ?_
  refine wp_reg ?_
  refine ol_r (r_move rfl) rfl ?_
  refine ol_r (r_not rfl) rfl ?_
  refine ol_r (r_assign rfl) rfl ?_
  refine ol_nil (to_k0 (fun _ _ h => h) (hK2 _ _ _ _ _ ?_))
  clear hK2
  refine hQ.ret (rvs1 (rv_t rfl)) (fun _ _ h => h) fun w hb hs hB hkd => ?_
  exact ⟨rfl, hb⟩
theorem way_near (below : Bool) (whole half : Int) (w : World) : Calls Try.prog 126 #[.bool below, .int .u64 whole, .int .i64 half] w fun e w' => e = .returned (.bool (decide (0 < half) || (decide (half = 0) && !below))) ∧ Below w.heap.size w w' := by
  refine enterQ (N := 17) (C := fun _ => True) (H := []) (B := w.heap.size) (args := [_, _, _]) Try.func126 rfl rfl rfl (Nat.le_refl _) (Sat.nil _ _) fun Q hQ => ?_
  refine wp_seq' fun K1 hK1 => ?_
  refine wp_reg ?_
  refine ol_r (r_assign rfl) rfl ?_
  refine ol_nil (to_k0 (fun _ _ h => h) (hK1 _ _ _ _ _ ?_))
  clear hK1
  refine wp_seq' fun K2 hK2 => ?_
  refine wp_reg ?_
  refine ol_r (r_move rfl) rfl ?_
  refine ol_r (r_gtr rfl rfl) rfl ?_
  refine ol_r (r_move rfl) rfl ?_
  refine ol_split (d := 9) rfl (fun hs9 => ?_) (fun hs9 => ?_)
  ·have phs9 := hs9; try simp only [decide_eq_true_eq, decide_eq_false_iff_not, Bool.not_eq_true', Bool.not_eq_false', Bool.not_true, Bool.not_false] at phs9
   refine ol_s rfl rfl hs9 rfl ?_
   refine ol_s rfl rfl hs9 rfl ?_
   refine ol_s rfl rfl hs9 rfl ?_
   refine ol_u rfl rfl rfl ?_
   refine ol_u rfl rfl rfl ?_
   refine ol_s rfl rfl hs9 rfl ?_
   refine ol_r (r_pickT rfl hs9 rfl) rfl ?_
   refine ol_r (r_assign rfl) rfl ?_
   refine ol_nil (to_k0 (fun _ _ h => h) (hK2 _ _ _ _ _ ?_))
   clear hK2
   refine hQ.ret (rvs1 (rv_t rfl)) (fun _ _ h => h) fun w hb hs hB hkd => ?_
   first
     | exact ⟨by simp_all, hb⟩
  ·have phs9 := hs9; try simp only [decide_eq_true_eq, decide_eq_false_iff_not, Bool.not_eq_true', Bool.not_eq_false', Bool.not_true, Bool.not_false] at phs9
   refine ol_g rfl rfl hs9 ?_
   refine ol_r (r_move rfl) rfl ?_
   refine ol_g rfl rfl hs9 ?_
   refine ol_r (r_eql rfl rfl) rfl ?_
   refine ol_g rfl rfl hs9 ?_
   refine ol_r (r_move rfl) rfl ?_
   refine ol_split (d := 12) rfl (fun hs12 => ?_) (fun hs12 => ?_)
   ·have phs12 := hs12; try simp only [decide_eq_true_eq, decide_eq_false_iff_not, Bool.not_eq_true', Bool.not_eq_false', Bool.not_true, Bool.not_false] at phs12
    refine ol_g rfl rfl hs12 ?_
    refine ol_r (r_move rfl) rfl ?_
    refine ol_g rfl rfl hs12 ?_
    refine ol_r (r_not rfl) rfl ?_
    refine ol_g rfl rfl hs9 ?_
    refine ol_r (r_pickT rfl hs12 rfl) rfl ?_
    refine ol_r (r_pickF rfl hs9 rfl) rfl ?_
    refine ol_r (r_assign rfl) rfl ?_
    refine ol_nil (to_k0 (fun _ _ h => h) (hK2 _ _ _ _ _ ?_))
    clear hK2
    refine hQ.ret (rvs1 (rv_t rfl)) (fun _ _ h => h) fun w hb hs hB hkd => ?_
    first
      | exact ⟨by simp_all, hb⟩
   ·have phs12 := hs12; try simp only [decide_eq_true_eq, decide_eq_false_iff_not, Bool.not_eq_true', Bool.not_eq_false', Bool.not_true, Bool.not_false] at phs12
    refine ol_s rfl rfl hs12 rfl ?_
    refine ol_s rfl rfl hs12 rfl ?_
    refine ol_g rfl rfl hs9 ?_
    refine ol_r (r_pickF rfl hs12 rfl) rfl ?_
    refine ol_r (r_pickF rfl hs9 rfl) rfl ?_
    refine ol_r (r_assign rfl) rfl ?_
    refine ol_nil (to_k0 (fun _ _ h => h) (hK2 _ _ _ _ _ ?_))
    clear hK2
    refine hQ.ret (rvs1 (rv_t rfl)) (fun _ _ h => h) fun w hb hs hB hkd => ?_
    first
      | exact ⟨by simp_all, hb⟩
theorem indexFunc_way (a : Option Addr) (n c1 : Nat) (xs : List (Int × FuncId)) (g : FuncId) (cv : List Value) (p : Int × FuncId → Bool) (r : Int) (w : World) (hx : Rd encWay w.heap.size w a n c1 xs) (hg : Callable Try.prog g) (hr : idxP p xs = r)
    (hf : ∀ x w', x ∈ xs → Below w.heap.size w w' → w.heap.size ≤ w'.heap.size → Calls Try.prog g ([encWay.val x] ++ cv).toArray w' fun e w2 => e = .returned (.bool (p x)) ∧ Below w'.heap.size w' w2) :
    Calls Try.prog 92 #[.slice a n c1, .func (.func g) #[] cv.toArray] w fun e w' => e = .returned (.int .i64 r) ∧ Below w.heap.size w w' := by
  have hl := hx.len
  have hfit := hx.fit
  subst hl
  subst hr
  refine enterQ (N := 19) (C := fun _ => True) (H := []) (B := w.heap.size) (args := [_, _]) Try.func92 rfl rfl rfl (Nat.le_refl _) (Sat.nil _ _) fun Q hQ => ?_
  refine wp_seq' fun K1 hK1 => ?_
  refine wp_reg ?_
  refine ol_r (r_assign rfl) rfl ?_
  refine ol_nil (to_k0 (fun _ _ h => h) (hK1 _ _ _ _ _ ?_))
  clear hK1
  refine wp_seq' fun K2 hK2 => ?_
  refine wp_seq' fun K3 hK3 => ?_
  refine wp_reg ?_
  refine ol_r (r_move rfl) rfl ?_
  refine ol_r (r_len rfl sl163) rfl ?_
  refine ol_r (r_move rfl) rfl ?_
  refine ol_nil (to_k0 (fun _ _ h => h) (hK3 _ _ _ _ _ ?_))
  clear hK3
  refine wp_block' ?_
  apply wp_loopM (σ := Nat) (fun s => s ≤ xs.length ∧ ∀ y ∈ xs.take s, p y = false) (fun s => [(8, .int .i64 s)]) [(0, _), (1, _), (7, _)] (fun s => []) [] (fun s => xs.length - s) (0)
  ·try dsimp only
   simp
  ·exact (sub_cons rfl sub_nil)
  ·exact (sub_cons rfl (sub_cons rfl (sub_cons rfl sub_nil)))
  ·exact subH_nil
  ·exact subH_nil
  ·rintro k ⟨hk, hP⟩
   intro K4 hK4
   refine wp_seq' fun K5 hK5 => ?_
   refine wp_reg ?_
   refine ol_r (r_lss rfl rfl) rfl ?_
   refine ol_nil (to_k0 (fun _ _ h => h) (hK5 _ _ _ _ _ ?_))
   clear hK5
   refine wp_seq' fun K6 hK6 => ?_
   refine wp_condD rfl (fun hc9 => ?_) (fun hc9 => ?_)
   ·refine wp_skip' (to_k0 (fun _ _ h => h) (hK6 _ _ _ _ _ ?_))
    clear hK6
    refine wp_seq' fun K7 hK7 => ?_
    refine wp_block' ?_
    refine wp_seq' fun K8 hK8 => ?_
    refine wp_reg ?_
    refine ol_r (r_move rfl) rfl ?_
    refine ol_r (r_assign rfl) rfl ?_
    refine ol_nil (to_k0 (fun _ _ h => h) (hK8 _ _ _ _ _ ?_))
    clear hK8
    refine wp_seq' fun K9 hK9 => ?_
    refine wp_reg ?_
    refine ol_r (r_move rfl) rfl ?_
    refine ol_r (r_move rfl) rfl ?_
    refine ol_r (r_move rfl) rfl ?_
    refine ol_ixr hx rfl rfl sl163 (by omega) rfl fun x14 hx14 => ?_
    try simp only [Int.toNat_natCast] at hx14
    refine ol_r (r_ldw rfl (fun w1 hb1 hs1 hB1 => Rd.loads hx ty168 hx14 hb1)) rfl ?_
    refine ol_call rfl rfl hg rfl (fun w1 hb1 hs1 hB1 => Calls.mono (hf _ _ (List.mem_of_getElem? hx14) hb1 hB1) ?_)
    rintro e w2 ⟨rfl, hb2⟩
    refine After.below rfl hb1 hs1 hB1 hb2 ?_
    clear hb2 hB1 hs1 hb1 w2 w1
    refine ol_nil (to_k0 (fun _ _ h => h) (hK9 _ _ _ _ _ ?_))
    clear hK9
    refine wp_cond' rfl (fun hc16 => ?_) (fun hc16 => ?_)
    ·refine wp_seq' fun K10 hK10 => ?_
     refine wp_reg ?_
     refine ol_r (r_move rfl) rfl ?_
     refine ol_r (r_assign rfl) rfl ?_
     refine ol_nil (to_k0 (fun _ _ h => h) (hK10 _ _ _ _ _ ?_))
     clear hK10
     refine hQ.ret (rvs1 (rv_t rfl)) (fun _ _ h => h) fun w hb hs hB hkd => ?_
     exact ⟨by rw [idxP_at hx14 hc16 hP], hb⟩
    ·refine wp_skip' (to_k0 (fun _ _ h => h) (hK7 _ _ _ _ _ ?_))
     clear hK7
     refine wp_reg ?_
     refine ol_r (r_add rfl rfl (by omega)) rfl ?_
     refine ol_r (r_move rfl) rfl ?_
     refine ol_nil (to_k0 (fun _ _ h => h) (hK4 (k + 1) _ _ ?_ ?_ (sub_cons rfl sub_nil) (sub_cons rfl (sub_cons rfl (sub_cons rfl sub_nil))) (by exact subH_nil) subH_nil))
     ·try dsimp only
      refine ⟨by omega, fun y hy => ?_⟩
      rw [take_succ_get hx14] at hy
      rcases List.mem_append.1 hy with h | h
      · exact hP y h
      · simp at h; subst h; exact hc16
     ·try dsimp only
      omega
   ·refine wp_exit' (to_k0 (fun _ _ h => h) (hK2 _ _ _ _ _ ?_))
    clear hK2
    refine wp_seq' fun K11 hK11 => ?_
    refine wp_reg ?_
    refine ol_r (r_assign rfl) rfl ?_
    refine ol_nil (to_k0 (fun _ _ h => h) (hK11 _ _ _ _ _ ?_))
    clear hK11
    refine hQ.ret (rvs1 (rv_t rfl)) (fun _ _ h => h) fun w hb hs hB hkd => ?_
    rw [List.take_of_length_le (by omega)] at hP
    exact ⟨by rw [idxP_no hP], hb⟩
theorem scale_is (x : Int × FuncId) (how : Int) (b : Nat) (w : World) (h : Blk w.heap.size w b [(0, .int .i64 how)]) :
    Calls Try.prog 93 ([encWay.val x] ++ [Value.pointer (some ⟨b, 0, none⟩)]).toArray w fun e w' => e = .returned (.bool (decide (x.1 = how))) ∧ Below w.heap.size w w' := by
  refine enterQ (N := 8) (C := fun _ => True) (H := []) (B := w.heap.size) (args := [_, _]) Try.func93 rfl rfl rfl (Nat.le_refl _) (Sat.nil _ _) fun Q hQ => ?_
  refine wp_seq' fun K1 hK1 => ?_
  refine wp_reg ?_
  refine ol_box 2 rfl rfl rfl fun b2 => ?_
  refine ol_r (r_assign rfl) rfl ?_
  refine ol_nil (to_k0 (fun _ _ h => h) (hK1 _ _ _ _ _ ?_))
  clear hK1
  refine wp_seq' fun K2 hK2 => ?_
  refine wp_reg ?_
  refine ol_r (r_fa (o' := 0) rfl fl168_0 rfl) rfl ?_
  refine ol_r (r_ld (id := 2) rfl rfl rfl sc3) rfl ?_
  refine ol_r (r_ldw rfl (fun w1 hb1 hs1 hB1 => Blk.loads (o := 0) h hb1 sc3 rfl)) rfl ?_
  refine ol_r (r_eql rfl rfl) rfl ?_
  refine ol_r (r_assign rfl) rfl ?_
  refine ol_nil (to_k0 (fun _ _ h => h) (hK2 _ _ _ _ _ ?_))
  clear hK2
  refine hQ.ret (rvs1 (rv_t rfl)) (fun _ _ h => h) fun w hb hs hB hkd => ?_
  exact ⟨rfl, hb⟩
theorem quant_ScaleUp (a num den : Int) (w : World) (ha : 0 ≤ a ∧ a ≤ 4294967295) (hn : 0 ≤ num ∧ num ≤ 4294967295) (hd : 1 ≤ den ∧ den ≤ 4294967295) (hx : 0 ≤ a * num ∧ a * num ≤ 1000000000000000000) :
    Calls Try.prog 64 #[.int .i64 a, .int .i64 num, .int .i64 den, .int .i64 2] w fun e w' => e = .returned (.tuple #[.int .i64 (upD (a * num) den), .int .i64 0]) ∧ Below w.heap.size w w' := by
  have hq : 0 ≤ a * num / den := Int.ediv_nonneg hx.1 (by omega)
  have hq2 : a * num / den ≤ a * num := Int.ediv_le_self _ hx.1
  have hr : 0 ≤ a * num % den := Int.emod_nonneg _ (by omega)
  have hr2 : a * num % den < den := Int.emod_lt_of_pos _ (by omega)
  have hup := upD_eq (x := a * num) hd.1
  refine enterQ (N := 88) (C := fun _ => True) (H := []) (B := w.heap.size) (args := [_, _, _, _]) Try.func64 rfl rfl rfl (Nat.le_refl _) (Sat.nil _ _) fun Q hQ => ?_
  refine wp_seq' fun K1 hK1 => ?_
  refine wp_reg ?_
  refine ol_box 7 rfl rfl rfl fun b7 => ?_
  refine ol_r (r_assign rfl) rfl ?_
  refine ol_r (r_assign rfl) rfl ?_
  refine ol_nil (to_k0 (fun _ _ h => h) (hK1 _ _ _ _ _ ?_))
  clear hK1
  refine wp_seq' fun K2 hK2 => ?_
  refine wp_reg ?_
  refine ol_call rfl rfl cb91 rfl (fun w1 hb1 hs1 hB1 => Calls.mono (quant_ways _) ?_)
  rintro e w2 ⟨a18, n18, c18, rfl, hf18⟩
  refine After.fresh (id := 18) rfl hb1 hs1 hB1 hf18 ?_
  have hl18 := hf18.len; clear hf18 hB1 hs1 hb1 w2 w1
  refine ol_r (r_assign rfl) rfl ?_
  refine ol_nil (to_k0 (fun _ _ h => h) (hK2 _ _ _ _ _ ?_))
  clear hK2
  refine wp_seq' fun K3 hK3 => ?_
  refine wp_reg ?_
  have hn18 : n18 = 5 := by rw [← hl18]; rfl
  refine ol_r (r_move rfl) rfl ?_
  refine ol_r (r_func rfl) rfl ?_
  refine ol_call rfl rfl cb92 rfl (fun w1 hb1 hs1 hB1 => Calls.mono (indexFunc_way _ _ _ waysL _ _ (fun x => decide (x.1 = 2)) 1 _ (Sat.rd hs1 (E := encWay) (id := 18) rfl rfl) cb93 rfl (fun x w' _ h1 h2 => scale_is x 2 _ w' ((hs1.blk (id := 7) rfl).at h1 h2))) ?_)
  rintro e w2 ⟨rfl, hb2⟩
  refine After.below rfl hb1 hs1 hB1 hb2 ?_
  clear hb2 hB1 hs1 hb1 w2 w1
  refine ol_r (r_assign rfl) rfl ?_
  refine ol_nil (to_k0 (fun _ _ h => h) (hK3 _ _ _ _ _ ?_))
  clear hK3
  refine wp_seq' fun K4 hK4 => ?_
  refine wp_seq' fun K5 hK5 => ?_
  refine wp_reg ?_
  refine ol_r (r_move rfl) rfl ?_
  refine ol_r (r_lss rfl rfl) rfl ?_
  refine ol_nil (to_k0 (fun _ _ h => h) (hK5 _ _ _ _ _ ?_))
  clear hK5
  refine wp_condD rfl (fun hc23 => ?_) (fun hc23 => ?_)
  ·exfalso
   omega
  ·refine wp_skip' (to_k0 (fun _ _ h => h) (hK4 _ _ _ _ _ ?_))
   clear hK4
   refine wp_seq' fun K6 hK6 => ?_
   refine wp_seq' fun K7 hK7 => ?_
   refine wp_reg ?_
   refine ol_r (r_move rfl) rfl ?_
   refine ol_r (r_leq rfl rfl) rfl ?_
   refine ol_r (r_move rfl) rfl ?_
   refine ol_split (d := 26) rfl (fun hs26 => ?_) (fun hs26 => ?_)
   ·have phs26 := hs26; try simp only [decide_eq_true_eq, decide_eq_false_iff_not, Bool.not_eq_true', Bool.not_eq_false', Bool.not_true, Bool.not_false] at phs26
    refine ol_s rfl rfl hs26 rfl ?_
    refine ol_s rfl rfl hs26 rfl ?_
    refine ol_r (r_pickT rfl hs26 rfl) rfl ?_
    refine ol_nil (to_k0 (fun _ _ h => h) (hK7 _ _ _ _ _ ?_))
    clear hK7
    refine wp_condT rfl ?_
    refine wp_seq' fun K8 hK8 => ?_
    refine wp_reg ?_
    refine ol_r (r_assign rfl) rfl ?_
    refine ol_r (r_assign rfl) rfl ?_
    refine ol_nil (to_k0 (fun _ _ h => h) (hK8 _ _ _ _ _ ?_))
    clear hK8
    refine hQ.ret (rvs2 (rv_t rfl) (rv_t rfl)) (fun _ _ h => h) fun w hb hs hB hkd => ?_
    first
      | (exfalso; omega)
   ·have phs26 := hs26; try simp only [decide_eq_true_eq, decide_eq_false_iff_not, Bool.not_eq_true', Bool.not_eq_false', Bool.not_true, Bool.not_false] at phs26
    refine ol_g rfl rfl hs26 ?_
    refine ol_r (r_move rfl) rfl ?_
    refine ol_g rfl rfl hs26 ?_
    refine ol_r (r_lss rfl rfl) rfl ?_
    refine ol_r (r_pickF rfl hs26 rfl) rfl ?_
    refine ol_nil (to_k0 (fun _ _ h => h) (hK7 _ _ _ _ _ ?_))
    clear hK7
    refine wp_condD rfl (fun hc29 => ?_) (fun hc29 => ?_)
    ·exfalso
     omega
    ·refine wp_skip' (to_k0 (fun _ _ h => h) (hK6 _ _ _ _ _ ?_))
     clear hK6
     refine wp_seq' fun K9 hK9 => ?_
     refine wp_reg ?_
     refine ol_r (r_move rfl) rfl ?_
     refine ol_r (r_lss rfl rfl) rfl ?_
     refine ol_r (r_assign rfl) rfl ?_
     refine ol_nil (to_k0 (fun _ _ h => h) (hK9 _ _ _ _ _ ?_))
     clear hK9
     refine wp_seq' fun K10 hK10 => ?_
     refine wp_reg ?_
     refine ol_r (r_move rfl) rfl ?_
     refine ol_r (r_conv (k2 := .u64) rfl (by kernel_rfl) (by kernel_rfl) (wrap_u64 (by omega))) rfl ?_
     refine ol_r (r_assign rfl) rfl ?_
     refine ol_nil (to_k0 (fun _ _ h => h) (hK10 _ _ _ _ _ ?_))
     clear hK10
     refine wp_seq' fun K11 hK11 => ?_
     refine wp_seq' fun K12 hK12 => ?_
     refine wp_reg ?_
     refine ol_r (r_move rfl) rfl ?_
     refine ol_nil (to_k0 (fun _ _ h => h) (hK12 _ _ _ _ _ ?_))
     clear hK12
     refine wp_condD rfl (fun hc34 => ?_) (fun hc34 => ?_)
     ·exfalso
      omega
     ·refine wp_skip' (to_k0 (fun _ _ h => h) (hK11 _ _ _ _ _ ?_))
      clear hK11
      refine wp_seq' fun K13 hK13 => ?_
      refine wp_reg ?_
      refine ol_r (r_move rfl) rfl ?_
      refine ol_r (r_move rfl) rfl ?_
      refine ol_r (r_conv (k2 := .u64) rfl (by kernel_rfl) (by kernel_rfl) (wrap_u64 (by omega))) rfl ?_
      refine ol_call rfl rfl cb94 rfl (fun w1 hb1 hs1 hB1 => Calls.mono (bits_Mul64 a num _ ha hn (by omega)) ?_)
      rintro e w2 ⟨rfl, hb2⟩
      refine After.below rfl hb1 hs1 hB1 hb2 ?_
      clear hb2 hB1 hs1 hb1 w2 w1
      refine ol_r (r_move rfl) rfl ?_
      refine ol_r (r_extract rfl rfl) rfl ?_
      refine ol_r (r_extract rfl rfl) rfl ?_
      refine ol_r (r_assign rfl) rfl ?_
      refine ol_r (r_assign rfl) rfl ?_
      refine ol_nil (to_k0 (fun _ _ h => h) (hK13 _ _ _ _ _ ?_))
      clear hK13
      refine wp_seq' fun K14 hK14 => ?_
      refine wp_seq' fun K15 hK15 => ?_
      refine wp_reg ?_
      refine ol_r (r_move rfl) rfl ?_
      refine ol_r (r_move rfl) rfl ?_
      refine ol_r (r_conv (k2 := .u64) rfl (by kernel_rfl) (by kernel_rfl) (wrap_u64 (by omega))) rfl ?_
      refine ol_r (r_geq rfl rfl) rfl ?_
      refine ol_nil (to_k0 (fun _ _ h => h) (hK15 _ _ _ _ _ ?_))
      clear hK15
      refine wp_condD rfl (fun hc47 => ?_) (fun hc47 => ?_)
      ·exfalso
       omega
      ·refine wp_skip' (to_k0 (fun _ _ h => h) (hK14 _ _ _ _ _ ?_))
       clear hK14
       refine wp_seq' fun K16 hK16 => ?_
       refine wp_reg ?_
       refine ol_r (r_move rfl) rfl ?_
       refine ol_r (r_move rfl) rfl ?_
       refine ol_r (r_move rfl) rfl ?_
       refine ol_r (r_conv (k2 := .u64) rfl (by kernel_rfl) (by kernel_rfl) (wrap_u64 (by omega))) rfl ?_
       refine ol_call rfl rfl cb95 rfl (fun w1 hb1 hs1 hB1 => Calls.mono (bits_Div64 (a * num) den _ (by omega) (by omega)) ?_)
       rintro e w2 ⟨rfl, hb2⟩
       refine After.below rfl hb1 hs1 hB1 hb2 ?_
       clear hb2 hB1 hs1 hb1 w2 w1
       refine ol_r (r_move rfl) rfl ?_
       refine ol_r (r_extract rfl rfl) rfl ?_
       refine ol_r (r_extract rfl rfl) rfl ?_
       refine ol_r (r_assign rfl) rfl ?_
       refine ol_r (r_assign rfl) rfl ?_
       refine ol_nil (to_k0 (fun _ _ h => h) (hK16 _ _ _ _ _ ?_))
       clear hK16
       refine wp_seq' fun K17 hK17 => ?_
       refine wp_seq' fun K18 hK18 => ?_
       refine wp_regq (by kernel_rfl) (by kernel_rfl) ?_
       refine ql_r (r_move rfl) rfl ?_
       refine ql_r (r_gtr rfl rfl) rfl ?_
       refine ql_r (r_move rfl) rfl ?_
       refine ql_split (d := 58) rfl (fun hs58 => ?_) (fun hs58 => ?_)
       ·have phs58 := hs58; try simp only [decide_eq_true_eq, decide_eq_false_iff_not, Bool.not_eq_true', Bool.not_eq_false', Bool.not_true, Bool.not_false] at phs58
        refine ql_g rfl rfl hs58 ?_
        refine ql_r (r_move rfl) rfl ?_
        refine ql_g rfl rfl hs58 ?_
        refine ql_r (r_leq rfl rfl) rfl ?_
        refine ql_r (r_pickT rfl hs58 rfl) rfl ?_
        refine ql_r (r_move rfl) rfl ?_
        refine ql_split (d := 62) rfl (fun hs62 => ?_) (fun hs62 => ?_)
        ·have phs62 := hs62; try simp only [decide_eq_true_eq, decide_eq_false_iff_not, Bool.not_eq_true', Bool.not_eq_false', Bool.not_true, Bool.not_false] at phs62
         refine ql_g rfl rfl hs62 ?_
         refine ql_r (r_move rfl) rfl ?_
         refine ql_g rfl rfl hs62 ?_
         refine ql_r (r_move rfl) rfl ?_
         refine ql_g rfl rfl hs62 ?_
         refine ql_ixo (id := 18) encWay waysL rfl rfl rfl rfl sl163 (by omega) (by omega) rfl fun x65 hx65 => ?_
         try simp only [Int.toNat_natCast] at hx65
         try simp only [Int.toNat_natCast] at hx65
         refine ql_g rfl rfl hs62 ?_
         have h65 := Option.some.inj (hx65.symm.trans (show _ = some ((2, 124) : Int × FuncId) from rfl))
         subst h65
         refine ql_r (r_faO (id := 18) rfl rfl rfl hx65 fl168_1) rfl ?_
         refine ql_g rfl rfl hs62 ?_
         refine ql_r (r_ldw rfl (fun w1 hb1 hs1 hB1 => ld_ownF (id := 18) (o := 1) hs1 rfl rfl sc166 hx65 rfl)) rfl ?_
         refine ql_g rfl rfl hs62 ?_
         refine ql_r (r_move rfl) rfl ?_
         refine ql_g rfl rfl hs62 ?_
         refine ql_r (r_move rfl) rfl ?_
         refine ql_g rfl rfl hs62 ?_
         refine ql_r (r_move rfl) rfl ?_
         refine ql_g rfl rfl hs62 ?_
         refine ql_r (r_move rfl) rfl ?_
         refine ql_g rfl rfl hs62 ?_
         refine ql_r (r_conv (k2 := .u64) rfl (by kernel_rfl) (by kernel_rfl) (wrap_u64 (by omega))) rfl ?_
         refine ql_g rfl rfl hs62 ?_
         refine ql_r (r_move rfl) rfl ?_
         refine ql_g rfl rfl hs62 ?_
         refine ql_r (r_subg _ rfl rfl (wrap_u64 (by omega))) rfl ?_
         refine ql_g rfl rfl hs62 ?_
         refine ql_call rfl rfl cb96 rfl (fun w1 hb1 hs1 hB1 => cmp_Compareu _ _ _) ?_
         refine ql_g rfl rfl hs62 ?_
         refine ql_call rfl rfl cb124 rfl (fun w1 hb1 hs1 hB1 => way_up _ _ _ _) ?_
         refine ql_r (r_pickT rfl hs62 rfl) rfl ?_
         refine ql_nil (to_k0 (fun _ _ h => h) (hK18 _ _ _ _ _ ?_))
         clear hK18
         refine wp_condN rfl (fun hc77 => ?_) (fun hc77 => ?_)
         ·refine wp_reg ?_
          refine ol_r (r_move rfl) rfl ?_
          refine ol_r (r_addg _ rfl rfl (wrap_u64 (by omega))) rfl ?_
          refine ol_r (r_assign rfl) rfl ?_
          refine ol_nil (to_k0 (fun _ _ h => h) (hK17 _ _ _ _ _ ?_))
          clear hK17
          refine wp_seq' fun K19 hK19 => ?_
          refine wp_seq' fun K20 hK20 => ?_
          refine wp_reg ?_
          refine ol_r (r_move rfl) rfl ?_
          refine ol_r (r_gtr rfl rfl) rfl ?_
          refine ol_nil (to_k0 (fun _ _ h => h) (hK20 _ _ _ _ _ ?_))
          clear hK20
          refine wp_condD rfl (fun hc81 => ?_) (fun hc81 => ?_)
          ·exfalso
           omega
          ·refine wp_skip' (to_k0 (fun _ _ h => h) (hK19 _ _ _ _ _ ?_))
           clear hK19
           refine wp_seq' fun K21 hK21 => ?_
           refine wp_seq' fun K22 hK22 => ?_
           refine wp_reg ?_
           refine ol_r (r_move rfl) rfl ?_
           refine ol_nil (to_k0 (fun _ _ h => h) (hK22 _ _ _ _ _ ?_))
           clear hK22
           refine wp_condD rfl (fun hc82 => ?_) (fun hc82 => ?_)
           ·exfalso
            omega
           ·refine wp_skip' (to_k0 (fun _ _ h => h) (hK21 _ _ _ _ _ ?_))
            clear hK21
            refine wp_seq' fun K23 hK23 => ?_
            refine wp_reg ?_
            refine ol_r (r_move rfl) rfl ?_
            refine ol_r (r_conv (k2 := .i64) rfl (by kernel_rfl) (by kernel_rfl) (IntWalk.i64_in _ (by omega))) rfl ?_
            refine ol_r (r_assign rfl) rfl ?_
            refine ol_r (r_assign rfl) rfl ?_
            refine ol_nil (to_k0 (fun _ _ h => h) (hK23 _ _ _ _ _ ?_))
            clear hK23
            refine hQ.ret (rvs2 (rv_t rfl) (rv_t rfl)) (fun _ _ h => h) fun w hb hs hB hkd => ?_
            first
              | exact ⟨by rw [← hup, if_pos (by omega)], hb⟩
         ·refine wp_skip' (to_k0 (fun _ _ h => h) (hK17 _ _ _ _ _ ?_))
          clear hK17
          refine wp_seq' fun K24 hK24 => ?_
          refine wp_seq' fun K25 hK25 => ?_
          refine wp_reg ?_
          refine ol_r (r_move rfl) rfl ?_
          refine ol_r (r_gtr rfl rfl) rfl ?_
          refine ol_nil (to_k0 (fun _ _ h => h) (hK25 _ _ _ _ _ ?_))
          clear hK25
          refine wp_condD rfl (fun hc81 => ?_) (fun hc81 => ?_)
          ·exfalso
           omega
          ·refine wp_skip' (to_k0 (fun _ _ h => h) (hK24 _ _ _ _ _ ?_))
           clear hK24
           refine wp_seq' fun K26 hK26 => ?_
           refine wp_seq' fun K27 hK27 => ?_
           refine wp_reg ?_
           refine ol_r (r_move rfl) rfl ?_
           refine ol_nil (to_k0 (fun _ _ h => h) (hK27 _ _ _ _ _ ?_))
           clear hK27
           refine wp_condD rfl (fun hc82 => ?_) (fun hc82 => ?_)
           ·exfalso
            omega
           ·refine wp_skip' (to_k0 (fun _ _ h => h) (hK26 _ _ _ _ _ ?_))
            clear hK26
            refine wp_seq' fun K28 hK28 => ?_
            refine wp_reg ?_
            refine ol_r (r_move rfl) rfl ?_
            refine ol_r (r_conv (k2 := .i64) rfl (by kernel_rfl) (by kernel_rfl) (IntWalk.i64_in _ (by omega))) rfl ?_
            refine ol_r (r_assign rfl) rfl ?_
            refine ol_r (r_assign rfl) rfl ?_
            refine ol_nil (to_k0 (fun _ _ h => h) (hK28 _ _ _ _ _ ?_))
            clear hK28
            refine hQ.ret (rvs2 (rv_t rfl) (rv_t rfl)) (fun _ _ h => h) fun w hb hs hB hkd => ?_
            first
              | (exfalso; omega)
        ·have phs62 := hs62; try simp only [decide_eq_true_eq, decide_eq_false_iff_not, Bool.not_eq_true', Bool.not_eq_false', Bool.not_true, Bool.not_false] at phs62
         refine ql_s rfl rfl hs62 rfl ?_
         refine ql_s rfl rfl hs62 rfl ?_
         refine ql_s rfl rfl hs62 rfl ?_
         refine ql_s rfl rfl hs62 rfl ?_
         refine ql_s rfl rfl hs62 rfl ?_
         refine ql_s rfl rfl hs62 rfl ?_
         refine ql_s rfl rfl hs62 rfl ?_
         refine ql_s rfl rfl hs62 rfl ?_
         refine ql_s rfl rfl hs62 rfl ?_
         refine ql_s rfl rfl hs62 rfl ?_
         refine ql_s rfl rfl hs62 rfl ?_
         refine ql_s rfl rfl hs62 rfl ?_
         refine ql_s rfl rfl hs62 rfl ?_
         refine ql_s rfl rfl hs62 rfl ?_
         refine ql_r (r_pickF rfl hs62 rfl) rfl ?_
         refine ql_nil (to_k0 (fun _ _ h => h) (hK18 _ _ _ _ _ ?_))
         clear hK18
         refine wp_condF rfl ?_
         refine wp_skip' (to_k0 (fun _ _ h => h) (hK17 _ _ _ _ _ ?_))
         clear hK17
         refine wp_seq' fun K29 hK29 => ?_
         refine wp_seq' fun K30 hK30 => ?_
         refine wp_reg ?_
         refine ol_r (r_move rfl) rfl ?_
         refine ol_r (r_gtr rfl rfl) rfl ?_
         refine ol_nil (to_k0 (fun _ _ h => h) (hK30 _ _ _ _ _ ?_))
         clear hK30
         refine wp_condD rfl (fun hc81 => ?_) (fun hc81 => ?_)
         ·exfalso
          omega
         ·refine wp_skip' (to_k0 (fun _ _ h => h) (hK29 _ _ _ _ _ ?_))
          clear hK29
          refine wp_seq' fun K31 hK31 => ?_
          refine wp_seq' fun K32 hK32 => ?_
          refine wp_reg ?_
          refine ol_r (r_move rfl) rfl ?_
          refine ol_nil (to_k0 (fun _ _ h => h) (hK32 _ _ _ _ _ ?_))
          clear hK32
          refine wp_condD rfl (fun hc82 => ?_) (fun hc82 => ?_)
          ·exfalso
           omega
          ·refine wp_skip' (to_k0 (fun _ _ h => h) (hK31 _ _ _ _ _ ?_))
           clear hK31
           refine wp_seq' fun K33 hK33 => ?_
           refine wp_reg ?_
           refine ol_r (r_move rfl) rfl ?_
           refine ol_r (r_conv (k2 := .i64) rfl (by kernel_rfl) (by kernel_rfl) (IntWalk.i64_in _ (by omega))) rfl ?_
           refine ol_r (r_assign rfl) rfl ?_
           refine ol_r (r_assign rfl) rfl ?_
           refine ol_nil (to_k0 (fun _ _ h => h) (hK33 _ _ _ _ _ ?_))
           clear hK33
           refine hQ.ret (rvs2 (rv_t rfl) (rv_t rfl)) (fun _ _ h => h) fun w hb hs hB hkd => ?_
           first
             | (exfalso; omega)
       ·have phs58 := hs58; try simp only [decide_eq_true_eq, decide_eq_false_iff_not, Bool.not_eq_true', Bool.not_eq_false', Bool.not_true, Bool.not_false] at phs58
        refine ql_s rfl rfl hs58 rfl ?_
        refine ql_s rfl rfl hs58 rfl ?_
        refine ql_r (r_pickF rfl hs58 rfl) rfl ?_
        refine ql_r (r_move rfl) rfl ?_
        refine ql_s rfl rfl rfl rfl ?_
        refine ql_s rfl rfl rfl rfl ?_
        refine ql_s rfl rfl rfl rfl ?_
        refine ql_s rfl rfl rfl rfl ?_
        refine ql_s rfl rfl rfl rfl ?_
        refine ql_s rfl rfl rfl rfl ?_
        refine ql_s rfl rfl rfl rfl ?_
        refine ql_s rfl rfl rfl rfl ?_
        refine ql_s rfl rfl rfl rfl ?_
        refine ql_s rfl rfl rfl rfl ?_
        refine ql_s rfl rfl rfl rfl ?_
        refine ql_s rfl rfl rfl rfl ?_
        refine ql_s rfl rfl rfl rfl ?_
        refine ql_s rfl rfl rfl rfl ?_
        refine ql_r (r_pickF rfl rfl rfl) rfl ?_
        refine ql_nil (to_k0 (fun _ _ h => h) (hK18 _ _ _ _ _ ?_))
        clear hK18
        refine wp_condF rfl ?_
        refine wp_skip' (to_k0 (fun _ _ h => h) (hK17 _ _ _ _ _ ?_))
        clear hK17
        refine wp_seq' fun K34 hK34 => ?_
        refine wp_seq' fun K35 hK35 => ?_
        refine wp_reg ?_
        refine ol_r (r_move rfl) rfl ?_
        refine ol_r (r_gtr rfl rfl) rfl ?_
        refine ol_nil (to_k0 (fun _ _ h => h) (hK35 _ _ _ _ _ ?_))
        clear hK35
        refine wp_condD rfl (fun hc81 => ?_) (fun hc81 => ?_)
        ·exfalso
         omega
        ·refine wp_skip' (to_k0 (fun _ _ h => h) (hK34 _ _ _ _ _ ?_))
         clear hK34
         refine wp_seq' fun K36 hK36 => ?_
         refine wp_seq' fun K37 hK37 => ?_
         refine wp_reg ?_
         refine ol_r (r_move rfl) rfl ?_
         refine ol_nil (to_k0 (fun _ _ h => h) (hK37 _ _ _ _ _ ?_))
         clear hK37
         refine wp_condD rfl (fun hc82 => ?_) (fun hc82 => ?_)
         ·exfalso
          omega
         ·refine wp_skip' (to_k0 (fun _ _ h => h) (hK36 _ _ _ _ _ ?_))
          clear hK36
          refine wp_seq' fun K38 hK38 => ?_
          refine wp_reg ?_
          refine ol_r (r_move rfl) rfl ?_
          refine ol_r (r_conv (k2 := .i64) rfl (by kernel_rfl) (by kernel_rfl) (IntWalk.i64_in _ (by omega))) rfl ?_
          refine ol_r (r_assign rfl) rfl ?_
          refine ol_r (r_assign rfl) rfl ?_
          refine ol_nil (to_k0 (fun _ _ h => h) (hK38 _ _ _ _ _ ?_))
          clear hK38
          refine hQ.ret (rvs2 (rv_t rfl) (rv_t rfl)) (fun _ _ h => h) fun w hb hs hB hkd => ?_
          first
            | exact ⟨by rw [← hup, if_neg (by omega), Int.add_zero], hb⟩
end Go.Proofs.Ytfbmkepogcimlaa

/-
  Products and quotients of two words: Mul64, Len64, Div64; Scale, rounded down, of program and reference.
-/





namespace Go.Proofs.Ytfbmkepogcimlaa
open Go Go.RowKit Hx
set_option linter.unusedVariables false
set_option linter.unusedSimpArgs false
set_option maxRecDepth 8000
def tabOk (s : ByteArray) : Bool := (List.range 256).all fun i => decide (i < s.size) && decide (Hx.byteAt s i = (Lib.bitLen i : Int))
theorem r_len8 {P : Program} {N : Fr} {B : Nat} {w0 : World} {al : AL} {H : HL} {ty : TypeId} {x i : Operand} {t : TypeId} {kd : IntKind} {s : ByteArray} {n : Nat} (hx : ev al x = some (.string s)) (hi : ev al i = some (.int kd (n : Int))) (hT : Str P t) (hs : tabOk s = true) (hn : n < 256) :
    Runs P N B w0 (.index t x i) ty al H (.int .u8 ((Lib.bitLen n : Nat) : Int)) := by
  have h := List.all_eq_true.1 hs n (List.mem_range.2 hn)
  rw [Bool.and_eq_true, decide_eq_true_eq, decide_eq_true_eq] at h
  have h2 := r_sidx (P := P) (N := N) (B := B) (w0 := w0) (H := H) (ty := ty) hx hi hT (by omega)
  rw [Int.toNat_natCast, h.2] at h2
  exact h2
theorem bitLen_fin : ∀ n : Fin 256, Lib.bitLen n.val ≤ 8 ∧ n.val < 2 ^ Lib.bitLen n.val ∧ (0 < n.val → 0 < Lib.bitLen n.val ∧ 2 ^ (Lib.bitLen n.val - 1) ≤ n.val) := by decide +kernel
theorem wrap_len {n : Nat} (h : n < 256) : IntKind.i64.wrap ((Lib.bitLen n : Nat) : Int) = ((Lib.bitLen n : Nat) : Int) := by
  have := (bitLen_fin ⟨n, h⟩).1
  dsimp only at this
  exact IntWalk.i64_in _ (by omega)
theorem r_addL {P : Program} {N : Fr} {B : Nat} {w0 : World} {al : AL} {H : HL} {ty : TypeId} {x y : Operand} {t t' : TypeId} {m : Int} {n : Nat} (hx : ev al x = some (.int .i64 m)) (hy : ev al y = some (.int .i64 ((Lib.bitLen n : Nat) : Int))) (h : n < 256) (hm : 0 ≤ m ∧ m ≤ 1000) :
    Runs P N B w0 (.binOp .add t x y t') ty al H (.int .i64 (m + ((Lib.bitLen n : Nat) : Int))) := by
  have := (bitLen_fin ⟨n, h⟩).1
  dsimp only at this
  exact r_add hx hy (by omega)
theorem len_ret {x m k : Nat} (hm : m = x / 2 ^ k) (h : m < 256) (hp : 0 < m ∨ k = 0) (hk : k ≤ 56) : k + Lib.bitLen m ≤ 64 ∧ x < 2 ^ (k + Lib.bitLen m) ∧ (0 < x → 0 < k + Lib.bitLen m ∧ 2 ^ (k + Lib.bitLen m - 1) ≤ x) := by
  obtain ⟨h1, h2, h3⟩ := bitLen_fin ⟨m, h⟩
  dsimp only at h1 h2 h3
  have hk2 : 0 < 2 ^ k := Nat.pow_pos (by omega)
  refine ⟨by omega, ?_, fun hx => ?_⟩
  · have h4 := (Nat.div_lt_iff_lt_mul hk2).1 (show x / 2 ^ k < 2 ^ Lib.bitLen m by omega)
    rw [Nat.pow_add, Nat.mul_comm]; exact h4
  · have hm0 : 0 < m := by
      rcases hp with h | h
      · exact h
      · subst h; simp at hm; omega
    obtain ⟨h5, h6⟩ := h3 hm0
    refine ⟨by omega, ?_⟩
    have h7 := (Nat.le_div_iff_mul_le hk2).1 (show 2 ^ (Lib.bitLen m - 1) ≤ x / 2 ^ k by omega)
    rw [show k + Lib.bitLen m - 1 = k + (Lib.bitLen m - 1) by omega, Nat.pow_add, Nat.mul_comm]; exact h7
theorem bits_Len64 (x : Nat) (w : World) (hx : x < 18446744073709551616) :
    Calls Try.prog 119 #[.int .u64 (x : Int)] w fun e w' => ∃ n : Nat, e = .returned (.int .i64 (n : Int)) ∧ Below w.heap.size w w' ∧ n ≤ 64 ∧ x < 2 ^ n ∧ (0 < x → 0 < n ∧ 2 ^ (n - 1) ≤ x) := by
  refine enterQ (N := 25) (C := fun _ => True) (H := []) (B := w.heap.size) (args := [_]) Try.func119 rfl rfl rfl (Nat.le_refl _) (Sat.nil _ _) fun Q hQ => ?_
  refine wp_seq' fun K1 hK1 => ?_
  refine wp_reg ?_
  refine ol_r (r_assign rfl) rfl ?_
  refine ol_nil (to_k0 (fun _ _ h => h) (hK1 _ _ _ _ _ ?_))
  clear hK1
  refine wp_seq' fun K2 hK2 => ?_
  refine wp_seq' fun K3 hK3 => ?_
  refine wp_reg ?_
  refine ol_r (r_move rfl) rfl ?_
  refine ol_r (r_geq rfl rfl) rfl ?_
  refine ol_nil (to_k0 (fun _ _ h => h) (hK3 _ _ _ _ _ ?_))
  clear hK3
  refine wp_condD rfl (fun hc4 => ?_) (fun hc4 => ?_)
  ·refine wp_seq' fun K4 hK4 => ?_
   refine wp_reg ?_
   refine ol_r (r_move rfl) rfl ?_
   refine ol_r (r_shr32N rfl rfl) rfl ?_
   refine ol_r (r_assign rfl) rfl ?_
   refine ol_nil (to_k0 (fun _ _ h => h) (hK4 _ _ _ _ _ ?_))
   clear hK4
   refine wp_reg ?_
   refine ol_r (r_assign rfl) rfl ?_
   refine ol_nil (to_k0 (fun _ _ h => h) (hK2 _ _ _ _ _ ?_))
   clear hK2
   refine wp_seq' fun K5 hK5 => ?_
   refine wp_seq' fun K6 hK6 => ?_
   refine wp_reg ?_
   refine ol_r (r_move rfl) rfl ?_
   refine ol_r (r_geq rfl rfl) rfl ?_
   refine ol_nil (to_k0 (fun _ _ h => h) (hK6 _ _ _ _ _ ?_))
   clear hK6
   refine wp_condD rfl (fun hc8 => ?_) (fun hc8 => ?_)
   ·refine wp_seq' fun K7 hK7 => ?_
    refine wp_reg ?_
    refine ol_r (r_move rfl) rfl ?_
    refine ol_r (r_shrN 16 rfl rfl rfl (by omega)) rfl ?_
    refine ol_r (r_assign rfl) rfl ?_
    refine ol_nil (to_k0 (fun _ _ h => h) (hK7 _ _ _ _ _ ?_))
    clear hK7
    refine wp_reg ?_
    refine ol_r (r_move rfl) rfl ?_
    refine ol_r (r_add rfl rfl (by omega)) rfl ?_
    refine ol_r (r_assign rfl) rfl ?_
    refine ol_nil (to_k0 (fun _ _ h => h) (hK5 _ _ _ _ _ ?_))
    clear hK5
    refine wp_seq' fun K8 hK8 => ?_
    refine wp_seq' fun K9 hK9 => ?_
    refine wp_reg ?_
    refine ol_r (r_move rfl) rfl ?_
    refine ol_r (r_geq rfl rfl) rfl ?_
    refine ol_nil (to_k0 (fun _ _ h => h) (hK9 _ _ _ _ _ ?_))
    clear hK9
    refine wp_condD rfl (fun hc14 => ?_) (fun hc14 => ?_)
    ·refine wp_seq' fun K10 hK10 => ?_
     refine wp_reg ?_
     refine ol_r (r_move rfl) rfl ?_
     refine ol_r (r_shrN 8 rfl rfl rfl (by omega)) rfl ?_
     refine ol_r (r_assign rfl) rfl ?_
     refine ol_nil (to_k0 (fun _ _ h => h) (hK10 _ _ _ _ _ ?_))
     clear hK10
     refine wp_reg ?_
     refine ol_r (r_move rfl) rfl ?_
     refine ol_r (r_add rfl rfl (by omega)) rfl ?_
     refine ol_r (r_assign rfl) rfl ?_
     refine ol_nil (to_k0 (fun _ _ h => h) (hK8 _ _ _ _ _ ?_))
     clear hK8
     refine wp_seq' fun K11 hK11 => ?_
     refine wp_reg ?_
     refine ol_r (r_move rfl) rfl ?_
     refine ol_r (r_move rfl) rfl ?_
     refine ol_r (r_convN (k2 := .u8) rfl (by kernel_rfl) (by kernel_rfl) (by simp [IntKind.wrap, IntKind.bits, IntKind.signed]; omega)) rfl ?_
     refine ol_r (r_len8 rfl rfl st9 (by kernel_rfl) (by omega)) rfl ?_
     refine ol_r (r_convN (k2 := .i64) rfl (by kernel_rfl) (by kernel_rfl) (wrap_len (by omega))) rfl ?_
     refine ol_r (r_addL rfl rfl (by omega) (by omega)) rfl ?_
     refine ol_r (r_assign rfl) rfl ?_
     refine ol_nil (to_k0 (fun _ _ h => h) (hK11 _ _ _ _ _ ?_))
     clear hK11
     refine hQ.ret (rvs1 (rv_t rfl)) (fun _ _ h => h) fun w hb hs hB hkd => ?_
     first
       | (have h := len_ret (x := x) (m := x / 4294967296 / 2 ^ 16 / 2 ^ 8) (k := 56) (by omega) (by omega) (by omega) (by omega); exact ⟨_, by simp, hb, h⟩)
    ·refine wp_skip' (to_k0 (fun _ _ h => h) (hK8 _ _ _ _ _ ?_))
     clear hK8
     refine wp_seq' fun K12 hK12 => ?_
     refine wp_reg ?_
     refine ol_r (r_move rfl) rfl ?_
     refine ol_r (r_move rfl) rfl ?_
     refine ol_r (r_convN (k2 := .u8) rfl (by kernel_rfl) (by kernel_rfl) (by simp [IntKind.wrap, IntKind.bits, IntKind.signed]; omega)) rfl ?_
     refine ol_r (r_len8 rfl rfl st9 (by kernel_rfl) (by omega)) rfl ?_
     refine ol_r (r_convN (k2 := .i64) rfl (by kernel_rfl) (by kernel_rfl) (wrap_len (by omega))) rfl ?_
     refine ol_r (r_addL rfl rfl (by omega) (by omega)) rfl ?_
     refine ol_r (r_assign rfl) rfl ?_
     refine ol_nil (to_k0 (fun _ _ h => h) (hK12 _ _ _ _ _ ?_))
     clear hK12
     refine hQ.ret (rvs1 (rv_t rfl)) (fun _ _ h => h) fun w hb hs hB hkd => ?_
     first
       | (have h := len_ret (x := x) (m := x / 4294967296 / 2 ^ 16) (k := 48) (by omega) (by omega) (by omega) (by omega); exact ⟨_, by simp, hb, h⟩)
   ·refine wp_skip' (to_k0 (fun _ _ h => h) (hK5 _ _ _ _ _ ?_))
    clear hK5
    refine wp_seq' fun K13 hK13 => ?_
    refine wp_seq' fun K14 hK14 => ?_
    refine wp_reg ?_
    refine ol_r (r_move rfl) rfl ?_
    refine ol_r (r_geq rfl rfl) rfl ?_
    refine ol_nil (to_k0 (fun _ _ h => h) (hK14 _ _ _ _ _ ?_))
    clear hK14
    refine wp_condD rfl (fun hc14 => ?_) (fun hc14 => ?_)
    ·refine wp_seq' fun K15 hK15 => ?_
     refine wp_reg ?_
     refine ol_r (r_move rfl) rfl ?_
     refine ol_r (r_shrN 8 rfl rfl rfl (by omega)) rfl ?_
     refine ol_r (r_assign rfl) rfl ?_
     refine ol_nil (to_k0 (fun _ _ h => h) (hK15 _ _ _ _ _ ?_))
     clear hK15
     refine wp_reg ?_
     refine ol_r (r_move rfl) rfl ?_
     refine ol_r (r_add rfl rfl (by omega)) rfl ?_
     refine ol_r (r_assign rfl) rfl ?_
     refine ol_nil (to_k0 (fun _ _ h => h) (hK13 _ _ _ _ _ ?_))
     clear hK13
     refine wp_seq' fun K16 hK16 => ?_
     refine wp_reg ?_
     refine ol_r (r_move rfl) rfl ?_
     refine ol_r (r_move rfl) rfl ?_
     refine ol_r (r_convN (k2 := .u8) rfl (by kernel_rfl) (by kernel_rfl) (by simp [IntKind.wrap, IntKind.bits, IntKind.signed]; omega)) rfl ?_
     refine ol_r (r_len8 rfl rfl st9 (by kernel_rfl) (by omega)) rfl ?_
     refine ol_r (r_convN (k2 := .i64) rfl (by kernel_rfl) (by kernel_rfl) (wrap_len (by omega))) rfl ?_
     refine ol_r (r_addL rfl rfl (by omega) (by omega)) rfl ?_
     refine ol_r (r_assign rfl) rfl ?_
     refine ol_nil (to_k0 (fun _ _ h => h) (hK16 _ _ _ _ _ ?_))
     clear hK16
     refine hQ.ret (rvs1 (rv_t rfl)) (fun _ _ h => h) fun w hb hs hB hkd => ?_
     first
       | (have h := len_ret (x := x) (m := x / 4294967296 / 2 ^ 8) (k := 40) (by omega) (by omega) (by omega) (by omega); exact ⟨_, by simp, hb, h⟩)
    ·refine wp_skip' (to_k0 (fun _ _ h => h) (hK13 _ _ _ _ _ ?_))
     clear hK13
     refine wp_seq' fun K17 hK17 => ?_
     refine wp_reg ?_
     refine ol_r (r_move rfl) rfl ?_
     refine ol_r (r_move rfl) rfl ?_
     refine ol_r (r_convN (k2 := .u8) rfl (by kernel_rfl) (by kernel_rfl) (by simp [IntKind.wrap, IntKind.bits, IntKind.signed]; omega)) rfl ?_
     refine ol_r (r_len8 rfl rfl st9 (by kernel_rfl) (by omega)) rfl ?_
     refine ol_r (r_convN (k2 := .i64) rfl (by kernel_rfl) (by kernel_rfl) (wrap_len (by omega))) rfl ?_
     refine ol_r (r_addL rfl rfl (by omega) (by omega)) rfl ?_
     refine ol_r (r_assign rfl) rfl ?_
     refine ol_nil (to_k0 (fun _ _ h => h) (hK17 _ _ _ _ _ ?_))
     clear hK17
     refine hQ.ret (rvs1 (rv_t rfl)) (fun _ _ h => h) fun w hb hs hB hkd => ?_
     first
       | (have h := len_ret (x := x) (m := x / 4294967296) (k := 32) (by omega) (by omega) (by omega) (by omega); exact ⟨_, by simp, hb, h⟩)
  ·refine wp_skip' (to_k0 (fun _ _ h => h) (hK2 _ _ _ _ _ ?_))
   clear hK2
   refine wp_seq' fun K18 hK18 => ?_
   refine wp_seq' fun K19 hK19 => ?_
   refine wp_reg ?_
   refine ol_r (r_move rfl) rfl ?_
   refine ol_r (r_geq rfl rfl) rfl ?_
   refine ol_nil (to_k0 (fun _ _ h => h) (hK19 _ _ _ _ _ ?_))
   clear hK19
   refine wp_condD rfl (fun hc8 => ?_) (fun hc8 => ?_)
   ·refine wp_seq' fun K20 hK20 => ?_
    refine wp_reg ?_
    refine ol_r (r_move rfl) rfl ?_
    refine ol_r (r_shrN 16 rfl rfl rfl (by omega)) rfl ?_
    refine ol_r (r_assign rfl) rfl ?_
    refine ol_nil (to_k0 (fun _ _ h => h) (hK20 _ _ _ _ _ ?_))
    clear hK20
    refine wp_reg ?_
    refine ol_r (r_move rfl) rfl ?_
    refine ol_r (r_add rfl rfl (by omega)) rfl ?_
    refine ol_r (r_assign rfl) rfl ?_
    refine ol_nil (to_k0 (fun _ _ h => h) (hK18 _ _ _ _ _ ?_))
    clear hK18
    refine wp_seq' fun K21 hK21 => ?_
    refine wp_seq' fun K22 hK22 => ?_
    refine wp_reg ?_
    refine ol_r (r_move rfl) rfl ?_
    refine ol_r (r_geq rfl rfl) rfl ?_
    refine ol_nil (to_k0 (fun _ _ h => h) (hK22 _ _ _ _ _ ?_))
    clear hK22
    refine wp_condD rfl (fun hc14 => ?_) (fun hc14 => ?_)
    ·refine wp_seq' fun K23 hK23 => ?_
     refine wp_reg ?_
     refine ol_r (r_move rfl) rfl ?_
     refine ol_r (r_shrN 8 rfl rfl rfl (by omega)) rfl ?_
     refine ol_r (r_assign rfl) rfl ?_
     refine ol_nil (to_k0 (fun _ _ h => h) (hK23 _ _ _ _ _ ?_))
     clear hK23
     refine wp_reg ?_
     refine ol_r (r_move rfl) rfl ?_
     refine ol_r (r_add rfl rfl (by omega)) rfl ?_
     refine ol_r (r_assign rfl) rfl ?_
     refine ol_nil (to_k0 (fun _ _ h => h) (hK21 _ _ _ _ _ ?_))
     clear hK21
     refine wp_seq' fun K24 hK24 => ?_
     refine wp_reg ?_
     refine ol_r (r_move rfl) rfl ?_
     refine ol_r (r_move rfl) rfl ?_
     refine ol_r (r_convN (k2 := .u8) rfl (by kernel_rfl) (by kernel_rfl) (by simp [IntKind.wrap, IntKind.bits, IntKind.signed]; omega)) rfl ?_
     refine ol_r (r_len8 rfl rfl st9 (by kernel_rfl) (by omega)) rfl ?_
     refine ol_r (r_convN (k2 := .i64) rfl (by kernel_rfl) (by kernel_rfl) (wrap_len (by omega))) rfl ?_
     refine ol_r (r_addL rfl rfl (by omega) (by omega)) rfl ?_
     refine ol_r (r_assign rfl) rfl ?_
     refine ol_nil (to_k0 (fun _ _ h => h) (hK24 _ _ _ _ _ ?_))
     clear hK24
     refine hQ.ret (rvs1 (rv_t rfl)) (fun _ _ h => h) fun w hb hs hB hkd => ?_
     first
       | (have h := len_ret (x := x) (m := x / 2 ^ 16 / 2 ^ 8) (k := 24) (by omega) (by omega) (by omega) (by omega); exact ⟨_, by simp, hb, h⟩)
    ·refine wp_skip' (to_k0 (fun _ _ h => h) (hK21 _ _ _ _ _ ?_))
     clear hK21
     refine wp_seq' fun K25 hK25 => ?_
     refine wp_reg ?_
     refine ol_r (r_move rfl) rfl ?_
     refine ol_r (r_move rfl) rfl ?_
     refine ol_r (r_convN (k2 := .u8) rfl (by kernel_rfl) (by kernel_rfl) (by simp [IntKind.wrap, IntKind.bits, IntKind.signed]; omega)) rfl ?_
     refine ol_r (r_len8 rfl rfl st9 (by kernel_rfl) (by omega)) rfl ?_
     refine ol_r (r_convN (k2 := .i64) rfl (by kernel_rfl) (by kernel_rfl) (wrap_len (by omega))) rfl ?_
     refine ol_r (r_addL rfl rfl (by omega) (by omega)) rfl ?_
     refine ol_r (r_assign rfl) rfl ?_
     refine ol_nil (to_k0 (fun _ _ h => h) (hK25 _ _ _ _ _ ?_))
     clear hK25
     refine hQ.ret (rvs1 (rv_t rfl)) (fun _ _ h => h) fun w hb hs hB hkd => ?_
     first
       | (have h := len_ret (x := x) (m := x / 2 ^ 16) (k := 16) (by omega) (by omega) (by omega) (by omega); exact ⟨_, by simp, hb, h⟩)
   ·refine wp_skip' (to_k0 (fun _ _ h => h) (hK18 _ _ _ _ _ ?_))
    clear hK18
    refine wp_seq' fun K26 hK26 => ?_
    refine wp_seq' fun K27 hK27 => ?_
    refine wp_reg ?_
    refine ol_r (r_move rfl) rfl ?_
    refine ol_r (r_geq rfl rfl) rfl ?_
    refine ol_nil (to_k0 (fun _ _ h => h) (hK27 _ _ _ _ _ ?_))
    clear hK27
    refine wp_condD rfl (fun hc14 => ?_) (fun hc14 => ?_)
    ·refine wp_seq' fun K28 hK28 => ?_
     refine wp_reg ?_
     refine ol_r (r_move rfl) rfl ?_
     refine ol_r (r_shrN 8 rfl rfl rfl (by omega)) rfl ?_
     refine ol_r (r_assign rfl) rfl ?_
     refine ol_nil (to_k0 (fun _ _ h => h) (hK28 _ _ _ _ _ ?_))
     clear hK28
     refine wp_reg ?_
     refine ol_r (r_move rfl) rfl ?_
     refine ol_r (r_add rfl rfl (by omega)) rfl ?_
     refine ol_r (r_assign rfl) rfl ?_
     refine ol_nil (to_k0 (fun _ _ h => h) (hK26 _ _ _ _ _ ?_))
     clear hK26
     refine wp_seq' fun K29 hK29 => ?_
     refine wp_reg ?_
     refine ol_r (r_move rfl) rfl ?_
     refine ol_r (r_move rfl) rfl ?_
     refine ol_r (r_convN (k2 := .u8) rfl (by kernel_rfl) (by kernel_rfl) (by simp [IntKind.wrap, IntKind.bits, IntKind.signed]; omega)) rfl ?_
     refine ol_r (r_len8 rfl rfl st9 (by kernel_rfl) (by omega)) rfl ?_
     refine ol_r (r_convN (k2 := .i64) rfl (by kernel_rfl) (by kernel_rfl) (wrap_len (by omega))) rfl ?_
     refine ol_r (r_addL rfl rfl (by omega) (by omega)) rfl ?_
     refine ol_r (r_assign rfl) rfl ?_
     refine ol_nil (to_k0 (fun _ _ h => h) (hK29 _ _ _ _ _ ?_))
     clear hK29
     refine hQ.ret (rvs1 (rv_t rfl)) (fun _ _ h => h) fun w hb hs hB hkd => ?_
     first
       | (have h := len_ret (x := x) (m := x / 2 ^ 8) (k := 8) (by omega) (by omega) (by omega) (by omega); exact ⟨_, by simp, hb, h⟩)
    ·refine wp_skip' (to_k0 (fun _ _ h => h) (hK26 _ _ _ _ _ ?_))
     clear hK26
     refine wp_seq' fun K30 hK30 => ?_
     refine wp_reg ?_
     refine ol_r (r_move rfl) rfl ?_
     refine ol_r (r_move rfl) rfl ?_
     refine ol_r (r_convN (k2 := .u8) rfl (by kernel_rfl) (by kernel_rfl) (by simp [IntKind.wrap, IntKind.bits, IntKind.signed]; omega)) rfl ?_
     refine ol_r (r_len8 rfl rfl st9 (by kernel_rfl) (by omega)) rfl ?_
     refine ol_r (r_convN (k2 := .i64) rfl (by kernel_rfl) (by kernel_rfl) (wrap_len (by omega))) rfl ?_
     refine ol_r (r_addL rfl rfl (by omega) (by omega)) rfl ?_
     refine ol_r (r_assign rfl) rfl ?_
     refine ol_nil (to_k0 (fun _ _ h => h) (hK30 _ _ _ _ _ ?_))
     clear hK30
     refine hQ.ret (rvs1 (rv_t rfl)) (fun _ _ h => h) fun w hb hs hB hkd => ?_
     first
       | (have h := len_ret (x := x) (m := x) (k := 0) (by omega) (by omega) (by omega) (by omega); exact ⟨_, by simp, hb, h⟩)
theorem bits_Lz64 (x : Nat) (w : World) (hx : x < 18446744073709551616) (h0 : 0 < x) :
    Calls Try.prog 128 #[.int .u64 (x : Int)] w fun e w' => ∃ s : Nat, e = .returned (.int .i64 (s : Int)) ∧ Below w.heap.size w w' ∧ s ≤ 63 ∧ 9223372036854775808 ≤ x * 2 ^ s ∧ x * 2 ^ s < 18446744073709551616 := by
  refine enterQ (N := 6) (C := fun _ => True) (H := []) (B := w.heap.size) (args := [_]) Try.func128 rfl rfl rfl (Nat.le_refl _) (Sat.nil _ _) fun Q hQ => ?_
  refine wp_seq' fun K1 hK1 => ?_
  refine wp_reg ?_
  refine ol_r (r_assign rfl) rfl ?_
  refine ol_nil (to_k0 (fun _ _ h => h) (hK1 _ _ _ _ _ ?_))
  clear hK1
  refine wp_seq' fun K2 hK2 => ?_
  refine wp_reg ?_
  refine ol_r (r_move rfl) rfl ?_
  refine ol_call rfl rfl cb119 rfl (fun w1 hb1 hs1 hB1 => ?_)
  refine Calls.mono (bits_Len64 x _ hx) ?_
  rintro e w2 ⟨n, rfl, hb2, hn, hn2, hn3⟩
  refine After.below rfl hb1 hs1 hB1 hb2 ?_
  clear hb2 hB1 hs1 hb1 w2 w1
  refine ol_r (r_sub rfl rfl (by omega)) rfl ?_
  refine ol_r (r_assign rfl) rfl ?_
  refine ol_nil (to_k0 (fun _ _ h => h) (hK2 _ _ _ _ _ ?_))
  clear hK2
  refine hQ.ret (rvs1 (rv_t rfl)) (fun _ _ h => h) fun w hb hs hB hkd => ?_
  obtain ⟨h1, h2⟩ := hn3 h0
  refine ⟨64 - n, by rw [Int.ofNat_sub hn]; rfl, hb, by omega, ?_, ?_⟩
  · have h3 := Nat.mul_le_mul_right (2 ^ (64 - n)) h2
    rw [← Nat.pow_add, show n - 1 + (64 - n) = 63 by omega] at h3
    exact h3
  · have h3 := (Nat.mul_lt_mul_right (Nat.pow_pos (n := 64 - n) (show 0 < 2 by omega))).2 hn2
    rw [← Nat.pow_add, show n + (64 - n) = 64 by omega] at h3
    exact h3
theorem bits_Mul64N (x y : Nat) (w : World) (hx : x < 18446744073709551616) (hy : y < 18446744073709551616) :
    Calls Try.prog 94 #[.int .u64 (x : Int), .int .u64 (y : Int)] w fun e w' => e = .returned (.tuple #[.int .u64 ((x * y / 18446744073709551616 : Nat) : Int), .int .u64 ((x * y % 18446744073709551616 : Nat) : Int)]) ∧ Below w.heap.size w w' := by
  obtain ⟨m1, m2, m3, m4⟩ := Lib.mul64_hi x y hx hy
  have m5 : x * y / 18446744073709551616 < 18446744073709551616 := by
    have h1 : x * y ≤ 18446744073709551615 * 18446744073709551615 := Nat.mul_le_mul (by omega) (by omega)
    omega
  refine enterQ (N := 51) (C := fun _ => True) (H := []) (B := w.heap.size) (args := [_, _]) Try.func94 rfl rfl rfl (Nat.le_refl _) (Sat.nil _ _) fun Q hQ => ?_
  refine wp_seq' fun K1 hK1 => ?_
  refine wp_reg ?_
  refine ol_r (r_assign rfl) rfl ?_
  refine ol_r (r_assign rfl) rfl ?_
  refine ol_nil (to_k0 (fun _ _ h => h) (hK1 _ _ _ _ _ ?_))
  clear hK1
  refine wp_seq' fun K2 hK2 => ?_
  refine wp_reg ?_
  refine ol_r (r_move rfl) rfl ?_
  refine ol_r (r_and32N rfl rfl (by omega)) rfl ?_
  refine ol_r (r_assign rfl) rfl ?_
  refine ol_nil (to_k0 (fun _ _ h => h) (hK2 _ _ _ _ _ ?_))
  clear hK2
  refine wp_seq' fun K3 hK3 => ?_
  refine wp_reg ?_
  refine ol_r (r_move rfl) rfl ?_
  refine ol_r (r_shr32N rfl rfl) rfl ?_
  refine ol_r (r_assign rfl) rfl ?_
  refine ol_nil (to_k0 (fun _ _ h => h) (hK3 _ _ _ _ _ ?_))
  clear hK3
  refine wp_seq' fun K4 hK4 => ?_
  refine wp_reg ?_
  refine ol_r (r_move rfl) rfl ?_
  refine ol_r (r_and32N rfl rfl (by omega)) rfl ?_
  refine ol_r (r_assign rfl) rfl ?_
  refine ol_nil (to_k0 (fun _ _ h => h) (hK4 _ _ _ _ _ ?_))
  clear hK4
  refine wp_seq' fun K5 hK5 => ?_
  refine wp_reg ?_
  refine ol_r (r_move rfl) rfl ?_
  refine ol_r (r_shr32N rfl rfl) rfl ?_
  refine ol_r (r_assign rfl) rfl ?_
  refine ol_nil (to_k0 (fun _ _ h => h) (hK5 _ _ _ _ _ ?_))
  clear hK5
  refine wp_seq' fun K6 hK6 => ?_
  refine wp_reg ?_
  refine ol_r (r_move rfl) rfl ?_
  refine ol_r (r_move rfl) rfl ?_
  refine ol_r (r_mulN rfl rfl m1) rfl ?_
  refine ol_r (r_assign rfl) rfl ?_
  refine ol_nil (to_k0 (fun _ _ h => h) (hK6 _ _ _ _ _ ?_))
  clear hK6
  refine wp_seq' fun K7 hK7 => ?_
  refine wp_reg ?_
  refine ol_r (r_move rfl) rfl ?_
  refine ol_r (r_move rfl) rfl ?_
  refine ol_r (r_mulN rfl rfl (by omega)) rfl ?_
  refine ol_r (r_move rfl) rfl ?_
  refine ol_r (r_shr32N rfl rfl) rfl ?_
  refine ol_r (r_addN rfl rfl m2) rfl ?_
  refine ol_r (r_assign rfl) rfl ?_
  refine ol_nil (to_k0 (fun _ _ h => h) (hK7 _ _ _ _ _ ?_))
  clear hK7
  refine wp_seq' fun K8 hK8 => ?_
  refine wp_reg ?_
  refine ol_r (r_move rfl) rfl ?_
  refine ol_r (r_and32N rfl rfl m2) rfl ?_
  refine ol_r (r_assign rfl) rfl ?_
  refine ol_nil (to_k0 (fun _ _ h => h) (hK8 _ _ _ _ _ ?_))
  clear hK8
  refine wp_seq' fun K9 hK9 => ?_
  refine wp_reg ?_
  refine ol_r (r_move rfl) rfl ?_
  refine ol_r (r_shr32N rfl rfl) rfl ?_
  refine ol_r (r_assign rfl) rfl ?_
  refine ol_nil (to_k0 (fun _ _ h => h) (hK9 _ _ _ _ _ ?_))
  clear hK9
  refine wp_seq' fun K10 hK10 => ?_
  refine wp_reg ?_
  refine ol_r (r_move rfl) rfl ?_
  refine ol_r (r_move rfl) rfl ?_
  refine ol_r (r_move rfl) rfl ?_
  refine ol_r (r_mulN rfl rfl (by omega)) rfl ?_
  refine ol_r (r_addN rfl rfl m3) rfl ?_
  refine ol_r (r_assign rfl) rfl ?_
  refine ol_nil (to_k0 (fun _ _ h => h) (hK10 _ _ _ _ _ ?_))
  clear hK10
  refine wp_seq' fun K11 hK11 => ?_
  refine wp_reg ?_
  refine ol_r (r_move rfl) rfl ?_
  refine ol_r (r_move rfl) rfl ?_
  refine ol_r (r_mulN rfl rfl (by omega)) rfl ?_
  refine ol_r (r_move rfl) rfl ?_
  refine ol_r (r_addN rfl rfl (by omega)) rfl ?_
  refine ol_r (r_move rfl) rfl ?_
  refine ol_r (r_shr32N rfl rfl) rfl ?_
  refine ol_r (r_addN rfl rfl (by rw [m4]; exact m5)) rfl ?_
  refine ol_r (r_assign rfl) rfl ?_
  refine ol_nil (to_k0 (fun _ _ h => h) (hK11 _ _ _ _ _ ?_))
  clear hK11
  refine wp_seq' fun K12 hK12 => ?_
  refine wp_reg ?_
  refine ol_r (r_move rfl) rfl ?_
  refine ol_r (r_move rfl) rfl ?_
  refine ol_r (r_mulg ((x * y % 18446744073709551616 : Nat) : Int) rfl rfl (by rw [IntKind.wrap_u64, ← Int.natCast_mul, Int.natCast_emod]; rfl)) rfl ?_
  refine ol_r (r_assign rfl) rfl ?_
  refine ol_nil (to_k0 (fun _ _ h => h) (hK12 _ _ _ _ _ ?_))
  clear hK12
  refine hQ.ret (rvs2 (rv_t rfl) (rv_t rfl)) (fun _ _ h => h) fun w hb hs hB hkd => ?_
  exact ⟨by rw [m4], hb⟩
theorem wrap_rest {u d q Y v : Nat} (h : q * Y + v = u * 4294967296 + d) (hv : v < 18446744073709551616) :
    IntKind.u64.wrap (IntKind.u64.wrap (IntKind.u64.wrap ((u : Int) * 4294967296) + (d : Int)) - IntKind.u64.wrap ((q : Int) * (Y : Int))) = (v : Int) := by
  simp only [IntKind.wrap_u64]
  have h2 : ((q * Y + v : Nat) : Int) = ((u * 4294967296 + d : Nat) : Int) := congrArg _ h
  rw [Int.natCast_add, Int.natCast_mul, Int.natCast_add, Int.natCast_mul] at h2
  generalize (q : Int) * (Y : Int) = z at *
  omega
theorem bits_Div64N (hi lo y : Nat) (w : World) (hh : hi < y) (hy : y < 18446744073709551616) (hlo : lo < 18446744073709551616) :
    Calls Try.prog 95 #[.int .u64 (hi : Int), .int .u64 (lo : Int), .int .u64 (y : Int)] w fun e w' => e = .returned (.tuple #[.int .u64 (((hi * 18446744073709551616 + lo) / y : Nat) : Int), .int .u64 (((hi * 18446744073709551616 + lo) % y : Nat) : Int)]) ∧ Below w.heap.size w w' := by
  refine enterQ (N := 135) (C := fun _ => True) (H := []) (B := w.heap.size) (args := [_, _, _]) Try.func95 rfl rfl rfl (Nat.le_refl _) (Sat.nil _ _) fun Q hQ => ?_
  refine wp_seq' fun K1 hK1 => ?_
  refine wp_reg ?_
  refine ol_r (r_assign rfl) rfl ?_
  refine ol_r (r_assign rfl) rfl ?_
  refine ol_nil (to_k0 (fun _ _ h => h) (hK1 _ _ _ _ _ ?_))
  clear hK1
  refine wp_seq' fun K2 hK2 => ?_
  refine wp_seq' fun K3 hK3 => ?_
  refine wp_reg ?_
  refine ol_r (r_move rfl) rfl ?_
  refine ol_r (r_eql rfl rfl) rfl ?_
  refine ol_nil (to_k0 (fun _ _ h => h) (hK3 _ _ _ _ _ ?_))
  clear hK3
  refine wp_condD rfl (fun hc20 => ?_) (fun hc20 => ?_)
  ·exfalso
   omega
  ·refine wp_skip' (to_k0 (fun _ _ h => h) (hK2 _ _ _ _ _ ?_))
   clear hK2
   refine wp_seq' fun K4 hK4 => ?_
   refine wp_seq' fun K5 hK5 => ?_
   refine wp_reg ?_
   refine ol_r (r_move rfl) rfl ?_
   refine ol_r (r_move rfl) rfl ?_
   refine ol_r (r_leq rfl rfl) rfl ?_
   refine ol_nil (to_k0 (fun _ _ h => h) (hK5 _ _ _ _ _ ?_))
   clear hK5
   refine wp_condD rfl (fun hc24 => ?_) (fun hc24 => ?_)
   ·exfalso
    omega
   ·refine wp_skip' (to_k0 (fun _ _ h => h) (hK4 _ _ _ _ _ ?_))
    clear hK4
    refine wp_seq' fun K6 hK6 => ?_
    refine wp_seq' fun K7 hK7 => ?_
    refine wp_reg ?_
    refine ol_r (r_move rfl) rfl ?_
    refine ol_r (r_eql rfl rfl) rfl ?_
    refine ol_nil (to_k0 (fun _ _ h => h) (hK7 _ _ _ _ _ ?_))
    clear hK7
    refine wp_condD rfl (fun hc27 => ?_) (fun hc27 => ?_)
    ·refine wp_seq' fun K8 hK8 => ?_
     refine wp_regq (by kernel_rfl) (by kernel_rfl) ?_
     refine ql_r (r_move rfl) rfl ?_
     refine ql_r (r_move rfl) rfl ?_
     refine ql_r (r_quoN rfl rfl (by omega) hlo) rfl ?_
     refine ql_r (r_move rfl) rfl ?_
     refine ql_r (r_move rfl) rfl ?_
     refine ql_r (r_remN rfl rfl (by omega) hlo) rfl ?_
     refine ql_r (r_assign rfl) rfl ?_
     refine ql_r (r_assign rfl) rfl ?_
     refine ql_nil (to_k0 (fun _ _ h => h) (hK8 _ _ _ _ _ ?_))
     clear hK8
     refine hQ.ret (rvs2 (rv_t rfl) (rv_t rfl)) (fun _ _ h => h) fun w hb hs hB hkd => ?_
     have e1 : hi = 0 := by omega
     subst e1
     exact ⟨by rw [Nat.zero_mul, Nat.zero_add], hb⟩
    ·refine wp_skip' (to_k0 (fun _ _ h => h) (hK6 _ _ _ _ _ ?_))
     clear hK6
     refine wp_seq' fun K9 hK9 => ?_
     refine wp_reg ?_
     refine ol_r (r_move rfl) rfl ?_
     refine ol_call rfl rfl cb128 rfl (fun w1 hb1 hs1 hB1 => ?_)
     refine Calls.mono (bits_Lz64 y _ hy (by omega)) ?_
     rintro e w2 ⟨s, rfl, hb2, hs64, hY1, hY2⟩
     refine After.below rfl hb1 hs1 hB1 hb2 ?_
     clear hb2 hB1 hs1 hb1 w2 w1
     refine ol_r (r_convN (k2 := .u64) rfl (by kernel_rfl) (by kernel_rfl) (wrapN (by omega))) rfl ?_
     refine ol_r (r_assign rfl) rfl ?_
     refine ol_nil (to_k0 (fun _ _ h => h) (hK9 _ _ _ _ _ ?_))
     clear hK9
     refine wp_seq' fun K10 hK10 => ?_
     refine wp_reg ?_
     refine ol_r (r_move rfl) rfl ?_
     refine ol_r (r_move rfl) rfl ?_
     refine ol_r (r_shlN s rfl rfl rfl (by omega) (y * 2 ^ s) (Nat.mod_eq_of_lt hY2)) rfl ?_
     obtain ⟨Y, hYe⟩ : ∃ Y, Y = y * 2 ^ s := ⟨_, rfl⟩
     rw [← hYe] at hY1 hY2 ⊢
     have hKs : hi * 2 ^ s < Y := by rw [hYe]; exact (Nat.mul_lt_mul_right (Nat.pow_pos (by omega))).2 hh
     have h2s : 0 < 2 ^ s := Nat.pow_pos (by omega)
     have hls : lo / 2 ^ (64 - s) < 2 ^ s := by
       refine (Nat.div_lt_iff_lt_mul (Nat.pow_pos (by omega))).2 ?_
       rw [← Nat.pow_add, show s + (64 - s) = 64 by omega]; exact hlo
     have hU : hi * 2 ^ s + lo / 2 ^ (64 - s) < Y := by
       have h3 : (hi + 1) * 2 ^ s ≤ Y := by rw [hYe]; exact Nat.mul_le_mul_right _ hh
       rw [Nat.add_mul, Nat.one_mul] at h3
       omega
     refine ol_r (r_assign rfl) rfl ?_
     refine ol_nil (to_k0 (fun _ _ h => h) (hK10 _ _ _ _ _ ?_))
     clear hK10
     refine wp_seq' fun K11 hK11 => ?_
     refine wp_reg ?_
     refine ol_r (r_move rfl) rfl ?_
     refine ol_r (r_shr32N rfl rfl) rfl ?_
     refine ol_r (r_assign rfl) rfl ?_
     refine ol_nil (to_k0 (fun _ _ h => h) (hK11 _ _ _ _ _ ?_))
     clear hK11
     refine wp_seq' fun K12 hK12 => ?_
     refine wp_reg ?_
     refine ol_r (r_move rfl) rfl ?_
     refine ol_r (r_and32N rfl rfl (by omega)) rfl ?_
     refine ol_r (r_assign rfl) rfl ?_
     refine ol_nil (to_k0 (fun _ _ h => h) (hK12 _ _ _ _ _ ?_))
     clear hK12
     refine wp_seq' fun K13 hK13 => ?_
     refine wp_reg ?_
     refine ol_r (r_move rfl) rfl ?_
     refine ol_r (r_move rfl) rfl ?_
     refine ol_r (r_shlN s rfl rfl rfl (by omega) (hi * 2 ^ s) (Nat.mod_eq_of_lt (by omega))) rfl ?_
     refine ol_r (r_move rfl) rfl ?_
     refine ol_r (r_move rfl) rfl ?_
     refine ol_r (r_subN (a := 64) rfl rfl (by omega) (by omega)) rfl ?_
     refine ol_r (r_shrN (64 - s) rfl rfl rfl (by omega)) rfl ?_
     refine ol_r (r_orN s hi rfl rfl rfl hls (by omega) (by omega)) rfl ?_
     obtain ⟨u, hu⟩ : ∃ u, u = hi * 2 ^ s + lo / 2 ^ (64 - s) := ⟨_, rfl⟩
     rw [← hu] at hU ⊢
     refine ol_r (r_assign rfl) rfl ?_
     refine ol_nil (to_k0 (fun _ _ h => h) (hK13 _ _ _ _ _ ?_))
     clear hK13
     refine wp_seq' fun K14 hK14 => ?_
     refine wp_reg ?_
     refine ol_r (r_move rfl) rfl ?_
     refine ol_r (r_move rfl) rfl ?_
     refine ol_r (r_shlN s rfl rfl rfl (by omega) _ rfl) rfl ?_
     obtain ⟨t, ht⟩ : ∃ t, t = lo * 2 ^ s % 18446744073709551616 := ⟨_, rfl⟩
     rw [← ht]
     have htl : t < 18446744073709551616 := by rw [ht]; exact Nat.mod_lt _ (by omega)
     have hd1 := dig_start (u := u) (d := t / 4294967296) hY1 hY2 hU (by omega)
     refine ol_r (r_assign rfl) rfl ?_
     refine ol_nil (to_k0 (fun _ _ h => h) (hK14 _ _ _ _ _ ?_))
     clear hK14
     refine wp_seq' fun K15 hK15 => ?_
     refine wp_reg ?_
     refine ol_r (r_move rfl) rfl ?_
     refine ol_r (r_shr32N rfl rfl) rfl ?_
     refine ol_r (r_assign rfl) rfl ?_
     refine ol_nil (to_k0 (fun _ _ h => h) (hK15 _ _ _ _ _ ?_))
     clear hK15
     refine wp_seq' fun K16 hK16 => ?_
     refine wp_reg ?_
     refine ol_r (r_move rfl) rfl ?_
     refine ol_r (r_and32N rfl rfl htl) rfl ?_
     refine ol_r (r_assign rfl) rfl ?_
     refine ol_nil (to_k0 (fun _ _ h => h) (hK16 _ _ _ _ _ ?_))
     clear hK16
     refine wp_seq' fun K17 hK17 => ?_
     refine wp_reg ?_
     refine ol_r (r_move rfl) rfl ?_
     refine ol_r (r_move rfl) rfl ?_
     refine ol_r (r_quoN rfl rfl (by omega) (by omega)) rfl ?_
     refine ol_r (r_assign rfl) rfl ?_
     refine ol_nil (to_k0 (fun _ _ h => h) (hK17 _ _ _ _ _ ?_))
     clear hK17
     refine wp_seq' fun K18 hK18 => ?_
     refine wp_reg ?_
     refine ol_r (r_move rfl) rfl ?_
     refine ol_r (r_move rfl) rfl ?_
     refine ol_r (r_move rfl) rfl ?_
     refine ol_r (r_mulN rfl rfl (by omega)) rfl ?_
     refine ol_r (r_subN rfl rfl (by omega) (by omega)) rfl ?_
     rw [show u - u / (Y / 4294967296) * (Y / 4294967296) = u % (Y / 4294967296) by omega]
     refine ol_r (r_assign rfl) rfl ?_
     refine ol_nil (to_k0 (fun _ _ h => h) (hK18 _ _ _ _ _ ?_))
     clear hK18
     apply wp_seq_cutM (σ := Nat) (fun s => s = digQ u (t / 4294967296) Y) (fun s => [(15, .int .u64 (s : Int))]) [(2, _), (6, _), (7, _), (8, _), (9, _), (10, _), (11, _), (13, _), (14, _)] (fun s => []) []
     ·exact (sub_cons rfl (sub_cons rfl (sub_cons rfl (sub_cons rfl (sub_cons rfl (sub_cons rfl (sub_cons rfl (sub_cons rfl (sub_cons rfl sub_nil)))))))))
     ·exact subH_nil
     ·intro K19 hK19
      refine wp_block' ?_
      apply wp_loopM (σ := Nat × Nat) (fun s => s.1 * (Y / 4294967296) + s.2 = u ∧ digQ u (t / 4294967296) Y ≤ s.1 ∧ s.1 ≤ 4294967297 ∧ s.2 < 4294967296) (fun s => [(15, .int .u64 (s.1 : Int)), (16, .int .u64 (s.2 : Int))]) [(2, _), (6, _), (7, _), (8, _), (9, _), (10, _), (11, _), (13, _), (14, _)] (fun s => []) [] (fun s => s.1) ((_, _))
      ·try dsimp only
       exact ⟨hd1.1, hd1.2.1, hd1.2.2.1, by omega⟩
      ·exact (sub_cons rfl (sub_cons rfl sub_nil))
      ·exact (sub_cons rfl (sub_cons rfl (sub_cons rfl (sub_cons rfl (sub_cons rfl (sub_cons rfl (sub_cons rfl (sub_cons rfl (sub_cons rfl sub_nil)))))))))
      ·exact subH_nil
      ·exact subH_nil
      ·rintro ⟨q, r⟩ ⟨hq1, hq2, hq3, hq4⟩
       dsimp only at hq1 hq2 hq3 hq4 ⊢
       have hlow := dig_low (Y := Y) hq3
       intro K20 hK20
       refine wp_seq' fun K21 hK21 => ?_
       refine wp_seq' fun K22 hK22 => ?_
       refine wp_reg ?_
       refine ol_r (r_move rfl) rfl ?_
       refine ol_r (r_geq rfl rfl) rfl ?_
       refine ol_r (r_move rfl) rfl ?_
       refine ol_split (d := 69) rfl (fun hs69 => ?_) (fun hs69 => ?_)
       ·have phs69 := hs69; try simp only [decide_eq_true_eq, decide_eq_false_iff_not, Bool.not_eq_true', Bool.not_eq_false', Bool.not_true, Bool.not_false] at phs69
        refine ol_s rfl rfl hs69 rfl ?_
        refine ol_s rfl rfl hs69 rfl ?_
        refine ol_s rfl rfl hs69 rfl ?_
        refine ol_s rfl rfl hs69 rfl ?_
        refine ol_s rfl rfl hs69 rfl ?_
        refine ol_s rfl rfl hs69 rfl ?_
        refine ol_s rfl rfl hs69 rfl ?_
        refine ol_s rfl rfl hs69 rfl ?_
        refine ol_r (r_pickT rfl hs69 rfl) rfl ?_
        refine ol_nil (to_k0 (fun _ _ h => h) (hK22 _ _ _ _ _ ?_))
        clear hK22
        refine wp_condT rfl ?_
        refine wp_skip' (to_k0 (fun _ _ h => h) (hK21 _ _ _ _ _ ?_))
        clear hK21
        refine wp_block' ?_
        refine wp_seq' fun K23 hK23 => ?_
        refine wp_reg ?_
        refine ol_r (r_move rfl) rfl ?_
        have hdec : digQ u (t / 4294967296) Y < q := by
          first
          | exact dig_dec (by omega) hU (by omega) hq1 (.inl (by omega))
          | exact dig_dec (by omega) hU (by omega) hq1 (.inr (by omega))
        have hqd1 : (q - 1) * (Y / 4294967296) + (r + Y / 4294967296) = u := by
          have h3 : (q - 1 + 1) * (Y / 4294967296) = (q - 1) * (Y / 4294967296) + Y / 4294967296 := by rw [Nat.add_mul, Nat.one_mul]
          rw [Nat.sub_add_cancel (by omega)] at h3
          omega
        refine ol_r (r_subN (b := 1) rfl rfl (by omega) (by omega)) rfl ?_
        refine ol_r (r_assign rfl) rfl ?_
        refine ol_nil (to_k0 (fun _ _ h => h) (hK23 _ _ _ _ _ ?_))
        clear hK23
        refine wp_seq' fun K24 hK24 => ?_
        refine wp_reg ?_
        refine ol_r (r_move rfl) rfl ?_
        refine ol_r (r_move rfl) rfl ?_
        refine ol_r (r_addN rfl rfl (by omega)) rfl ?_
        refine ol_r (r_assign rfl) rfl ?_
        refine ol_nil (to_k0 (fun _ _ h => h) (hK24 _ _ _ _ _ ?_))
        clear hK24
        refine wp_seq' fun K25 hK25 => ?_
        refine wp_reg ?_
        refine ol_r (r_move rfl) rfl ?_
        refine ol_r (r_geq rfl rfl) rfl ?_
        refine ol_nil (to_k0 (fun _ _ h => h) (hK25 _ _ _ _ _ ?_))
        clear hK25
        refine wp_condD rfl (fun hc85 => ?_) (fun hc85 => ?_)
        ·refine wp_exit' (to_k0 (fun _ _ h => h) (hK19 (_) _ _ ?_ (sub_cons rfl sub_nil) (sub_cons rfl (sub_cons rfl (sub_cons rfl (sub_cons rfl (sub_cons rfl (sub_cons rfl (sub_cons rfl (sub_cons rfl (sub_cons rfl sub_nil))))))))) subH_nil subH_nil))
         try dsimp only
         first
         | exact Nat.le_antisymm (dig_le (by omega) hqd1 (dig_brk (by omega) (by omega))) (by omega)
        ·refine wp_skip' (to_k0 (fun _ _ h => h) (hK20 ((q - 1, r + Y / 4294967296)) _ _ ?_ ?_ (sub_cons rfl (sub_cons rfl sub_nil)) (sub_cons rfl (sub_cons rfl (sub_cons rfl (sub_cons rfl (sub_cons rfl (sub_cons rfl (sub_cons rfl (sub_cons rfl (sub_cons rfl sub_nil))))))))) (by exact subH_nil) subH_nil))
         ·try dsimp only
          exact ⟨hqd1, by omega, by omega, by omega⟩
         ·try dsimp only
          omega
       ·have phs69 := hs69; try simp only [decide_eq_true_eq, decide_eq_false_iff_not, Bool.not_eq_true', Bool.not_eq_false', Bool.not_true, Bool.not_false] at phs69
        refine ol_g rfl rfl hs69 ?_
        refine ol_r (r_move rfl) rfl ?_
        refine ol_g rfl rfl hs69 ?_
        refine ol_r (r_move rfl) rfl ?_
        refine ol_g rfl rfl hs69 ?_
        refine ol_r (r_mulN rfl rfl (by omega)) rfl ?_
        refine ol_g rfl rfl hs69 ?_
        refine ol_r (r_move rfl) rfl ?_
        refine ol_g rfl rfl hs69 ?_
        refine ol_r (r_mulN (a := 4294967296) rfl rfl (by omega)) rfl ?_
        refine ol_g rfl rfl hs69 ?_
        refine ol_r (r_move rfl) rfl ?_
        refine ol_g rfl rfl hs69 ?_
        refine ol_r (r_addN rfl rfl (by omega)) rfl ?_
        refine ol_g rfl rfl hs69 ?_
        refine ol_r (r_gtr rfl rfl) rfl ?_
        refine ol_r (r_pickF rfl hs69 rfl) rfl ?_
        refine ol_nil (to_k0 (fun _ _ h => h) (hK22 _ _ _ _ _ ?_))
        clear hK22
        refine wp_condD rfl (fun hc78 => ?_) (fun hc78 => ?_)
        ·refine wp_skip' (to_k0 (fun _ _ h => h) (hK21 _ _ _ _ _ ?_))
         clear hK21
         refine wp_block' ?_
         refine wp_seq' fun K26 hK26 => ?_
         refine wp_reg ?_
         refine ol_r (r_move rfl) rfl ?_
         have hdec : digQ u (t / 4294967296) Y < q := by
           first
           | exact dig_dec (by omega) hU (by omega) hq1 (.inl (by omega))
           | exact dig_dec (by omega) hU (by omega) hq1 (.inr (by omega))
         have hqd1 : (q - 1) * (Y / 4294967296) + (r + Y / 4294967296) = u := by
           have h3 : (q - 1 + 1) * (Y / 4294967296) = (q - 1) * (Y / 4294967296) + Y / 4294967296 := by rw [Nat.add_mul, Nat.one_mul]
           rw [Nat.sub_add_cancel (by omega)] at h3
           omega
         refine ol_r (r_subN (b := 1) rfl rfl (by omega) (by omega)) rfl ?_
         refine ol_r (r_assign rfl) rfl ?_
         refine ol_nil (to_k0 (fun _ _ h => h) (hK26 _ _ _ _ _ ?_))
         clear hK26
         refine wp_seq' fun K27 hK27 => ?_
         refine wp_reg ?_
         refine ol_r (r_move rfl) rfl ?_
         refine ol_r (r_move rfl) rfl ?_
         refine ol_r (r_addN rfl rfl (by omega)) rfl ?_
         refine ol_r (r_assign rfl) rfl ?_
         refine ol_nil (to_k0 (fun _ _ h => h) (hK27 _ _ _ _ _ ?_))
         clear hK27
         refine wp_seq' fun K28 hK28 => ?_
         refine wp_reg ?_
         refine ol_r (r_move rfl) rfl ?_
         refine ol_r (r_geq rfl rfl) rfl ?_
         refine ol_nil (to_k0 (fun _ _ h => h) (hK28 _ _ _ _ _ ?_))
         clear hK28
         refine wp_condD rfl (fun hc85 => ?_) (fun hc85 => ?_)
         ·refine wp_exit' (to_k0 (fun _ _ h => h) (hK19 (_) _ _ ?_ (sub_cons rfl sub_nil) (sub_cons rfl (sub_cons rfl (sub_cons rfl (sub_cons rfl (sub_cons rfl (sub_cons rfl (sub_cons rfl (sub_cons rfl (sub_cons rfl sub_nil))))))))) subH_nil subH_nil))
          try dsimp only
          first
          | exact Nat.le_antisymm (dig_le (by omega) hqd1 (dig_brk (by omega) (by omega))) (by omega)
         ·refine wp_skip' (to_k0 (fun _ _ h => h) (hK20 ((q - 1, r + Y / 4294967296)) _ _ ?_ ?_ (sub_cons rfl (sub_cons rfl sub_nil)) (sub_cons rfl (sub_cons rfl (sub_cons rfl (sub_cons rfl (sub_cons rfl (sub_cons rfl (sub_cons rfl (sub_cons rfl (sub_cons rfl sub_nil))))))))) (by exact subH_nil) subH_nil))
          ·try dsimp only
           exact ⟨hqd1, by omega, by omega, by omega⟩
          ·try dsimp only
           omega
        ·refine wp_exit' (to_k0 (fun _ _ h => h) (hK19 (_) _ _ ?_ (sub_cons rfl sub_nil) (sub_cons rfl (sub_cons rfl (sub_cons rfl (sub_cons rfl (sub_cons rfl (sub_cons rfl (sub_cons rfl (sub_cons rfl (sub_cons rfl sub_nil))))))))) subH_nil subH_nil))
         try dsimp only
         first
         | exact Nat.le_antisymm (dig_le (r := r) (by omega) hq1 (by omega)) hq2
     ·rintro q1 rfl
      have hQ1 := dig_rest u (t / 4294967296) Y
      have hQ1l := digQ_lt (u := u) (d := t / 4294967296) hU (by omega)
      obtain ⟨v, hv⟩ : ∃ v, v = (u * 4294967296 + t / 4294967296) % Y := ⟨_, rfl⟩
      rw [← hv] at hQ1
      have hvY : v < Y := by rw [hv]; exact Nat.mod_lt _ (by omega)
      have hd0 := dig_start (u := v) (d := t % 4294967296) hY1 hY2 hvY (by omega)
      obtain ⟨hz1, hz2⟩ := div_two (hi := hi) (y := y) (s := s) (by omega) (by omega) hlo u hu t ht v (by rw [← hYe]; exact hv)
      rw [← hYe] at hz1 hz2
      have hQ0 := dig_rest v (t % 4294967296) Y
      have hQ0l := digQ_lt (u := v) (d := t % 4294967296) hvY (by omega)
      have hR0 : (v * 4294967296 + t % 4294967296) % Y < Y := Nat.mod_lt _ (by omega)
      refine wp_seq' fun K29 hK29 => ?_
      refine wp_reg ?_
      refine ol_r (r_move rfl) rfl ?_
      refine ol_r (r_mulg _ rfl rfl rfl) rfl ?_
      refine ol_r (r_move rfl) rfl ?_
      refine ol_r (r_addg _ rfl rfl rfl) rfl ?_
      refine ol_r (r_move rfl) rfl ?_
      refine ol_r (r_move rfl) rfl ?_
      refine ol_r (r_mulg _ rfl rfl rfl) rfl ?_
      refine ol_r (r_subg (v : Int) rfl rfl (wrap_rest hQ1 (by omega))) rfl ?_
      refine ol_r (r_assign rfl) rfl ?_
      refine ol_nil (to_k0 (fun _ _ h => h) (hK29 _ _ _ _ _ ?_))
      clear hK29
      refine wp_seq' fun K30 hK30 => ?_
      refine wp_reg ?_
      refine ol_r (r_move rfl) rfl ?_
      refine ol_r (r_move rfl) rfl ?_
      refine ol_r (r_quoN rfl rfl (by omega) (by omega)) rfl ?_
      refine ol_r (r_assign rfl) rfl ?_
      refine ol_nil (to_k0 (fun _ _ h => h) (hK30 _ _ _ _ _ ?_))
      clear hK30
      refine wp_seq' fun K31 hK31 => ?_
      refine wp_reg ?_
      refine ol_r (r_move rfl) rfl ?_
      refine ol_r (r_move rfl) rfl ?_
      refine ol_r (r_move rfl) rfl ?_
      refine ol_r (r_mulN rfl rfl (by omega)) rfl ?_
      refine ol_r (r_subN rfl rfl (by omega) (by omega)) rfl ?_
      rw [show v - v / (Y / 4294967296) * (Y / 4294967296) = v % (Y / 4294967296) by omega]
      refine ol_r (r_assign rfl) rfl ?_
      refine ol_nil (to_k0 (fun _ _ h => h) (hK31 _ _ _ _ _ ?_))
      clear hK31
      apply wp_seq_cutM (σ := Nat) (fun s => s = digQ v (t % 4294967296) Y) (fun s => [(18, .int .u64 (s : Int))]) [(2, _), (6, _), (7, _), (8, _), (14, _), (15, _), (17, _)] (fun s => []) []
      ·exact (sub_cons rfl (sub_cons rfl (sub_cons rfl (sub_cons rfl (sub_cons rfl (sub_cons rfl (sub_cons rfl sub_nil)))))))
      ·exact subH_nil
      ·intro K32 hK32
       refine wp_block' ?_
       apply wp_loopM (σ := Nat × Nat) (fun s => s.1 * (Y / 4294967296) + s.2 = v ∧ digQ v (t % 4294967296) Y ≤ s.1 ∧ s.1 ≤ 4294967297 ∧ s.2 < 4294967296) (fun s => [(18, .int .u64 (s.1 : Int)), (16, .int .u64 (s.2 : Int))]) [(2, _), (6, _), (7, _), (8, _), (9, _), (10, _), (14, _), (15, _), (17, _)] (fun s => []) [] (fun s => s.1) ((_, _))
       ·try dsimp only
        exact ⟨hd0.1, hd0.2.1, hd0.2.2.1, by omega⟩
       ·exact (sub_cons rfl (sub_cons rfl sub_nil))
       ·exact (sub_cons rfl (sub_cons rfl (sub_cons rfl (sub_cons rfl (sub_cons rfl (sub_cons rfl (sub_cons rfl (sub_cons rfl (sub_cons rfl sub_nil)))))))))
       ·exact subH_nil
       ·exact subH_nil
       ·rintro ⟨q, r⟩ ⟨hq1, hq2, hq3, hq4⟩
        dsimp only at hq1 hq2 hq3 hq4 ⊢
        have hlow := dig_low (Y := Y) hq3
        intro K33 hK33
        refine wp_seq' fun K34 hK34 => ?_
        refine wp_seq' fun K35 hK35 => ?_
        refine wp_reg ?_
        refine ol_r (r_move rfl) rfl ?_
        refine ol_r (r_geq rfl rfl) rfl ?_
        refine ol_r (r_move rfl) rfl ?_
        refine ol_split (d := 104) rfl (fun hs104 => ?_) (fun hs104 => ?_)
        ·have phs104 := hs104; try simp only [decide_eq_true_eq, decide_eq_false_iff_not, Bool.not_eq_true', Bool.not_eq_false', Bool.not_true, Bool.not_false] at phs104
         refine ol_s rfl rfl hs104 rfl ?_
         refine ol_s rfl rfl hs104 rfl ?_
         refine ol_s rfl rfl hs104 rfl ?_
         refine ol_s rfl rfl hs104 rfl ?_
         refine ol_s rfl rfl hs104 rfl ?_
         refine ol_s rfl rfl hs104 rfl ?_
         refine ol_s rfl rfl hs104 rfl ?_
         refine ol_s rfl rfl hs104 rfl ?_
         refine ol_r (r_pickT rfl hs104 rfl) rfl ?_
         refine ol_nil (to_k0 (fun _ _ h => h) (hK35 _ _ _ _ _ ?_))
         clear hK35
         refine wp_condT rfl ?_
         refine wp_skip' (to_k0 (fun _ _ h => h) (hK34 _ _ _ _ _ ?_))
         clear hK34
         refine wp_block' ?_
         refine wp_seq' fun K36 hK36 => ?_
         refine wp_reg ?_
         refine ol_r (r_move rfl) rfl ?_
         have hdec : digQ v (t % 4294967296) Y < q := by
           first
           | exact dig_dec (by omega) hvY (by omega) hq1 (.inl (by omega))
           | exact dig_dec (by omega) hvY (by omega) hq1 (.inr (by omega))
         have hqd1 : (q - 1) * (Y / 4294967296) + (r + Y / 4294967296) = v := by
           have h3 : (q - 1 + 1) * (Y / 4294967296) = (q - 1) * (Y / 4294967296) + Y / 4294967296 := by rw [Nat.add_mul, Nat.one_mul]
           rw [Nat.sub_add_cancel (by omega)] at h3
           omega
         refine ol_r (r_subN (b := 1) rfl rfl (by omega) (by omega)) rfl ?_
         refine ol_r (r_assign rfl) rfl ?_
         refine ol_nil (to_k0 (fun _ _ h => h) (hK36 _ _ _ _ _ ?_))
         clear hK36
         refine wp_seq' fun K37 hK37 => ?_
         refine wp_reg ?_
         refine ol_r (r_move rfl) rfl ?_
         refine ol_r (r_move rfl) rfl ?_
         refine ol_r (r_addN rfl rfl (by omega)) rfl ?_
         refine ol_r (r_assign rfl) rfl ?_
         refine ol_nil (to_k0 (fun _ _ h => h) (hK37 _ _ _ _ _ ?_))
         clear hK37
         refine wp_seq' fun K38 hK38 => ?_
         refine wp_reg ?_
         refine ol_r (r_move rfl) rfl ?_
         refine ol_r (r_geq rfl rfl) rfl ?_
         refine ol_nil (to_k0 (fun _ _ h => h) (hK38 _ _ _ _ _ ?_))
         clear hK38
         refine wp_condD rfl (fun hc120 => ?_) (fun hc120 => ?_)
         ·refine wp_exit' (to_k0 (fun _ _ h => h) (hK32 (_) _ _ ?_ (sub_cons rfl sub_nil) (sub_cons rfl (sub_cons rfl (sub_cons rfl (sub_cons rfl (sub_cons rfl (sub_cons rfl (sub_cons rfl sub_nil))))))) subH_nil subH_nil))
          try dsimp only
          first
          | exact Nat.le_antisymm (dig_le (by omega) hqd1 (dig_brk (by omega) (by omega))) (by omega)
         ·refine wp_skip' (to_k0 (fun _ _ h => h) (hK33 ((q - 1, r + Y / 4294967296)) _ _ ?_ ?_ (sub_cons rfl (sub_cons rfl sub_nil)) (sub_cons rfl (sub_cons rfl (sub_cons rfl (sub_cons rfl (sub_cons rfl (sub_cons rfl (sub_cons rfl (sub_cons rfl (sub_cons rfl sub_nil))))))))) (by exact subH_nil) subH_nil))
          ·try dsimp only
           exact ⟨hqd1, by omega, by omega, by omega⟩
          ·try dsimp only
           omega
        ·have phs104 := hs104; try simp only [decide_eq_true_eq, decide_eq_false_iff_not, Bool.not_eq_true', Bool.not_eq_false', Bool.not_true, Bool.not_false] at phs104
         refine ol_g rfl rfl hs104 ?_
         refine ol_r (r_move rfl) rfl ?_
         refine ol_g rfl rfl hs104 ?_
         refine ol_r (r_move rfl) rfl ?_
         refine ol_g rfl rfl hs104 ?_
         refine ol_r (r_mulN rfl rfl (by omega)) rfl ?_
         refine ol_g rfl rfl hs104 ?_
         refine ol_r (r_move rfl) rfl ?_
         refine ol_g rfl rfl hs104 ?_
         refine ol_r (r_mulN (a := 4294967296) rfl rfl (by omega)) rfl ?_
         refine ol_g rfl rfl hs104 ?_
         refine ol_r (r_move rfl) rfl ?_
         refine ol_g rfl rfl hs104 ?_
         refine ol_r (r_addN rfl rfl (by omega)) rfl ?_
         refine ol_g rfl rfl hs104 ?_
         refine ol_r (r_gtr rfl rfl) rfl ?_
         refine ol_r (r_pickF rfl hs104 rfl) rfl ?_
         refine ol_nil (to_k0 (fun _ _ h => h) (hK35 _ _ _ _ _ ?_))
         clear hK35
         refine wp_condD rfl (fun hc113 => ?_) (fun hc113 => ?_)
         ·refine wp_skip' (to_k0 (fun _ _ h => h) (hK34 _ _ _ _ _ ?_))
          clear hK34
          refine wp_block' ?_
          refine wp_seq' fun K39 hK39 => ?_
          refine wp_reg ?_
          refine ol_r (r_move rfl) rfl ?_
          have hdec : digQ v (t % 4294967296) Y < q := by
            first
            | exact dig_dec (by omega) hvY (by omega) hq1 (.inl (by omega))
            | exact dig_dec (by omega) hvY (by omega) hq1 (.inr (by omega))
          have hqd1 : (q - 1) * (Y / 4294967296) + (r + Y / 4294967296) = v := by
            have h3 : (q - 1 + 1) * (Y / 4294967296) = (q - 1) * (Y / 4294967296) + Y / 4294967296 := by rw [Nat.add_mul, Nat.one_mul]
            rw [Nat.sub_add_cancel (by omega)] at h3
            omega
          refine ol_r (r_subN (b := 1) rfl rfl (by omega) (by omega)) rfl ?_
          refine ol_r (r_assign rfl) rfl ?_
          refine ol_nil (to_k0 (fun _ _ h => h) (hK39 _ _ _ _ _ ?_))
          clear hK39
          refine wp_seq' fun K40 hK40 => ?_
          refine wp_reg ?_
          refine ol_r (r_move rfl) rfl ?_
          refine ol_r (r_move rfl) rfl ?_
          refine ol_r (r_addN rfl rfl (by omega)) rfl ?_
          refine ol_r (r_assign rfl) rfl ?_
          refine ol_nil (to_k0 (fun _ _ h => h) (hK40 _ _ _ _ _ ?_))
          clear hK40
          refine wp_seq' fun K41 hK41 => ?_
          refine wp_reg ?_
          refine ol_r (r_move rfl) rfl ?_
          refine ol_r (r_geq rfl rfl) rfl ?_
          refine ol_nil (to_k0 (fun _ _ h => h) (hK41 _ _ _ _ _ ?_))
          clear hK41
          refine wp_condD rfl (fun hc120 => ?_) (fun hc120 => ?_)
          ·refine wp_exit' (to_k0 (fun _ _ h => h) (hK32 (_) _ _ ?_ (sub_cons rfl sub_nil) (sub_cons rfl (sub_cons rfl (sub_cons rfl (sub_cons rfl (sub_cons rfl (sub_cons rfl (sub_cons rfl sub_nil))))))) subH_nil subH_nil))
           try dsimp only
           first
           | exact Nat.le_antisymm (dig_le (by omega) hqd1 (dig_brk (by omega) (by omega))) (by omega)
          ·refine wp_skip' (to_k0 (fun _ _ h => h) (hK33 ((q - 1, r + Y / 4294967296)) _ _ ?_ ?_ (sub_cons rfl (sub_cons rfl sub_nil)) (sub_cons rfl (sub_cons rfl (sub_cons rfl (sub_cons rfl (sub_cons rfl (sub_cons rfl (sub_cons rfl (sub_cons rfl (sub_cons rfl sub_nil))))))))) (by exact subH_nil) subH_nil))
           ·try dsimp only
            exact ⟨hqd1, by omega, by omega, by omega⟩
           ·try dsimp only
            omega
         ·refine wp_exit' (to_k0 (fun _ _ h => h) (hK32 (_) _ _ ?_ (sub_cons rfl sub_nil) (sub_cons rfl (sub_cons rfl (sub_cons rfl (sub_cons rfl (sub_cons rfl (sub_cons rfl (sub_cons rfl sub_nil))))))) subH_nil subH_nil))
          try dsimp only
          first
          | exact Nat.le_antisymm (dig_le (r := r) (by omega) hq1 (by omega)) hq2
      ·rintro q0 rfl
       refine wp_seq' fun K42 hK42 => ?_
       refine wp_reg ?_
       refine ol_r (r_move rfl) rfl ?_
       refine ol_r (r_mulN (b := 4294967296) rfl rfl (by omega)) rfl ?_
       refine ol_r (r_move rfl) rfl ?_
       refine ol_r (r_addN rfl rfl (by omega)) rfl ?_
       refine ol_r (r_move rfl) rfl ?_
       refine ol_r (r_mulg _ rfl rfl rfl) rfl ?_
       refine ol_r (r_move rfl) rfl ?_
       refine ol_r (r_addg _ rfl rfl rfl) rfl ?_
       refine ol_r (r_move rfl) rfl ?_
       refine ol_r (r_move rfl) rfl ?_
       refine ol_r (r_mulg _ rfl rfl rfl) rfl ?_
       refine ol_r (r_subg (((v * 4294967296 + t % 4294967296) % Y : Nat) : Int) rfl rfl (wrap_rest hQ0 (by omega))) rfl ?_
       refine ol_r (r_move rfl) rfl ?_
       refine ol_r (r_shrN s rfl rfl rfl (by omega)) rfl ?_
       refine ol_r (r_assign rfl) rfl ?_
       refine ol_r (r_assign rfl) rfl ?_
       refine ol_nil (to_k0 (fun _ _ h => h) (hK42 _ _ _ _ _ ?_))
       clear hK42
       refine hQ.ret (rvs2 (rv_t rfl) (rv_t rfl)) (fun _ _ h => h) fun w hb hs hB hkd => ?_
       exact ⟨by rw [hz1, hz2], hb⟩
theorem bits_MulI (x y : Int) (w : World) (hx : 0 ≤ x ∧ x < 18446744073709551616) (hy : 0 ≤ y ∧ y < 18446744073709551616) :
    Calls Try.prog 94 #[.int .u64 x, .int .u64 y] w fun e w' => e = .returned (.tuple #[.int .u64 (x * y / 18446744073709551616), .int .u64 (x * y % 18446744073709551616)]) ∧ Below w.heap.size w w' := by
  obtain ⟨a, rfl⟩ := Int.eq_ofNat_of_zero_le hx.1
  obtain ⟨b, rfl⟩ := Int.eq_ofNat_of_zero_le hy.1
  have h := bits_Mul64N a b w (by omega) (by omega)
  rw [Int.natCast_ediv, Int.natCast_emod, Int.natCast_mul] at h
  exact h
theorem bits_DivI (p d : Int) (w : World) (hp : 0 ≤ p) (hd : 1 ≤ d ∧ d < 18446744073709551616) (hq : p / 18446744073709551616 < d) :
    Calls Try.prog 95 #[.int .u64 (p / 18446744073709551616), .int .u64 (p % 18446744073709551616), .int .u64 d] w fun e w' => e = .returned (.tuple #[.int .u64 (p / d), .int .u64 (p % d)]) ∧ Below w.heap.size w w' := by
  obtain ⟨a, rfl⟩ := Int.eq_ofNat_of_zero_le hp
  obtain ⟨b, rfl⟩ := Int.eq_ofNat_of_zero_le (show 0 ≤ d by omega)
  have h := bits_Div64N (a / 18446744073709551616) (a % 18446744073709551616) b w (by omega) (by omega) (Nat.mod_lt _ (by omega))
  rw [Nat.div_add_mod'] at h
  simp only [Int.natCast_ediv, Int.natCast_emod] at h
  exact h
theorem way_downG (below : Bool) (whole half : Int) (w : World) : Calls Try.prog 123 #[.bool below, .int .u64 whole, .int .i64 half] w fun e w' => e = .returned (.bool below) ∧ Below w.heap.size w w' := by
  refine enterQ (N := 8) (C := fun _ => True) (H := []) (B := w.heap.size) (args := [_, _, _]) Try.func123 rfl rfl rfl (Nat.le_refl _) (Sat.nil _ _) fun Q hQ => ?_
  refine wp_seq' fun K1 hK1 => ?_
  refine wp_reg ?_
  refine ol_r (r_assign rfl) rfl ?_
  refine ol_nil (to_k0 (fun _ _ h => h) (hK1 _ _ _ _ _ ?_))
  clear hK1
  refine wp_seq' fun K2 hK2 => ?_
  refine wp_reg ?_
  refine ol_r (r_move rfl) rfl ?_
  refine ol_r (r_assign rfl) rfl ?_
  refine ol_nil (to_k0 (fun _ _ h => h) (hK2 _ _ _ _ _ ?_))
  clear hK2
  refine hQ.ret (rvs1 (rv_t rfl)) (fun _ _ h => h) fun w hb hs hB hkd => ?_
  exact ⟨rfl, hb⟩
theorem scale_facts {a num den : Int} (h0 : 0 ≤ a * num) (hd : 1 ≤ den) (hx : a * num / den ≤ 4611686018427387904) : a * num / 18446744073709551616 < den ∧ 0 ≤ a * num / den ∧ 0 ≤ a * num % den ∧ a * num % den < den := by
  refine ⟨?_, Int.ediv_nonneg h0 (by omega), Int.emod_nonneg _ (by omega), Int.emod_lt_of_pos _ (by omega)⟩
  refine Int.ediv_lt_of_lt_mul (by decide) ?_
  have h1 : a * num < den * (a * num / den) + den := by
    have := Int.mul_ediv_add_emod (a * num) den
    have := Int.emod_lt_of_pos (a * num) (show 0 < den by omega)
    omega
  have h2 := Int.mul_le_mul_of_nonneg_left hx (show 0 ≤ den by omega)
  omega
theorem quant_ScaleD (a num den : Int) (w : World) (ha : 0 ≤ a ∧ a ≤ 9223372036854775807) (hn : 0 ≤ num ∧ num ≤ 9223372036854775807) (hd : 1 ≤ den ∧ den ≤ 9223372036854775807) (hx : a * num / den ≤ 4611686018427387904) :
    Calls Try.prog 64 #[.int .i64 a, .int .i64 num, .int .i64 den, .int .i64 1] w fun e w' => e = .returned (.tuple #[.int .i64 (a * num / den), .int .i64 0]) ∧ Below w.heap.size w w' := by
  have h0 : 0 ≤ a * num := Int.mul_nonneg ha.1 hn.1
  obtain ⟨hhi, hq, hr, hr2⟩ := scale_facts h0 hd.1 hx
  refine enterQ (N := 88) (C := fun _ => True) (H := []) (B := w.heap.size) (args := [_, _, _, _]) Try.func64 rfl rfl rfl (Nat.le_refl _) (Sat.nil _ _) fun Q hQ => ?_
  refine wp_seq' fun K1 hK1 => ?_
  refine wp_reg ?_
  refine ol_box 7 rfl rfl rfl fun b7 => ?_
  refine ol_r (r_assign rfl) rfl ?_
  refine ol_r (r_assign rfl) rfl ?_
  refine ol_nil (to_k0 (fun _ _ h => h) (hK1 _ _ _ _ _ ?_))
  clear hK1
  refine wp_seq' fun K2 hK2 => ?_
  refine wp_reg ?_
  refine ol_call rfl rfl cb91 rfl (fun w1 hb1 hs1 hB1 => Calls.mono (quant_ways _) ?_)
  rintro e w2 ⟨a18, n18, c18, rfl, hf18⟩
  refine After.fresh (id := 18) rfl hb1 hs1 hB1 hf18 ?_
  have hl18 := hf18.len; clear hf18 hB1 hs1 hb1 w2 w1
  refine ol_r (r_assign rfl) rfl ?_
  refine ol_nil (to_k0 (fun _ _ h => h) (hK2 _ _ _ _ _ ?_))
  clear hK2
  refine wp_seq' fun K3 hK3 => ?_
  refine wp_reg ?_
  have hn18 : n18 = 5 := by rw [← hl18]; rfl
  refine ol_r (r_move rfl) rfl ?_
  refine ol_r (r_func rfl) rfl ?_
  refine ol_call rfl rfl cb92 rfl (fun w1 hb1 hs1 hB1 => Calls.mono (indexFunc_way _ _ _ waysL _ _ (fun x => decide (x.1 = 1)) 0 _ (Sat.rd hs1 (E := encWay) (id := 18) rfl rfl) cb93 rfl (fun x w' _ h1 h2 => scale_is x 1 _ w' ((hs1.blk (id := 7) rfl).at h1 h2))) ?_)
  rintro e w2 ⟨rfl, hb2⟩
  refine After.below rfl hb1 hs1 hB1 hb2 ?_
  clear hb2 hB1 hs1 hb1 w2 w1
  refine ol_r (r_assign rfl) rfl ?_
  refine ol_nil (to_k0 (fun _ _ h => h) (hK3 _ _ _ _ _ ?_))
  clear hK3
  refine wp_seq' fun K4 hK4 => ?_
  refine wp_seq' fun K5 hK5 => ?_
  refine wp_reg ?_
  refine ol_r (r_move rfl) rfl ?_
  refine ol_r (r_lss rfl rfl) rfl ?_
  refine ol_nil (to_k0 (fun _ _ h => h) (hK5 _ _ _ _ _ ?_))
  clear hK5
  refine wp_condD rfl (fun hc23 => ?_) (fun hc23 => ?_)
  ·exfalso
   omega
  ·refine wp_skip' (to_k0 (fun _ _ h => h) (hK4 _ _ _ _ _ ?_))
   clear hK4
   refine wp_seq' fun K6 hK6 => ?_
   refine wp_seq' fun K7 hK7 => ?_
   refine wp_reg ?_
   refine ol_r (r_move rfl) rfl ?_
   refine ol_r (r_leq rfl rfl) rfl ?_
   refine ol_r (r_move rfl) rfl ?_
   refine ol_split (d := 26) rfl (fun hs26 => ?_) (fun hs26 => ?_)
   ·have phs26 := hs26; try simp only [decide_eq_true_eq, decide_eq_false_iff_not, Bool.not_eq_true', Bool.not_eq_false', Bool.not_true, Bool.not_false] at phs26
    refine ol_s rfl rfl hs26 rfl ?_
    refine ol_s rfl rfl hs26 rfl ?_
    refine ol_r (r_pickT rfl hs26 rfl) rfl ?_
    refine ol_nil (to_k0 (fun _ _ h => h) (hK7 _ _ _ _ _ ?_))
    clear hK7
    refine wp_condT rfl ?_
    refine wp_seq' fun K8 hK8 => ?_
    refine wp_reg ?_
    refine ol_r (r_assign rfl) rfl ?_
    refine ol_r (r_assign rfl) rfl ?_
    refine ol_nil (to_k0 (fun _ _ h => h) (hK8 _ _ _ _ _ ?_))
    clear hK8
    refine hQ.ret (rvs2 (rv_t rfl) (rv_t rfl)) (fun _ _ h => h) fun w hb hs hB hkd => ?_
    first
      | (exfalso; omega)
   ·have phs26 := hs26; try simp only [decide_eq_true_eq, decide_eq_false_iff_not, Bool.not_eq_true', Bool.not_eq_false', Bool.not_true, Bool.not_false] at phs26
    refine ol_g rfl rfl hs26 ?_
    refine ol_r (r_move rfl) rfl ?_
    refine ol_g rfl rfl hs26 ?_
    refine ol_r (r_lss rfl rfl) rfl ?_
    refine ol_r (r_pickF rfl hs26 rfl) rfl ?_
    refine ol_nil (to_k0 (fun _ _ h => h) (hK7 _ _ _ _ _ ?_))
    clear hK7
    refine wp_condD rfl (fun hc29 => ?_) (fun hc29 => ?_)
    ·exfalso
     omega
    ·refine wp_skip' (to_k0 (fun _ _ h => h) (hK6 _ _ _ _ _ ?_))
     clear hK6
     refine wp_seq' fun K9 hK9 => ?_
     refine wp_reg ?_
     refine ol_r (r_move rfl) rfl ?_
     refine ol_r (r_lss rfl rfl) rfl ?_
     refine ol_r (r_assign rfl) rfl ?_
     refine ol_nil (to_k0 (fun _ _ h => h) (hK9 _ _ _ _ _ ?_))
     clear hK9
     refine wp_seq' fun K10 hK10 => ?_
     refine wp_reg ?_
     refine ol_r (r_move rfl) rfl ?_
     refine ol_r (r_conv (k2 := .u64) rfl (by kernel_rfl) (by kernel_rfl) (wrap_u64 (by omega))) rfl ?_
     refine ol_r (r_assign rfl) rfl ?_
     refine ol_nil (to_k0 (fun _ _ h => h) (hK10 _ _ _ _ _ ?_))
     clear hK10
     refine wp_seq' fun K11 hK11 => ?_
     refine wp_seq' fun K12 hK12 => ?_
     refine wp_reg ?_
     refine ol_r (r_move rfl) rfl ?_
     refine ol_nil (to_k0 (fun _ _ h => h) (hK12 _ _ _ _ _ ?_))
     clear hK12
     refine wp_condD rfl (fun hc34 => ?_) (fun hc34 => ?_)
     ·exfalso
      omega
     ·refine wp_skip' (to_k0 (fun _ _ h => h) (hK11 _ _ _ _ _ ?_))
      clear hK11
      refine wp_seq' fun K13 hK13 => ?_
      refine wp_reg ?_
      refine ol_r (r_move rfl) rfl ?_
      refine ol_r (r_move rfl) rfl ?_
      refine ol_r (r_conv (k2 := .u64) rfl (by kernel_rfl) (by kernel_rfl) (wrap_u64 (by omega))) rfl ?_
      refine ol_call rfl rfl cb94 rfl (fun w1 hb1 hs1 hB1 => Calls.mono (bits_MulI a num _ (by omega) (by omega)) ?_)
      rintro e w2 ⟨rfl, hb2⟩
      refine After.below rfl hb1 hs1 hB1 hb2 ?_
      clear hb2 hB1 hs1 hb1 w2 w1
      refine ol_r (r_move rfl) rfl ?_
      refine ol_r (r_extract rfl rfl) rfl ?_
      refine ol_r (r_extract rfl rfl) rfl ?_
      refine ol_r (r_assign rfl) rfl ?_
      refine ol_r (r_assign rfl) rfl ?_
      refine ol_nil (to_k0 (fun _ _ h => h) (hK13 _ _ _ _ _ ?_))
      clear hK13
      refine wp_seq' fun K14 hK14 => ?_
      refine wp_seq' fun K15 hK15 => ?_
      refine wp_reg ?_
      refine ol_r (r_move rfl) rfl ?_
      refine ol_r (r_move rfl) rfl ?_
      refine ol_r (r_conv (k2 := .u64) rfl (by kernel_rfl) (by kernel_rfl) (wrap_u64 (by omega))) rfl ?_
      refine ol_r (r_geq rfl rfl) rfl ?_
      refine ol_nil (to_k0 (fun _ _ h => h) (hK15 _ _ _ _ _ ?_))
      clear hK15
      refine wp_condD rfl (fun hc47 => ?_) (fun hc47 => ?_)
      ·exfalso
       omega
      ·refine wp_skip' (to_k0 (fun _ _ h => h) (hK14 _ _ _ _ _ ?_))
       clear hK14
       refine wp_seq' fun K16 hK16 => ?_
       refine wp_reg ?_
       refine ol_r (r_move rfl) rfl ?_
       refine ol_r (r_move rfl) rfl ?_
       refine ol_r (r_move rfl) rfl ?_
       refine ol_r (r_conv (k2 := .u64) rfl (by kernel_rfl) (by kernel_rfl) (wrap_u64 (by omega))) rfl ?_
       refine ol_call rfl rfl cb95 rfl (fun w1 hb1 hs1 hB1 => Calls.mono (bits_DivI (a * num) den _ h0 (by omega) hhi) ?_)
       rintro e w2 ⟨rfl, hb2⟩
       refine After.below rfl hb1 hs1 hB1 hb2 ?_
       clear hb2 hB1 hs1 hb1 w2 w1
       refine ol_r (r_move rfl) rfl ?_
       refine ol_r (r_extract rfl rfl) rfl ?_
       refine ol_r (r_extract rfl rfl) rfl ?_
       refine ol_r (r_assign rfl) rfl ?_
       refine ol_r (r_assign rfl) rfl ?_
       refine ol_nil (to_k0 (fun _ _ h => h) (hK16 _ _ _ _ _ ?_))
       clear hK16
       refine wp_seq' fun K17 hK17 => ?_
       refine wp_seq' fun K18 hK18 => ?_
       refine wp_regq (by kernel_rfl) (by kernel_rfl) ?_
       refine ql_r (r_move rfl) rfl ?_
       refine ql_r (r_gtr rfl rfl) rfl ?_
       refine ql_r (r_move rfl) rfl ?_
       refine ql_split (d := 58) rfl (fun hs58 => ?_) (fun hs58 => ?_)
       ·have phs58 := hs58; try simp only [decide_eq_true_eq, decide_eq_false_iff_not, Bool.not_eq_true', Bool.not_eq_false', Bool.not_true, Bool.not_false] at phs58
        refine ql_g rfl rfl hs58 ?_
        refine ql_r (r_move rfl) rfl ?_
        refine ql_g rfl rfl hs58 ?_
        refine ql_r (r_leq rfl rfl) rfl ?_
        refine ql_r (r_pickT rfl hs58 rfl) rfl ?_
        refine ql_r (r_move rfl) rfl ?_
        refine ql_split (d := 62) rfl (fun hs62 => ?_) (fun hs62 => ?_)
        ·have phs62 := hs62; try simp only [decide_eq_true_eq, decide_eq_false_iff_not, Bool.not_eq_true', Bool.not_eq_false', Bool.not_true, Bool.not_false] at phs62
         refine ql_g rfl rfl hs62 ?_
         refine ql_r (r_move rfl) rfl ?_
         refine ql_g rfl rfl hs62 ?_
         refine ql_r (r_move rfl) rfl ?_
         refine ql_g rfl rfl hs62 ?_
         refine ql_ixo (id := 18) encWay waysL rfl rfl rfl rfl sl163 (by omega) (by omega) rfl fun x65 hx65 => ?_
         try simp only [Int.toNat_natCast] at hx65
         try simp only [Int.toNat_natCast] at hx65
         refine ql_g rfl rfl hs62 ?_
         have h65 := Option.some.inj (hx65.symm.trans (show _ = some ((1, 123) : Int × FuncId) from rfl))
         subst h65
         refine ql_r (r_faO (id := 18) rfl rfl rfl hx65 fl168_1) rfl ?_
         refine ql_g rfl rfl hs62 ?_
         refine ql_r (r_ldw rfl (fun w1 hb1 hs1 hB1 => ld_ownF (id := 18) (o := 1) hs1 rfl rfl sc166 hx65 rfl)) rfl ?_
         refine ql_g rfl rfl hs62 ?_
         refine ql_r (r_move rfl) rfl ?_
         refine ql_g rfl rfl hs62 ?_
         refine ql_r (r_move rfl) rfl ?_
         refine ql_g rfl rfl hs62 ?_
         refine ql_r (r_move rfl) rfl ?_
         refine ql_g rfl rfl hs62 ?_
         refine ql_r (r_move rfl) rfl ?_
         refine ql_g rfl rfl hs62 ?_
         refine ql_r (r_conv (k2 := .u64) rfl (by kernel_rfl) (by kernel_rfl) (wrap_u64 (by omega))) rfl ?_
         refine ql_g rfl rfl hs62 ?_
         refine ql_r (r_move rfl) rfl ?_
         refine ql_g rfl rfl hs62 ?_
         refine ql_r (r_subg _ rfl rfl (wrap_u64 (by omega))) rfl ?_
         refine ql_g rfl rfl hs62 ?_
         refine ql_call rfl rfl cb96 rfl (fun w1 hb1 hs1 hB1 => cmp_Compareu _ _ _) ?_
         refine ql_g rfl rfl hs62 ?_
         refine ql_call rfl rfl cb123 rfl (fun w1 hb1 hs1 hB1 => way_downG _ _ _ _) ?_
         refine ql_r (r_pickT rfl hs62 rfl) rfl ?_
         refine ql_nil (to_k0 (fun _ _ h => h) (hK18 _ _ _ _ _ ?_))
         clear hK18
         refine wp_condD rfl (fun hc77 => ?_) (fun hc77 => ?_)
         ·refine wp_reg ?_
          refine ol_r (r_move rfl) rfl ?_
          refine ol_r (r_addg _ rfl rfl (wrap_u64 (by omega))) rfl ?_
          refine ol_r (r_assign rfl) rfl ?_
          refine ol_nil (to_k0 (fun _ _ h => h) (hK17 _ _ _ _ _ ?_))
          clear hK17
          refine wp_seq' fun K19 hK19 => ?_
          refine wp_seq' fun K20 hK20 => ?_
          refine wp_reg ?_
          refine ol_r (r_move rfl) rfl ?_
          refine ol_r (r_gtr rfl rfl) rfl ?_
          refine ol_nil (to_k0 (fun _ _ h => h) (hK20 _ _ _ _ _ ?_))
          clear hK20
          refine wp_condD rfl (fun hc81 => ?_) (fun hc81 => ?_)
          ·exfalso
           omega
          ·refine wp_skip' (to_k0 (fun _ _ h => h) (hK19 _ _ _ _ _ ?_))
           clear hK19
           refine wp_seq' fun K21 hK21 => ?_
           refine wp_seq' fun K22 hK22 => ?_
           refine wp_reg ?_
           refine ol_r (r_move rfl) rfl ?_
           refine ol_nil (to_k0 (fun _ _ h => h) (hK22 _ _ _ _ _ ?_))
           clear hK22
           refine wp_condD rfl (fun hc82 => ?_) (fun hc82 => ?_)
           ·exfalso
            omega
           ·refine wp_skip' (to_k0 (fun _ _ h => h) (hK21 _ _ _ _ _ ?_))
            clear hK21
            refine wp_seq' fun K23 hK23 => ?_
            refine wp_reg ?_
            refine ol_r (r_move rfl) rfl ?_
            refine ol_r (r_conv (k2 := .i64) rfl (by kernel_rfl) (by kernel_rfl) (IntWalk.i64_in _ (by omega))) rfl ?_
            refine ol_r (r_assign rfl) rfl ?_
            refine ol_r (r_assign rfl) rfl ?_
            refine ol_nil (to_k0 (fun _ _ h => h) (hK23 _ _ _ _ _ ?_))
            clear hK23
            refine hQ.ret (rvs2 (rv_t rfl) (rv_t rfl)) (fun _ _ h => h) fun w hb hs hB hkd => ?_
            first
              | (exfalso; omega)
         ·refine wp_skip' (to_k0 (fun _ _ h => h) (hK17 _ _ _ _ _ ?_))
          clear hK17
          refine wp_seq' fun K24 hK24 => ?_
          refine wp_seq' fun K25 hK25 => ?_
          refine wp_reg ?_
          refine ol_r (r_move rfl) rfl ?_
          refine ol_r (r_gtr rfl rfl) rfl ?_
          refine ol_nil (to_k0 (fun _ _ h => h) (hK25 _ _ _ _ _ ?_))
          clear hK25
          refine wp_condD rfl (fun hc81 => ?_) (fun hc81 => ?_)
          ·exfalso
           omega
          ·refine wp_skip' (to_k0 (fun _ _ h => h) (hK24 _ _ _ _ _ ?_))
           clear hK24
           refine wp_seq' fun K26 hK26 => ?_
           refine wp_seq' fun K27 hK27 => ?_
           refine wp_reg ?_
           refine ol_r (r_move rfl) rfl ?_
           refine ol_nil (to_k0 (fun _ _ h => h) (hK27 _ _ _ _ _ ?_))
           clear hK27
           refine wp_condD rfl (fun hc82 => ?_) (fun hc82 => ?_)
           ·exfalso
            omega
           ·refine wp_skip' (to_k0 (fun _ _ h => h) (hK26 _ _ _ _ _ ?_))
            clear hK26
            refine wp_seq' fun K28 hK28 => ?_
            refine wp_reg ?_
            refine ol_r (r_move rfl) rfl ?_
            refine ol_r (r_conv (k2 := .i64) rfl (by kernel_rfl) (by kernel_rfl) (IntWalk.i64_in _ (by omega))) rfl ?_
            refine ol_r (r_assign rfl) rfl ?_
            refine ol_r (r_assign rfl) rfl ?_
            refine ol_nil (to_k0 (fun _ _ h => h) (hK28 _ _ _ _ _ ?_))
            clear hK28
            refine hQ.ret (rvs2 (rv_t rfl) (rv_t rfl)) (fun _ _ h => h) fun w hb hs hB hkd => ?_
            first
              | exact ⟨rfl, hb⟩
        ·have phs62 := hs62; try simp only [decide_eq_true_eq, decide_eq_false_iff_not, Bool.not_eq_true', Bool.not_eq_false', Bool.not_true, Bool.not_false] at phs62
         refine ql_s rfl rfl hs62 rfl ?_
         refine ql_s rfl rfl hs62 rfl ?_
         refine ql_s rfl rfl hs62 rfl ?_
         refine ql_s rfl rfl hs62 rfl ?_
         refine ql_s rfl rfl hs62 rfl ?_
         refine ql_s rfl rfl hs62 rfl ?_
         refine ql_s rfl rfl hs62 rfl ?_
         refine ql_s rfl rfl hs62 rfl ?_
         refine ql_s rfl rfl hs62 rfl ?_
         refine ql_s rfl rfl hs62 rfl ?_
         refine ql_s rfl rfl hs62 rfl ?_
         refine ql_s rfl rfl hs62 rfl ?_
         refine ql_s rfl rfl hs62 rfl ?_
         refine ql_s rfl rfl hs62 rfl ?_
         refine ql_r (r_pickF rfl hs62 rfl) rfl ?_
         refine ql_nil (to_k0 (fun _ _ h => h) (hK18 _ _ _ _ _ ?_))
         clear hK18
         refine wp_condF rfl ?_
         refine wp_skip' (to_k0 (fun _ _ h => h) (hK17 _ _ _ _ _ ?_))
         clear hK17
         refine wp_seq' fun K29 hK29 => ?_
         refine wp_seq' fun K30 hK30 => ?_
         refine wp_reg ?_
         refine ol_r (r_move rfl) rfl ?_
         refine ol_r (r_gtr rfl rfl) rfl ?_
         refine ol_nil (to_k0 (fun _ _ h => h) (hK30 _ _ _ _ _ ?_))
         clear hK30
         refine wp_condD rfl (fun hc81 => ?_) (fun hc81 => ?_)
         ·exfalso
          omega
         ·refine wp_skip' (to_k0 (fun _ _ h => h) (hK29 _ _ _ _ _ ?_))
          clear hK29
          refine wp_seq' fun K31 hK31 => ?_
          refine wp_seq' fun K32 hK32 => ?_
          refine wp_reg ?_
          refine ol_r (r_move rfl) rfl ?_
          refine ol_nil (to_k0 (fun _ _ h => h) (hK32 _ _ _ _ _ ?_))
          clear hK32
          refine wp_condD rfl (fun hc82 => ?_) (fun hc82 => ?_)
          ·exfalso
           omega
          ·refine wp_skip' (to_k0 (fun _ _ h => h) (hK31 _ _ _ _ _ ?_))
           clear hK31
           refine wp_seq' fun K33 hK33 => ?_
           refine wp_reg ?_
           refine ol_r (r_move rfl) rfl ?_
           refine ol_r (r_conv (k2 := .i64) rfl (by kernel_rfl) (by kernel_rfl) (IntWalk.i64_in _ (by omega))) rfl ?_
           refine ol_r (r_assign rfl) rfl ?_
           refine ol_r (r_assign rfl) rfl ?_
           refine ol_nil (to_k0 (fun _ _ h => h) (hK33 _ _ _ _ _ ?_))
           clear hK33
           refine hQ.ret (rvs2 (rv_t rfl) (rv_t rfl)) (fun _ _ h => h) fun w hb hs hB hkd => ?_
           first
             | exact ⟨rfl, hb⟩
       ·have phs58 := hs58; try simp only [decide_eq_true_eq, decide_eq_false_iff_not, Bool.not_eq_true', Bool.not_eq_false', Bool.not_true, Bool.not_false] at phs58
        refine ql_s rfl rfl hs58 rfl ?_
        refine ql_s rfl rfl hs58 rfl ?_
        refine ql_r (r_pickF rfl hs58 rfl) rfl ?_
        refine ql_r (r_move rfl) rfl ?_
        refine ql_s rfl rfl rfl rfl ?_
        refine ql_s rfl rfl rfl rfl ?_
        refine ql_s rfl rfl rfl rfl ?_
        refine ql_s rfl rfl rfl rfl ?_
        refine ql_s rfl rfl rfl rfl ?_
        refine ql_s rfl rfl rfl rfl ?_
        refine ql_s rfl rfl rfl rfl ?_
        refine ql_s rfl rfl rfl rfl ?_
        refine ql_s rfl rfl rfl rfl ?_
        refine ql_s rfl rfl rfl rfl ?_
        refine ql_s rfl rfl rfl rfl ?_
        refine ql_s rfl rfl rfl rfl ?_
        refine ql_s rfl rfl rfl rfl ?_
        refine ql_s rfl rfl rfl rfl ?_
        refine ql_r (r_pickF rfl rfl rfl) rfl ?_
        refine ql_nil (to_k0 (fun _ _ h => h) (hK18 _ _ _ _ _ ?_))
        clear hK18
        refine wp_condF rfl ?_
        refine wp_skip' (to_k0 (fun _ _ h => h) (hK17 _ _ _ _ _ ?_))
        clear hK17
        refine wp_seq' fun K34 hK34 => ?_
        refine wp_seq' fun K35 hK35 => ?_
        refine wp_reg ?_
        refine ol_r (r_move rfl) rfl ?_
        refine ol_r (r_gtr rfl rfl) rfl ?_
        refine ol_nil (to_k0 (fun _ _ h => h) (hK35 _ _ _ _ _ ?_))
        clear hK35
        refine wp_condD rfl (fun hc81 => ?_) (fun hc81 => ?_)
        ·exfalso
         omega
        ·refine wp_skip' (to_k0 (fun _ _ h => h) (hK34 _ _ _ _ _ ?_))
         clear hK34
         refine wp_seq' fun K36 hK36 => ?_
         refine wp_seq' fun K37 hK37 => ?_
         refine wp_reg ?_
         refine ol_r (r_move rfl) rfl ?_
         refine ol_nil (to_k0 (fun _ _ h => h) (hK37 _ _ _ _ _ ?_))
         clear hK37
         refine wp_condD rfl (fun hc82 => ?_) (fun hc82 => ?_)
         ·exfalso
          omega
         ·refine wp_skip' (to_k0 (fun _ _ h => h) (hK36 _ _ _ _ _ ?_))
          clear hK36
          refine wp_seq' fun K38 hK38 => ?_
          refine wp_reg ?_
          refine ol_r (r_move rfl) rfl ?_
          refine ol_r (r_conv (k2 := .i64) rfl (by kernel_rfl) (by kernel_rfl) (IntWalk.i64_in _ (by omega))) rfl ?_
          refine ol_r (r_assign rfl) rfl ?_
          refine ol_r (r_assign rfl) rfl ?_
          refine ol_nil (to_k0 (fun _ _ h => h) (hK38 _ _ _ _ _ ?_))
          clear hK38
          refine hQ.ret (rvs2 (rv_t rfl) (rv_t rfl)) (fun _ _ h => h) fun w hb hs hB hkd => ?_
          first
            | exact ⟨rfl, hb⟩
end Go.Proofs.Ytfbmkepogcimlaa

/-
  The steps of an activity: the iterator.
-/


namespace Go.Proofs.Ytfbmkepogcimlaa
open Go Go.RowKit Hx
set_option linter.unusedVariables false
set_option linter.unusedSimpArgs false
set_option maxRecDepth 8000
theorem steps_iter (A : ActV) (B b : Nat) (w0 : World) (hA : Rd encSmp B w0 A.sa A.sn A.sc A.ss) :
    Iter Try.prog 130 [.pointer (some ⟨b, 0, none⟩)] (fun x : SmpR × SmpR => [.agg #[.int .i64 x.1.at_, .int .i64 x.1.x, .int .i64 x.1.y, .int .i64 x.1.z, .int .i64 x.1.pulse, .int .i64 x.1.power, .int .i64 x.1.steps], .agg #[.int .i64 x.2.at_, .int .i64 x.2.x, .int .i64 x.2.y, .int .i64 x.2.z, .int .i64 x.2.pulse, .int .i64 x.2.power, .int .i64 x.2.steps]]) (stepsL A.ss) (fun W => Below B w0 W ∧ (∃ T, Sat B W [(100, .blk b [(3, .slice A.sa A.sn A.sc)] T)]) ∧ B ≤ W.heap.size) := by
  intro l J Jx W hRq hJb hJx hY h0
  have hsn := hA.len
  have hsf := hA.fit
  have hlen := stepsL_len A.ss
  refine enterI (n := 25) (args := [_, _]) Try.func130 rfl rfl rfl rfl fun Q hQ => ?_
  refine wp_seq' fun K1 hK1 => ?_
  refine wp_reg ?_
  refine ol_r (r_assign rfl) rfl ?_
  refine ol_nil (to_k0 (fun _ _ h => h) (hK1 _ _ _ _ _ ?_))
  clear hK1
  refine wp_block' ?_
  refine wp_loopI (J := J) (fun k => [(3, .int .i64 (k + 1)), (0, .func (.yield l) #[] #[]), (1, .pointer (some ⟨b, 0, none⟩))]) (fun k => k ≤ (stepsL A.ss).length) (fun k => (stepsL A.ss).length - k) (0) ?_ ?_ ?_ ?_
  ·try dsimp only
   omega
  ·exact (sub_cons rfl (sub_cons rfl (sub_cons rfl sub_nil)))
  ·intro w hb hB
   exact hJb 0 W w h0 hb
  ·intro k W1 hI hJ
   obtain ⟨q1, ⟨T, q2⟩, q3⟩ := hRq k W1 hJ
   have hc : Blk W1.heap.size W1 b [(3, .slice A.sa A.sn A.sc)] := q2.blk (id := 100) rfl
   have hS := hA.at q1 q3
   intro K2 hK2
   refine wp_seq' fun K3 hK3 => ?_
   refine wp_seq' fun K4 hK4 => ?_
   refine wp_reg ?_
   refine ol_r (r_move rfl) rfl ?_
   refine ol_r (r_fa (o' := 3) rfl fl57_3 rfl) rfl ?_
   refine ol_r (r_ldw rfl (fun w1 hb1 hs1 hB1 => Blk.loads (o := 3) hc hb1 sc53 rfl)) rfl ?_
   refine ol_r (r_len rfl sl53) rfl ?_
   refine ol_r (r_lss rfl rfl) rfl ?_
   refine ol_nil (to_k0 (fun _ _ h => h) (hK4 _ _ _ _ _ ?_))
   clear hK4
   refine wp_condD rfl (fun hc8 => ?_) (fun hc8 => ?_)
   ·refine wp_skip' (to_k0 (fun _ _ h => h) (hK3 _ _ _ _ _ ?_))
    clear hK3
    refine wp_seq' fun K5 hK5 => ?_
    refine wp_block' ?_
    refine wp_seq' fun K6 hK6 => ?_
    refine wp_regti 12 rfl (by kernel_rfl) (by kernel_rfl) ?_
    simp only [List.take_succ_cons, List.take_zero, List.drop_succ_cons, List.drop_zero]
    refine sli_r (r_move rfl) rfl ?_
    refine sli_r (r_fa (o' := 3) rfl fl57_3 rfl) rfl ?_
    refine sli_r (r_ldw rfl (fun w1 hb1 hs1 hB1 => Blk.loads (o := 3) hc hb1 sc53 rfl)) rfl ?_
    refine sli_r (r_move rfl) rfl ?_
    refine sli_r (r_sub rfl rfl (by omega)) rfl ?_
    refine sli_ixr hS rfl rfl sl53 (by omega) rfl fun x16 hx16 => ?_
    try simp only [Int.toNat_natCast] at hx16
    refine sli_r (r_ldw rfl (fun w1 hb1 hs1 hB1 => Rd.loads hS ty70 hx16 hb1)) rfl ?_
    refine sli_r (r_fa (o' := 3) rfl fl57_3 rfl) rfl ?_
    refine sli_r (r_ldw rfl (fun w1 hb1 hs1 hB1 => Blk.loads (o := 3) hc hb1 sc53 rfl)) rfl ?_
    refine sli_r (r_move rfl) rfl ?_
    refine sli_ixr hS rfl rfl sl53 (by omega) rfl fun x21 hx21 => ?_
    try simp only [Int.toNat_natCast] at hx21
    refine sli_r (r_ldw rfl (fun w1 hb1 hs1 hB1 => Rd.loads hS ty70 hx21 hb1)) rfl ?_
    refine sli_nil ?_
    refine oli_yield rfl rfl rfl rfl rfl (fun w1 hb1 hs1 hB1 => ?_)
    obtain ⟨fn, tm, asg, bo, hy, hR⟩ := hY k (x16, x21) w1 (stepsL_get (by rw [← hx16]; congr 1; omega) (by rw [← hx21]; congr 1)) (hJb k W1 w1 hJ hb1)
    refine ⟨fn, tm, asg, bo, hy, hR.mono ?_⟩
    intro e w2 he
    obtain ⟨bb, rfl, hT, hF⟩ : ∃ bb, e = .returned (.bool bb) ∧ (bb = true → J (k + 1) w2) ∧ (bb = false → Jx w2) := by
      rcases he with ⟨rfl, h⟩ | ⟨rfl, h⟩
      · exact ⟨true, rfl, fun _ => h, fun h => by cases h⟩
      · exact ⟨false, rfl, fun h => (by cases h), fun _ => h⟩
    refine ⟨_, rfl, ?_⟩
    refine oli_r (r_not rfl) rfl ?_
    refine oli_nil (to_k0 (fun _ _ h => h) (hK6 _ _ _ _ _ ?_))
    clear hK6
    refine wp_condNB rfl (fun hc24 => ?_) (fun hc24 => ?_)
    ·refine hQ.ret (fun _ _ h => h) fun w hb hs hB => ?_
     exact .inr (hJx _ _ (hF hc24) hb)
    ·refine wp_skip' (to_k0 (fun _ _ h => h) (hK5 _ _ _ _ _ ?_))
     clear hK5
     refine wp_reg ?_
     refine ol_r (r_move rfl) rfl ?_
     refine ol_r (r_add rfl rfl (by omega)) rfl ?_
     refine ol_r (r_assign rfl) rfl ?_
     refine ol_nil (to_k0 (fun _ _ h => h) (hK2 (k + 1) _ _ _ _ ?_ ?_ (by exact (sub_cons rfl (sub_cons rfl (sub_cons rfl sub_nil)))) ?_))
     ·try dsimp only
      omega
     ·try dsimp only
      omega
     ·intro w hb hB
      exact hJb (k + 1) _ w (hT hc24) hb
   ·refine wp_exit' (hQ.fall (fun _ _ h => h) fun w hb hs hB => ?_)
    have hk : k = (stepsL A.ss).length := by omega
    exact .inl (hk ▸ hJb k _ w hJ hb)
theorem track_Steps (A : ActV) (w : World) (hA : A.Ok w.heap.size w) :
    Calls Try.prog 100 #[.agg #[.string A.name, .int .i64 A.sport, .int .i64 A.start, .slice A.sa A.sn A.sc, .slice A.la A.ln A.lc, .slice A.ta A.tn A.tc]] w fun e w' => ∃ b T, e = .returned (.func (.func 130) #[] #[.pointer (some ⟨b, 0, none⟩)]) ∧ Below w.heap.size w w' ∧ Sat w.heap.size w' [(1001, .blk b [(3, .slice A.sa A.sn A.sc)] T)] := by
  refine enterQ (N := 4) (C := fun _ => True) (H := []) (B := w.heap.size) (args := [_]) Try.func100 rfl rfl rfl (Nat.le_refl _) (Sat.nil _ _) fun Q hQ => ?_
  refine wp_seq' fun K1 hK1 => ?_
  refine wp_reg ?_
  refine ol_box 1 rfl rfl rfl fun b1 => ?_
  refine ol_r (r_assign rfl) rfl ?_
  refine ol_nil (to_k0 (fun _ _ h => h) (hK1 _ _ _ _ _ ?_))
  clear hK1
  refine wp_seq' fun K2 hK2 => ?_
  refine wp_reg ?_
  refine ol_r (r_func rfl) rfl ?_
  refine ol_r (r_assign rfl) rfl ?_
  refine ol_nil (to_k0 (fun _ _ h => h) (hK2 _ _ _ _ _ ?_))
  clear hK2
  refine hQ.ret (rvs1 (rv_t rfl)) (fun _ _ h => h) fun w hb hs hB hkd => ?_
  exact ⟨_, _, rfl, hb, hs.one 1 1001 rfl ⟨rfl, rfl, Sub.out (sub_cons rfl sub_nil)⟩⟩
end Go.Proofs.Ytfbmkepogcimlaa

/-
  Steps across gates: what crosses; the program's side.
-/



namespace Go.Proofs.Ytfbmkepogcimlaa
open Go Go.RowKit Hx
set_option linter.unusedVariables false
set_option linter.unusedSimpArgs false
set_option maxRecDepth 8000
def encPart : Enc PartR := { size := 2, cells := fun x => [.int .i64 x.num, .int .i64 x.den], val := fun x => .agg #[.int .i64 x.num, .int .i64 x.den], len := fun _ => rfl, ones := fun _ u h => by simp at h; rcases h with rfl | rfl <;> rfl, pos := by decide, vc := fun _ => rfl }
theorem ty186 : Ty Try.prog 186 encPart := .inr ⟨ag186, fun _ => rfl⟩
def encCr : Enc CrossR := { size := 3, cells := fun x => [.int .i64 x.gate, .int .i64 x.step, .int .i64 x.at_], val := fun x => .agg #[.int .i64 x.gate, .int .i64 x.step, .int .i64 x.at_], len := fun _ => rfl, ones := fun _ u h => by simp at h; rcases h with rfl | rfl | rfl <;> rfl, pos := by decide, vc := fun _ => rfl }
theorem ty137 : Ty Try.prog 137 encCr := .inr ⟨ag137, fun _ => rfl⟩
theorem match_sideOf (ax ay bx by_ x y : Int) (w : World) (h1 : -100000000 ≤ ax ∧ ax ≤ 100000000) (h2 : -100000000 ≤ ay ∧ ay ≤ 100000000) (h3 : -100000000 ≤ bx ∧ bx ≤ 100000000) (h4 : -100000000 ≤ by_ ∧ by_ ≤ 100000000) (h5 : -100000000 ≤ x ∧ x ≤ 100000000) (h6 : -100000000 ≤ y ∧ y ≤ 100000000) :
    Calls Try.prog 132 #[.agg #[.int .i64 ax, .int .i64 ay], .agg #[.int .i64 bx, .int .i64 by_], .agg #[.int .i64 x, .int .i64 y]] w fun e w' => e = .returned (.int .i64 (side6 ax ay bx by_ x y)) ∧ Below w.heap.size w w' := by
  have m1 := mul_ab (a := bx - ax) (b := y - ay) (by omega) (by omega)
  have m2 := mul_ab (a := by_ - ay) (b := x - ax) (by omega) (by omega)
  refine enterQ (N := 30) (C := fun _ => True) (H := []) (B := w.heap.size) (args := [_, _, _]) Try.func132 rfl rfl rfl (Nat.le_refl _) (Sat.nil _ _) fun Q hQ => ?_
  refine wp_seq' fun K1 hK1 => ?_
  refine wp_reg ?_
  refine ol_box 3 rfl rfl rfl fun b3 => ?_
  refine ol_box 4 rfl rfl rfl fun b4 => ?_
  refine ol_box 5 rfl rfl rfl fun b5 => ?_
  refine ol_r (r_assign rfl) rfl ?_
  refine ol_nil (to_k0 (fun _ _ h => h) (hK1 _ _ _ _ _ ?_))
  clear hK1
  refine wp_seq' fun K2 hK2 => ?_
  refine wp_reg ?_
  refine ol_r (r_fa (o' := 0) rfl fl177_0 rfl) rfl ?_
  refine ol_r (r_ld (id := 4) rfl rfl rfl sc3) rfl ?_
  refine ol_r (r_fa (o' := 0) rfl fl177_0 rfl) rfl ?_
  refine ol_r (r_ld (id := 3) rfl rfl rfl sc3) rfl ?_
  refine ol_r (r_sub rfl rfl (by omega)) rfl ?_
  refine ol_r (r_fa (o' := 1) rfl fl177_1 rfl) rfl ?_
  refine ol_r (r_ld (id := 5) rfl rfl rfl sc3) rfl ?_
  refine ol_r (r_fa (o' := 1) rfl fl177_1 rfl) rfl ?_
  refine ol_r (r_ld (id := 3) rfl rfl rfl sc3) rfl ?_
  refine ol_r (r_sub rfl rfl (by omega)) rfl ?_
  refine ol_r (r_mul rfl rfl (by omega)) rfl ?_
  refine ol_r (r_fa (o' := 1) rfl fl177_1 rfl) rfl ?_
  refine ol_r (r_ld (id := 4) rfl rfl rfl sc3) rfl ?_
  refine ol_r (r_fa (o' := 1) rfl fl177_1 rfl) rfl ?_
  refine ol_r (r_ld (id := 3) rfl rfl rfl sc3) rfl ?_
  refine ol_r (r_sub rfl rfl (by omega)) rfl ?_
  refine ol_r (r_fa (o' := 0) rfl fl177_0 rfl) rfl ?_
  refine ol_r (r_ld (id := 5) rfl rfl rfl sc3) rfl ?_
  refine ol_r (r_fa (o' := 0) rfl fl177_0 rfl) rfl ?_
  refine ol_r (r_ld (id := 3) rfl rfl rfl sc3) rfl ?_
  refine ol_r (r_sub rfl rfl (by omega)) rfl ?_
  refine ol_r (r_mul rfl rfl (by omega)) rfl ?_
  refine ol_r (r_sub rfl rfl (by omega)) rfl ?_
  refine ol_r (r_assign rfl) rfl ?_
  refine ol_nil (to_k0 (fun _ _ h => h) (hK2 _ _ _ _ _ ?_))
  clear hK2
  refine hQ.ret (rvs1 (rv_t rfl)) (fun _ _ h => h) fun w hb hs hB hkd => ?_
  exact ⟨rfl, hb⟩
theorem side6_bd {ax ay bx by_ x y : Int} (h1 : -100000000 ≤ ax ∧ ax ≤ 100000000) (h2 : -100000000 ≤ ay ∧ ay ≤ 100000000) (h3 : -100000000 ≤ bx ∧ bx ≤ 100000000) (h4 : -100000000 ≤ by_ ∧ by_ ≤ 100000000) (h5 : -100000000 ≤ x ∧ x ≤ 100000000) (h6 : -100000000 ≤ y ∧ y ≤ 100000000) : -80000000000000000 ≤ side6 ax ay bx by_ x y ∧ side6 ax ay bx by_ x y ≤ 80000000000000000 := by
  have m1 := mul_ab (a := bx - ax) (b := y - ay) (by omega) (by omega)
  have m2 := mul_ab (a := by_ - ay) (b := x - ax) (by omega) (by omega)
  unfold side6
  omega
theorem match_pointOf (p : SmpR) (w : World) : Calls Try.prog 131 #[.agg #[.int .i64 p.at_, .int .i64 p.x, .int .i64 p.y, .int .i64 p.z, .int .i64 p.pulse, .int .i64 p.power, .int .i64 p.steps]] w fun e w' => e = .returned (.agg #[.int .i64 p.x, .int .i64 p.y]) ∧ Below w.heap.size w w' := by
  refine enterQ (N := 8) (C := fun _ => True) (H := []) (B := w.heap.size) (args := [_]) Try.func131 rfl rfl rfl (Nat.le_refl _) (Sat.nil _ _) fun Q hQ => ?_
  refine wp_seq' fun K1 hK1 => ?_
  refine wp_reg ?_
  refine ol_box 1 rfl rfl rfl fun b1 => ?_
  refine ol_alloc 2 z177 rfl fun b2 => ?_
  refine ol_nil (to_k0 (fun _ _ h => h) (hK1 _ _ _ _ _ ?_))
  clear hK1
  refine wp_seq' fun K2 hK2 => ?_
  refine wp_reg ?_
  refine ol_r (r_fa (o' := 1) rfl fl70_1 rfl) rfl ?_
  refine ol_r (r_ld (id := 1) rfl rfl rfl sc3) rfl ?_
  refine ol_r (r_fa (o' := 2) rfl fl70_2 rfl) rfl ?_
  refine ol_r (r_ld (id := 1) rfl rfl rfl sc3) rfl ?_
  refine ol_r (r_build rfl (fun _ => bd177_0_1 _ _ _)) rfl ?_
  refine ol_store (id := 2) rfl rfl rfl rfl sz177 rfl rfl (by first | decide | exact Nat.zero_lt_succ _ | simp) ?_
  refine ol_nil (to_k0 (fun _ _ h => h) (hK2 _ _ _ _ _ ?_))
  clear hK2
  refine hQ.ret (rvs1 (rv_c (id := 2) (n := 2) rfl rfl ag177 rfl)) (fun _ _ h => h) fun w hb hs hB hkd => ?_
  exact ⟨rfl, hb⟩
theorem gate_bd {g : GateR} (h : ∀ p, fG p g = 0) : ((-100000000 ≤ g.ax ∧ g.ax ≤ 100000000) ∧ (-100000000 ≤ g.ay ∧ g.ay ≤ 100000000)) ∧ ((-100000000 ≤ g.bx ∧ g.bx ≤ 100000000) ∧ (-100000000 ≤ g.by_ ∧ g.by_ ≤ 100000000)) := by
  obtain ⟨h1, h2, _⟩ := fG_inv (h none)
  unfold ptB at h1 h2
  rw [Bool.and_eq_true] at h1 h2
  exact ⟨⟨inB_iff.1 h1.1, inB_iff.1 h1.2⟩, ⟨inB_iff.1 h2.1, inB_iff.1 h2.2⟩⟩
theorem match_crosses (g : GateR) (p q : SmpR) (w : World) (hg : ∀ o, fG o g = 0) (hp : PlaceOk p) (hq : PlaceOk q) :
    Calls Try.prog 101 #[encGate.val g, .agg #[.int .i64 p.at_, .int .i64 p.x, .int .i64 p.y, .int .i64 p.z, .int .i64 p.pulse, .int .i64 p.power, .int .i64 p.steps], .agg #[.int .i64 q.at_, .int .i64 q.x, .int .i64 q.y, .int .i64 q.z, .int .i64 q.pulse, .int .i64 q.power, .int .i64 q.steps]] w fun e w' => e = .returned (.tuple #[.agg #[.int .i64 (partOf g p q).num, .int .i64 (partOf g p q).den], .bool (crB g p q)]) ∧ Below w.heap.size w w' := by
  obtain ⟨⟨g1, g2⟩, g3, g4⟩ := gate_bd hg
  obtain ⟨p1, p2⟩ := hp
  obtain ⟨q1, q2⟩ := hq
  have b1 := side6_bd g1 g2 g3 g4 p1 p2
  have b2 := side6_bd g1 g2 g3 g4 q1 q2
  refine enterQ (N := 68) (C := fun _ => True) (H := []) (B := w.heap.size) (args := [_, _, _]) Try.func101 rfl rfl rfl (Nat.le_refl _) (Sat.nil _ _) fun Q hQ => ?_
  refine wp_seq' fun K1 hK1 => ?_
  refine wp_reg ?_
  refine ol_box 3 rfl rfl rfl fun b3 => ?_
  refine ol_box 4 rfl rfl rfl fun b4 => ?_
  refine ol_box 5 rfl rfl rfl fun b5 => ?_
  refine ol_alloc 6 z186 rfl fun b6 => ?_
  refine ol_r (r_assign rfl) rfl ?_
  refine ol_nil (to_k0 (fun _ _ h => h) (hK1 _ _ _ _ _ ?_))
  clear hK1
  apply wp_seq_cutM (σ := Nat × Nat) (fun s => True) (fun s => [(8, .pointer (some ⟨s.1, 0, none⟩)), (9, .pointer (some ⟨s.2, 0, none⟩))]) [(3, _), (6, _), (7, _)] (fun s => [(8, .blk s.1 (pairs 0 [.int .i64 p.x, .int .i64 p.y]) 177), (9, .blk s.2 (pairs 0 [.int .i64 q.x, .int .i64 q.y]) 177)]) [(3, _), (4, _), (5, _), (6, _)]
  ·exact (sub_cons rfl (sub_cons rfl (sub_cons rfl sub_nil)))
  ·exact (subH_same rfl (subH_same rfl (subH_same rfl (subH_same rfl subH_nil))))
  ·intro K2 hK2
   refine wp_rega [(999, [(3, _), (4, _), (5, _), (6, _)])] (by kernel_rfl) ⟨.inr (subH_same rfl (subH_same rfl (subH_same rfl (subH_same rfl subH_nil)))), trivial⟩ ?_
   refine aq_r 0 999 rfl (by kernel_rfl) (by kernel_rfl) (by kernel_rfl) (.head _) (by kernel_rfl) (by kernel_rfl) rfl (r_lda (id := 4) (n := 7) rfl rfl rfl ag70) ?_
   refine aq_r 2 999 rfl (by kernel_rfl) (by kernel_rfl) (by kernel_rfl) (.head _) (by kernel_rfl) (by kernel_rfl) rfl (r_lda (id := 5) (n := 7) rfl rfl rfl ag70) ?_
   refine aq_three (i := 1) (j := 4) (l := 5) (by kernel_rfl) rfl rfl rfl (fun K3 hK3 => ?_) (fun K3 hK3 => ?_) (fun K3 hK3 => ?_)
   ·refine ol_call rfl rfl cb131 rfl (fun w1 hb1 hs1 hB1 => Calls.mono (match_pointOf _ _) ?_)
    rintro e w2 ⟨rfl, hb2⟩
    refine After.below rfl hb1 hs1 hB1 hb2 ?_
    clear hb2 hB1 hs1 hb1 w2 w1
    refine ol_nil (to_k0 (fun _ _ h => h) (hK3 _ _ ⟨.inr (by repeat' first | exact subH_nil | refine subH_same rfl ?_ | (refine subH_blk rfl (by repeat' first | exact sub_nil | refine sub_cons rfl ?_) ?_)), trivial⟩ ?_))
    clear hK3
    refine aq_three (i := 3) (j := 4) (l := 5) (by kernel_rfl) rfl rfl rfl (fun K4 hK4 => ?_) (fun K4 hK4 => ?_) (fun K4 hK4 => ?_)
    ·refine ol_call rfl rfl cb131 rfl (fun w1 hb1 hs1 hB1 => Calls.mono (match_pointOf _ _) ?_)
     rintro e w2 ⟨rfl, hb2⟩
     refine After.below rfl hb1 hs1 hB1 hb2 ?_
     clear hb2 hB1 hs1 hb1 w2 w1
     refine ol_nil (to_k0 (fun _ _ h => h) (hK4 _ _ ⟨.inr (by repeat' first | exact subH_nil | refine subH_same rfl ?_ | (refine subH_blk rfl (by repeat' first | exact sub_nil | refine sub_cons rfl ?_) ?_)), trivial⟩ ?_))
     clear hK4
     refine aq_two (i := 4) (j := 5) (by kernel_rfl) rfl rfl (fun K5 hK5 => ?_) (fun K5 hK5 => ?_)
     ·refine ol_alloc 8 z177 rfl fun b8 => ?_
      refine ol_nil (to_k0 (fun _ _ h => h) (hK5 _ _ ⟨.inr (by repeat' first | exact subH_nil | refine subH_same rfl ?_ | (refine subH_blk rfl (by repeat' first | exact sub_nil | refine sub_cons rfl ?_) ?_)), trivial⟩ ?_))
      clear hK5
      refine aq_one (i := 5) (by kernel_rfl) rfl fun K6 hK6 => ?_
      refine ol_alloc 9 z177 rfl fun b9 => ?_
      refine ol_nil (to_k0 (fun _ _ h => h) (hK6 _ _ ⟨.inr (by repeat' first | exact subH_nil | refine subH_same rfl ?_ | (refine subH_blk rfl (by repeat' first | exact sub_nil | refine sub_cons rfl ?_) ?_)), trivial⟩ ?_))
      clear hK6
      refine aq_one (i := 6) (by kernel_rfl) rfl fun K7 hK7 => ?_
      refine ol_store (id := 8) rfl rfl rfl rfl sz177 rfl rfl (by first | decide | exact Nat.zero_lt_succ _ | simp) ?_
      refine ol_nil (to_k0 (fun _ _ h => h) (hK7 _ _ ⟨.inr (by repeat' first | exact subH_nil | refine subH_same rfl ?_ | (refine subH_blk rfl (by repeat' first | exact sub_nil | refine sub_cons rfl ?_) ?_)), trivial⟩ ?_))
      clear hK7
      refine aq_one (i := 7) (by kernel_rfl) rfl fun K8 hK8 => ?_
      refine ol_store (id := 9) rfl rfl rfl rfl sz177 rfl rfl (by first | decide | exact Nat.zero_lt_succ _ | simp) ?_
      refine ol_nil (to_k0 (fun _ _ h => h) (hK8 _ _ ⟨.inr (by repeat' first | exact subH_nil | refine subH_same rfl ?_ | (refine subH_blk rfl (by repeat' first | exact sub_nil | refine sub_cons rfl ?_) ?_)), trivial⟩ ?_))
      clear hK8
      refine aq_done (by kernel_rfl) ?_
      refine (to_k0 (fun _ _ h => h) (hK2 ((b8, b9)) _ _ ?_ (sub_cons rfl (sub_cons rfl sub_nil)) (sub_cons rfl (sub_cons rfl (sub_cons rfl sub_nil))) (subH_blk rfl (by repeat' first | exact sub_nil | refine sub_cons rfl ?_) (subH_blk rfl (by repeat' first | exact sub_nil | refine sub_cons rfl ?_) subH_nil)) (subH_same rfl (subH_same rfl (subH_same rfl (subH_same rfl subH_nil))))))
      try dsimp only
      all_goals trivial
     ·refine ol_alloc 9 z177 rfl fun b9 => ?_
      refine ol_nil (to_k0 (fun _ _ h => h) (hK5 _ _ ⟨.inr (by repeat' first | exact subH_nil | refine subH_same rfl ?_ | (refine subH_blk rfl (by repeat' first | exact sub_nil | refine sub_cons rfl ?_) ?_)), trivial⟩ ?_))
      clear hK5
      refine aq_one (i := 4) (by kernel_rfl) rfl fun K6 hK6 => ?_
      refine ol_alloc 8 z177 rfl fun b8 => ?_
      refine ol_nil (to_k0 (fun _ _ h => h) (hK6 _ _ ⟨.inr (by repeat' first | exact subH_nil | refine subH_same rfl ?_ | (refine subH_blk rfl (by repeat' first | exact sub_nil | refine sub_cons rfl ?_) ?_)), trivial⟩ ?_))
      clear hK6
      refine aq_one (i := 6) (by kernel_rfl) rfl fun K7 hK7 => ?_
      refine ol_store (id := 8) rfl rfl rfl rfl sz177 rfl rfl (by first | decide | exact Nat.zero_lt_succ _ | simp) ?_
      refine ol_nil (to_k0 (fun _ _ h => h) (hK7 _ _ ⟨.inr (by repeat' first | exact subH_nil | refine subH_same rfl ?_ | (refine subH_blk rfl (by repeat' first | exact sub_nil | refine sub_cons rfl ?_) ?_)), trivial⟩ ?_))
      clear hK7
      refine aq_one (i := 7) (by kernel_rfl) rfl fun K8 hK8 => ?_
      refine ol_store (id := 9) rfl rfl rfl rfl sz177 rfl rfl (by first | decide | exact Nat.zero_lt_succ _ | simp) ?_
      refine ol_nil (to_k0 (fun _ _ h => h) (hK8 _ _ ⟨.inr (by repeat' first | exact subH_nil | refine subH_same rfl ?_ | (refine subH_blk rfl (by repeat' first | exact sub_nil | refine sub_cons rfl ?_) ?_)), trivial⟩ ?_))
      clear hK8
      refine aq_done (by kernel_rfl) ?_
      refine (to_k0 (fun _ _ h => h) (hK2 ((b8, b9)) _ _ ?_ (sub_cons rfl (sub_cons rfl sub_nil)) (sub_cons rfl (sub_cons rfl (sub_cons rfl sub_nil))) (subH_blk rfl (by repeat' first | exact sub_nil | refine sub_cons rfl ?_) (subH_blk rfl (by repeat' first | exact sub_nil | refine sub_cons rfl ?_) subH_nil)) (subH_same rfl (subH_same rfl (subH_same rfl (subH_same rfl subH_nil))))))
      try dsimp only
      all_goals trivial
    ·refine ol_alloc 8 z177 rfl fun b8 => ?_
     refine ol_nil (to_k0 (fun _ _ h => h) (hK4 _ _ ⟨.inr (by repeat' first | exact subH_nil | refine subH_same rfl ?_ | (refine subH_blk rfl (by repeat' first | exact sub_nil | refine sub_cons rfl ?_) ?_)), trivial⟩ ?_))
     clear hK4
     refine aq_two (i := 3) (j := 5) (by kernel_rfl) rfl rfl (fun K5 hK5 => ?_) (fun K5 hK5 => ?_)
     ·refine ol_call rfl rfl cb131 rfl (fun w1 hb1 hs1 hB1 => Calls.mono (match_pointOf _ _) ?_)
      rintro e w2 ⟨rfl, hb2⟩
      refine After.below rfl hb1 hs1 hB1 hb2 ?_
      clear hb2 hB1 hs1 hb1 w2 w1
      refine ol_nil (to_k0 (fun _ _ h => h) (hK5 _ _ ⟨.inr (by repeat' first | exact subH_nil | refine subH_same rfl ?_ | (refine subH_blk rfl (by repeat' first | exact sub_nil | refine sub_cons rfl ?_) ?_)), trivial⟩ ?_))
      clear hK5
      refine aq_one (i := 5) (by kernel_rfl) rfl fun K6 hK6 => ?_
      refine ol_alloc 9 z177 rfl fun b9 => ?_
      refine ol_nil (to_k0 (fun _ _ h => h) (hK6 _ _ ⟨.inr (by repeat' first | exact subH_nil | refine subH_same rfl ?_ | (refine subH_blk rfl (by repeat' first | exact sub_nil | refine sub_cons rfl ?_) ?_)), trivial⟩ ?_))
      clear hK6
      refine aq_one (i := 6) (by kernel_rfl) rfl fun K7 hK7 => ?_
      refine ol_store (id := 8) rfl rfl rfl rfl sz177 rfl rfl (by first | decide | exact Nat.zero_lt_succ _ | simp) ?_
      refine ol_nil (to_k0 (fun _ _ h => h) (hK7 _ _ ⟨.inr (by repeat' first | exact subH_nil | refine subH_same rfl ?_ | (refine subH_blk rfl (by repeat' first | exact sub_nil | refine sub_cons rfl ?_) ?_)), trivial⟩ ?_))
      clear hK7
      refine aq_one (i := 7) (by kernel_rfl) rfl fun K8 hK8 => ?_
      refine ol_store (id := 9) rfl rfl rfl rfl sz177 rfl rfl (by first | decide | exact Nat.zero_lt_succ _ | simp) ?_
      refine ol_nil (to_k0 (fun _ _ h => h) (hK8 _ _ ⟨.inr (by repeat' first | exact subH_nil | refine subH_same rfl ?_ | (refine subH_blk rfl (by repeat' first | exact sub_nil | refine sub_cons rfl ?_) ?_)), trivial⟩ ?_))
      clear hK8
      refine aq_done (by kernel_rfl) ?_
      refine (to_k0 (fun _ _ h => h) (hK2 ((b8, b9)) _ _ ?_ (sub_cons rfl (sub_cons rfl sub_nil)) (sub_cons rfl (sub_cons rfl (sub_cons rfl sub_nil))) (subH_blk rfl (by repeat' first | exact sub_nil | refine sub_cons rfl ?_) (subH_blk rfl (by repeat' first | exact sub_nil | refine sub_cons rfl ?_) subH_nil)) (subH_same rfl (subH_same rfl (subH_same rfl (subH_same rfl subH_nil))))))
      try dsimp only
      all_goals trivial
     ·refine ol_alloc 9 z177 rfl fun b9 => ?_
      refine ol_nil (to_k0 (fun _ _ h => h) (hK5 _ _ ⟨.inr (by repeat' first | exact subH_nil | refine subH_same rfl ?_ | (refine subH_blk rfl (by repeat' first | exact sub_nil | refine sub_cons rfl ?_) ?_)), trivial⟩ ?_))
      clear hK5
      refine aq_one (i := 3) (by kernel_rfl) rfl fun K6 hK6 => ?_
      refine ol_call rfl rfl cb131 rfl (fun w1 hb1 hs1 hB1 => Calls.mono (match_pointOf _ _) ?_)
      rintro e w2 ⟨rfl, hb2⟩
      refine After.below rfl hb1 hs1 hB1 hb2 ?_
      clear hb2 hB1 hs1 hb1 w2 w1
      refine ol_nil (to_k0 (fun _ _ h => h) (hK6 _ _ ⟨.inr (by repeat' first | exact subH_nil | refine subH_same rfl ?_ | (refine subH_blk rfl (by repeat' first | exact sub_nil | refine sub_cons rfl ?_) ?_)), trivial⟩ ?_))
      clear hK6
      refine aq_one (i := 6) (by kernel_rfl) rfl fun K7 hK7 => ?_
      refine ol_store (id := 8) rfl rfl rfl rfl sz177 rfl rfl (by first | decide | exact Nat.zero_lt_succ _ | simp) ?_
      refine ol_nil (to_k0 (fun _ _ h => h) (hK7 _ _ ⟨.inr (by repeat' first | exact subH_nil | refine subH_same rfl ?_ | (refine subH_blk rfl (by repeat' first | exact sub_nil | refine sub_cons rfl ?_) ?_)), trivial⟩ ?_))
      clear hK7
      refine aq_one (i := 7) (by kernel_rfl) rfl fun K8 hK8 => ?_
      refine ol_store (id := 9) rfl rfl rfl rfl sz177 rfl rfl (by first | decide | exact Nat.zero_lt_succ _ | simp) ?_
      refine ol_nil (to_k0 (fun _ _ h => h) (hK8 _ _ ⟨.inr (by repeat' first | exact subH_nil | refine subH_same rfl ?_ | (refine subH_blk rfl (by repeat' first | exact sub_nil | refine sub_cons rfl ?_) ?_)), trivial⟩ ?_))
      clear hK8
      refine aq_done (by kernel_rfl) ?_
      refine (to_k0 (fun _ _ h => h) (hK2 ((b8, b9)) _ _ ?_ (sub_cons rfl (sub_cons rfl sub_nil)) (sub_cons rfl (sub_cons rfl (sub_cons rfl sub_nil))) (subH_blk rfl (by repeat' first | exact sub_nil | refine sub_cons rfl ?_) (subH_blk rfl (by repeat' first | exact sub_nil | refine sub_cons rfl ?_) subH_nil)) (subH_same rfl (subH_same rfl (subH_same rfl (subH_same rfl subH_nil))))))
      try dsimp only
      all_goals trivial
    ·refine ol_alloc 9 z177 rfl fun b9 => ?_
     refine ol_nil (to_k0 (fun _ _ h => h) (hK4 _ _ ⟨.inr (by repeat' first | exact subH_nil | refine subH_same rfl ?_ | (refine subH_blk rfl (by repeat' first | exact sub_nil | refine sub_cons rfl ?_) ?_)), trivial⟩ ?_))
     clear hK4
     refine aq_two (i := 3) (j := 4) (by kernel_rfl) rfl rfl (fun K5 hK5 => ?_) (fun K5 hK5 => ?_)
     ·refine ol_call rfl rfl cb131 rfl (fun w1 hb1 hs1 hB1 => Calls.mono (match_pointOf _ _) ?_)
      rintro e w2 ⟨rfl, hb2⟩
      refine After.below rfl hb1 hs1 hB1 hb2 ?_
      clear hb2 hB1 hs1 hb1 w2 w1
      refine ol_nil (to_k0 (fun _ _ h => h) (hK5 _ _ ⟨.inr (by repeat' first | exact subH_nil | refine subH_same rfl ?_ | (refine subH_blk rfl (by repeat' first | exact sub_nil | refine sub_cons rfl ?_) ?_)), trivial⟩ ?_))
      clear hK5
      refine aq_one (i := 4) (by kernel_rfl) rfl fun K6 hK6 => ?_
      refine ol_alloc 8 z177 rfl fun b8 => ?_
      refine ol_nil (to_k0 (fun _ _ h => h) (hK6 _ _ ⟨.inr (by repeat' first | exact subH_nil | refine subH_same rfl ?_ | (refine subH_blk rfl (by repeat' first | exact sub_nil | refine sub_cons rfl ?_) ?_)), trivial⟩ ?_))
      clear hK6
      refine aq_one (i := 6) (by kernel_rfl) rfl fun K7 hK7 => ?_
      refine ol_store (id := 8) rfl rfl rfl rfl sz177 rfl rfl (by first | decide | exact Nat.zero_lt_succ _ | simp) ?_
      refine ol_nil (to_k0 (fun _ _ h => h) (hK7 _ _ ⟨.inr (by repeat' first | exact subH_nil | refine subH_same rfl ?_ | (refine subH_blk rfl (by repeat' first | exact sub_nil | refine sub_cons rfl ?_) ?_)), trivial⟩ ?_))
      clear hK7
      refine aq_one (i := 7) (by kernel_rfl) rfl fun K8 hK8 => ?_
      refine ol_store (id := 9) rfl rfl rfl rfl sz177 rfl rfl (by first | decide | exact Nat.zero_lt_succ _ | simp) ?_
      refine ol_nil (to_k0 (fun _ _ h => h) (hK8 _ _ ⟨.inr (by repeat' first | exact subH_nil | refine subH_same rfl ?_ | (refine subH_blk rfl (by repeat' first | exact sub_nil | refine sub_cons rfl ?_) ?_)), trivial⟩ ?_))
      clear hK8
      refine aq_done (by kernel_rfl) ?_
      refine (to_k0 (fun _ _ h => h) (hK2 ((b8, b9)) _ _ ?_ (sub_cons rfl (sub_cons rfl sub_nil)) (sub_cons rfl (sub_cons rfl (sub_cons rfl sub_nil))) (subH_blk rfl (by repeat' first | exact sub_nil | refine sub_cons rfl ?_) (subH_blk rfl (by repeat' first | exact sub_nil | refine sub_cons rfl ?_) subH_nil)) (subH_same rfl (subH_same rfl (subH_same rfl (subH_same rfl subH_nil))))))
      try dsimp only
      all_goals trivial
     ·refine ol_alloc 8 z177 rfl fun b8 => ?_
      refine ol_nil (to_k0 (fun _ _ h => h) (hK5 _ _ ⟨.inr (by repeat' first | exact subH_nil | refine subH_same rfl ?_ | (refine subH_blk rfl (by repeat' first | exact sub_nil | refine sub_cons rfl ?_) ?_)), trivial⟩ ?_))
      clear hK5
      refine aq_one (i := 3) (by kernel_rfl) rfl fun K6 hK6 => ?_
      refine ol_call rfl rfl cb131 rfl (fun w1 hb1 hs1 hB1 => Calls.mono (match_pointOf _ _) ?_)
      rintro e w2 ⟨rfl, hb2⟩
      refine After.below rfl hb1 hs1 hB1 hb2 ?_
      clear hb2 hB1 hs1 hb1 w2 w1
      refine ol_nil (to_k0 (fun _ _ h => h) (hK6 _ _ ⟨.inr (by repeat' first | exact subH_nil | refine subH_same rfl ?_ | (refine subH_blk rfl (by repeat' first | exact sub_nil | refine sub_cons rfl ?_) ?_)), trivial⟩ ?_))
      clear hK6
      refine aq_one (i := 6) (by kernel_rfl) rfl fun K7 hK7 => ?_
      refine ol_store (id := 8) rfl rfl rfl rfl sz177 rfl rfl (by first | decide | exact Nat.zero_lt_succ _ | simp) ?_
      refine ol_nil (to_k0 (fun _ _ h => h) (hK7 _ _ ⟨.inr (by repeat' first | exact subH_nil | refine subH_same rfl ?_ | (refine subH_blk rfl (by repeat' first | exact sub_nil | refine sub_cons rfl ?_) ?_)), trivial⟩ ?_))
      clear hK7
      refine aq_one (i := 7) (by kernel_rfl) rfl fun K8 hK8 => ?_
      refine ol_store (id := 9) rfl rfl rfl rfl sz177 rfl rfl (by first | decide | exact Nat.zero_lt_succ _ | simp) ?_
      refine ol_nil (to_k0 (fun _ _ h => h) (hK8 _ _ ⟨.inr (by repeat' first | exact subH_nil | refine subH_same rfl ?_ | (refine subH_blk rfl (by repeat' first | exact sub_nil | refine sub_cons rfl ?_) ?_)), trivial⟩ ?_))
      clear hK8
      refine aq_done (by kernel_rfl) ?_
      refine (to_k0 (fun _ _ h => h) (hK2 ((b8, b9)) _ _ ?_ (sub_cons rfl (sub_cons rfl sub_nil)) (sub_cons rfl (sub_cons rfl (sub_cons rfl sub_nil))) (subH_blk rfl (by repeat' first | exact sub_nil | refine sub_cons rfl ?_) (subH_blk rfl (by repeat' first | exact sub_nil | refine sub_cons rfl ?_) subH_nil)) (subH_same rfl (subH_same rfl (subH_same rfl (subH_same rfl subH_nil))))))
      try dsimp only
      all_goals trivial
   ·refine ol_alloc 8 z177 rfl fun b8 => ?_
    refine ol_nil (to_k0 (fun _ _ h => h) (hK3 _ _ ⟨.inr (by repeat' first | exact subH_nil | refine subH_same rfl ?_ | (refine subH_blk rfl (by repeat' first | exact sub_nil | refine sub_cons rfl ?_) ?_)), trivial⟩ ?_))
    clear hK3
    refine aq_two (i := 1) (j := 5) (by kernel_rfl) rfl rfl (fun K4 hK4 => ?_) (fun K4 hK4 => ?_)
    ·refine ol_call rfl rfl cb131 rfl (fun w1 hb1 hs1 hB1 => Calls.mono (match_pointOf _ _) ?_)
     rintro e w2 ⟨rfl, hb2⟩
     refine After.below rfl hb1 hs1 hB1 hb2 ?_
     clear hb2 hB1 hs1 hb1 w2 w1
     refine ol_nil (to_k0 (fun _ _ h => h) (hK4 _ _ ⟨.inr (by repeat' first | exact subH_nil | refine subH_same rfl ?_ | (refine subH_blk rfl (by repeat' first | exact sub_nil | refine sub_cons rfl ?_) ?_)), trivial⟩ ?_))
     clear hK4
     refine aq_two (i := 3) (j := 5) (by kernel_rfl) rfl rfl (fun K5 hK5 => ?_) (fun K5 hK5 => ?_)
     ·refine ol_call rfl rfl cb131 rfl (fun w1 hb1 hs1 hB1 => Calls.mono (match_pointOf _ _) ?_)
      rintro e w2 ⟨rfl, hb2⟩
      refine After.below rfl hb1 hs1 hB1 hb2 ?_
      clear hb2 hB1 hs1 hb1 w2 w1
      refine ol_nil (to_k0 (fun _ _ h => h) (hK5 _ _ ⟨.inr (by repeat' first | exact subH_nil | refine subH_same rfl ?_ | (refine subH_blk rfl (by repeat' first | exact sub_nil | refine sub_cons rfl ?_) ?_)), trivial⟩ ?_))
      clear hK5
      refine aq_one (i := 5) (by kernel_rfl) rfl fun K6 hK6 => ?_
      refine ol_alloc 9 z177 rfl fun b9 => ?_
      refine ol_nil (to_k0 (fun _ _ h => h) (hK6 _ _ ⟨.inr (by repeat' first | exact subH_nil | refine subH_same rfl ?_ | (refine subH_blk rfl (by repeat' first | exact sub_nil | refine sub_cons rfl ?_) ?_)), trivial⟩ ?_))
      clear hK6
      refine aq_one (i := 6) (by kernel_rfl) rfl fun K7 hK7 => ?_
      refine ol_store (id := 8) rfl rfl rfl rfl sz177 rfl rfl (by first | decide | exact Nat.zero_lt_succ _ | simp) ?_
      refine ol_nil (to_k0 (fun _ _ h => h) (hK7 _ _ ⟨.inr (by repeat' first | exact subH_nil | refine subH_same rfl ?_ | (refine subH_blk rfl (by repeat' first | exact sub_nil | refine sub_cons rfl ?_) ?_)), trivial⟩ ?_))
      clear hK7
      refine aq_one (i := 7) (by kernel_rfl) rfl fun K8 hK8 => ?_
      refine ol_store (id := 9) rfl rfl rfl rfl sz177 rfl rfl (by first | decide | exact Nat.zero_lt_succ _ | simp) ?_
      refine ol_nil (to_k0 (fun _ _ h => h) (hK8 _ _ ⟨.inr (by repeat' first | exact subH_nil | refine subH_same rfl ?_ | (refine subH_blk rfl (by repeat' first | exact sub_nil | refine sub_cons rfl ?_) ?_)), trivial⟩ ?_))
      clear hK8
      refine aq_done (by kernel_rfl) ?_
      refine (to_k0 (fun _ _ h => h) (hK2 ((b8, b9)) _ _ ?_ (sub_cons rfl (sub_cons rfl sub_nil)) (sub_cons rfl (sub_cons rfl (sub_cons rfl sub_nil))) (subH_blk rfl (by repeat' first | exact sub_nil | refine sub_cons rfl ?_) (subH_blk rfl (by repeat' first | exact sub_nil | refine sub_cons rfl ?_) subH_nil)) (subH_same rfl (subH_same rfl (subH_same rfl (subH_same rfl subH_nil))))))
      try dsimp only
      all_goals trivial
     ·refine ol_alloc 9 z177 rfl fun b9 => ?_
      refine ol_nil (to_k0 (fun _ _ h => h) (hK5 _ _ ⟨.inr (by repeat' first | exact subH_nil | refine subH_same rfl ?_ | (refine subH_blk rfl (by repeat' first | exact sub_nil | refine sub_cons rfl ?_) ?_)), trivial⟩ ?_))
      clear hK5
      refine aq_one (i := 3) (by kernel_rfl) rfl fun K6 hK6 => ?_
      refine ol_call rfl rfl cb131 rfl (fun w1 hb1 hs1 hB1 => Calls.mono (match_pointOf _ _) ?_)
      rintro e w2 ⟨rfl, hb2⟩
      refine After.below rfl hb1 hs1 hB1 hb2 ?_
      clear hb2 hB1 hs1 hb1 w2 w1
      refine ol_nil (to_k0 (fun _ _ h => h) (hK6 _ _ ⟨.inr (by repeat' first | exact subH_nil | refine subH_same rfl ?_ | (refine subH_blk rfl (by repeat' first | exact sub_nil | refine sub_cons rfl ?_) ?_)), trivial⟩ ?_))
      clear hK6
      refine aq_one (i := 6) (by kernel_rfl) rfl fun K7 hK7 => ?_
      refine ol_store (id := 8) rfl rfl rfl rfl sz177 rfl rfl (by first | decide | exact Nat.zero_lt_succ _ | simp) ?_
      refine ol_nil (to_k0 (fun _ _ h => h) (hK7 _ _ ⟨.inr (by repeat' first | exact subH_nil | refine subH_same rfl ?_ | (refine subH_blk rfl (by repeat' first | exact sub_nil | refine sub_cons rfl ?_) ?_)), trivial⟩ ?_))
      clear hK7
      refine aq_one (i := 7) (by kernel_rfl) rfl fun K8 hK8 => ?_
      refine ol_store (id := 9) rfl rfl rfl rfl sz177 rfl rfl (by first | decide | exact Nat.zero_lt_succ _ | simp) ?_
      refine ol_nil (to_k0 (fun _ _ h => h) (hK8 _ _ ⟨.inr (by repeat' first | exact subH_nil | refine subH_same rfl ?_ | (refine subH_blk rfl (by repeat' first | exact sub_nil | refine sub_cons rfl ?_) ?_)), trivial⟩ ?_))
      clear hK8
      refine aq_done (by kernel_rfl) ?_
      refine (to_k0 (fun _ _ h => h) (hK2 ((b8, b9)) _ _ ?_ (sub_cons rfl (sub_cons rfl sub_nil)) (sub_cons rfl (sub_cons rfl (sub_cons rfl sub_nil))) (subH_blk rfl (by repeat' first | exact sub_nil | refine sub_cons rfl ?_) (subH_blk rfl (by repeat' first | exact sub_nil | refine sub_cons rfl ?_) subH_nil)) (subH_same rfl (subH_same rfl (subH_same rfl (subH_same rfl subH_nil))))))
      try dsimp only
      all_goals trivial
    ·refine ol_alloc 9 z177 rfl fun b9 => ?_
     refine ol_nil (to_k0 (fun _ _ h => h) (hK4 _ _ ⟨.inr (by repeat' first | exact subH_nil | refine subH_same rfl ?_ | (refine subH_blk rfl (by repeat' first | exact sub_nil | refine sub_cons rfl ?_) ?_)), trivial⟩ ?_))
     clear hK4
     refine aq_one (i := 1) (by kernel_rfl) rfl fun K5 hK5 => ?_
     refine ol_call rfl rfl cb131 rfl (fun w1 hb1 hs1 hB1 => Calls.mono (match_pointOf _ _) ?_)
     rintro e w2 ⟨rfl, hb2⟩
     refine After.below rfl hb1 hs1 hB1 hb2 ?_
     clear hb2 hB1 hs1 hb1 w2 w1
     refine ol_nil (to_k0 (fun _ _ h => h) (hK5 _ _ ⟨.inr (by repeat' first | exact subH_nil | refine subH_same rfl ?_ | (refine subH_blk rfl (by repeat' first | exact sub_nil | refine sub_cons rfl ?_) ?_)), trivial⟩ ?_))
     clear hK5
     refine aq_one (i := 3) (by kernel_rfl) rfl fun K6 hK6 => ?_
     refine ol_call rfl rfl cb131 rfl (fun w1 hb1 hs1 hB1 => Calls.mono (match_pointOf _ _) ?_)
     rintro e w2 ⟨rfl, hb2⟩
     refine After.below rfl hb1 hs1 hB1 hb2 ?_
     clear hb2 hB1 hs1 hb1 w2 w1
     refine ol_nil (to_k0 (fun _ _ h => h) (hK6 _ _ ⟨.inr (by repeat' first | exact subH_nil | refine subH_same rfl ?_ | (refine subH_blk rfl (by repeat' first | exact sub_nil | refine sub_cons rfl ?_) ?_)), trivial⟩ ?_))
     clear hK6
     refine aq_one (i := 6) (by kernel_rfl) rfl fun K7 hK7 => ?_
     refine ol_store (id := 8) rfl rfl rfl rfl sz177 rfl rfl (by first | decide | exact Nat.zero_lt_succ _ | simp) ?_
     refine ol_nil (to_k0 (fun _ _ h => h) (hK7 _ _ ⟨.inr (by repeat' first | exact subH_nil | refine subH_same rfl ?_ | (refine subH_blk rfl (by repeat' first | exact sub_nil | refine sub_cons rfl ?_) ?_)), trivial⟩ ?_))
     clear hK7
     refine aq_one (i := 7) (by kernel_rfl) rfl fun K8 hK8 => ?_
     refine ol_store (id := 9) rfl rfl rfl rfl sz177 rfl rfl (by first | decide | exact Nat.zero_lt_succ _ | simp) ?_
     refine ol_nil (to_k0 (fun _ _ h => h) (hK8 _ _ ⟨.inr (by repeat' first | exact subH_nil | refine subH_same rfl ?_ | (refine subH_blk rfl (by repeat' first | exact sub_nil | refine sub_cons rfl ?_) ?_)), trivial⟩ ?_))
     clear hK8
     refine aq_done (by kernel_rfl) ?_
     refine (to_k0 (fun _ _ h => h) (hK2 ((b8, b9)) _ _ ?_ (sub_cons rfl (sub_cons rfl sub_nil)) (sub_cons rfl (sub_cons rfl (sub_cons rfl sub_nil))) (subH_blk rfl (by repeat' first | exact sub_nil | refine sub_cons rfl ?_) (subH_blk rfl (by repeat' first | exact sub_nil | refine sub_cons rfl ?_) subH_nil)) (subH_same rfl (subH_same rfl (subH_same rfl (subH_same rfl subH_nil))))))
     try dsimp only
     all_goals trivial
   ·refine ol_alloc 9 z177 rfl fun b9 => ?_
    refine ol_nil (to_k0 (fun _ _ h => h) (hK3 _ _ ⟨.inr (by repeat' first | exact subH_nil | refine subH_same rfl ?_ | (refine subH_blk rfl (by repeat' first | exact sub_nil | refine sub_cons rfl ?_) ?_)), trivial⟩ ?_))
    clear hK3
    refine aq_two (i := 1) (j := 4) (by kernel_rfl) rfl rfl (fun K4 hK4 => ?_) (fun K4 hK4 => ?_)
    ·refine ol_call rfl rfl cb131 rfl (fun w1 hb1 hs1 hB1 => Calls.mono (match_pointOf _ _) ?_)
     rintro e w2 ⟨rfl, hb2⟩
     refine After.below rfl hb1 hs1 hB1 hb2 ?_
     clear hb2 hB1 hs1 hb1 w2 w1
     refine ol_nil (to_k0 (fun _ _ h => h) (hK4 _ _ ⟨.inr (by repeat' first | exact subH_nil | refine subH_same rfl ?_ | (refine subH_blk rfl (by repeat' first | exact sub_nil | refine sub_cons rfl ?_) ?_)), trivial⟩ ?_))
     clear hK4
     refine aq_two (i := 3) (j := 4) (by kernel_rfl) rfl rfl (fun K5 hK5 => ?_) (fun K5 hK5 => ?_)
     ·refine ol_call rfl rfl cb131 rfl (fun w1 hb1 hs1 hB1 => Calls.mono (match_pointOf _ _) ?_)
      rintro e w2 ⟨rfl, hb2⟩
      refine After.below rfl hb1 hs1 hB1 hb2 ?_
      clear hb2 hB1 hs1 hb1 w2 w1
      refine ol_nil (to_k0 (fun _ _ h => h) (hK5 _ _ ⟨.inr (by repeat' first | exact subH_nil | refine subH_same rfl ?_ | (refine subH_blk rfl (by repeat' first | exact sub_nil | refine sub_cons rfl ?_) ?_)), trivial⟩ ?_))
      clear hK5
      refine aq_one (i := 4) (by kernel_rfl) rfl fun K6 hK6 => ?_
      refine ol_alloc 8 z177 rfl fun b8 => ?_
      refine ol_nil (to_k0 (fun _ _ h => h) (hK6 _ _ ⟨.inr (by repeat' first | exact subH_nil | refine subH_same rfl ?_ | (refine subH_blk rfl (by repeat' first | exact sub_nil | refine sub_cons rfl ?_) ?_)), trivial⟩ ?_))
      clear hK6
      refine aq_one (i := 6) (by kernel_rfl) rfl fun K7 hK7 => ?_
      refine ol_store (id := 8) rfl rfl rfl rfl sz177 rfl rfl (by first | decide | exact Nat.zero_lt_succ _ | simp) ?_
      refine ol_nil (to_k0 (fun _ _ h => h) (hK7 _ _ ⟨.inr (by repeat' first | exact subH_nil | refine subH_same rfl ?_ | (refine subH_blk rfl (by repeat' first | exact sub_nil | refine sub_cons rfl ?_) ?_)), trivial⟩ ?_))
      clear hK7
      refine aq_one (i := 7) (by kernel_rfl) rfl fun K8 hK8 => ?_
      refine ol_store (id := 9) rfl rfl rfl rfl sz177 rfl rfl (by first | decide | exact Nat.zero_lt_succ _ | simp) ?_
      refine ol_nil (to_k0 (fun _ _ h => h) (hK8 _ _ ⟨.inr (by repeat' first | exact subH_nil | refine subH_same rfl ?_ | (refine subH_blk rfl (by repeat' first | exact sub_nil | refine sub_cons rfl ?_) ?_)), trivial⟩ ?_))
      clear hK8
      refine aq_done (by kernel_rfl) ?_
      refine (to_k0 (fun _ _ h => h) (hK2 ((b8, b9)) _ _ ?_ (sub_cons rfl (sub_cons rfl sub_nil)) (sub_cons rfl (sub_cons rfl (sub_cons rfl sub_nil))) (subH_blk rfl (by repeat' first | exact sub_nil | refine sub_cons rfl ?_) (subH_blk rfl (by repeat' first | exact sub_nil | refine sub_cons rfl ?_) subH_nil)) (subH_same rfl (subH_same rfl (subH_same rfl (subH_same rfl subH_nil))))))
      try dsimp only
      all_goals trivial
     ·refine ol_alloc 8 z177 rfl fun b8 => ?_
      refine ol_nil (to_k0 (fun _ _ h => h) (hK5 _ _ ⟨.inr (by repeat' first | exact subH_nil | refine subH_same rfl ?_ | (refine subH_blk rfl (by repeat' first | exact sub_nil | refine sub_cons rfl ?_) ?_)), trivial⟩ ?_))
      clear hK5
      refine aq_one (i := 3) (by kernel_rfl) rfl fun K6 hK6 => ?_
      refine ol_call rfl rfl cb131 rfl (fun w1 hb1 hs1 hB1 => Calls.mono (match_pointOf _ _) ?_)
      rintro e w2 ⟨rfl, hb2⟩
      refine After.below rfl hb1 hs1 hB1 hb2 ?_
      clear hb2 hB1 hs1 hb1 w2 w1
      refine ol_nil (to_k0 (fun _ _ h => h) (hK6 _ _ ⟨.inr (by repeat' first | exact subH_nil | refine subH_same rfl ?_ | (refine subH_blk rfl (by repeat' first | exact sub_nil | refine sub_cons rfl ?_) ?_)), trivial⟩ ?_))
      clear hK6
      refine aq_one (i := 6) (by kernel_rfl) rfl fun K7 hK7 => ?_
      refine ol_store (id := 8) rfl rfl rfl rfl sz177 rfl rfl (by first | decide | exact Nat.zero_lt_succ _ | simp) ?_
      refine ol_nil (to_k0 (fun _ _ h => h) (hK7 _ _ ⟨.inr (by repeat' first | exact subH_nil | refine subH_same rfl ?_ | (refine subH_blk rfl (by repeat' first | exact sub_nil | refine sub_cons rfl ?_) ?_)), trivial⟩ ?_))
      clear hK7
      refine aq_one (i := 7) (by kernel_rfl) rfl fun K8 hK8 => ?_
      refine ol_store (id := 9) rfl rfl rfl rfl sz177 rfl rfl (by first | decide | exact Nat.zero_lt_succ _ | simp) ?_
      refine ol_nil (to_k0 (fun _ _ h => h) (hK8 _ _ ⟨.inr (by repeat' first | exact subH_nil | refine subH_same rfl ?_ | (refine subH_blk rfl (by repeat' first | exact sub_nil | refine sub_cons rfl ?_) ?_)), trivial⟩ ?_))
      clear hK8
      refine aq_done (by kernel_rfl) ?_
      refine (to_k0 (fun _ _ h => h) (hK2 ((b8, b9)) _ _ ?_ (sub_cons rfl (sub_cons rfl sub_nil)) (sub_cons rfl (sub_cons rfl (sub_cons rfl sub_nil))) (subH_blk rfl (by repeat' first | exact sub_nil | refine sub_cons rfl ?_) (subH_blk rfl (by repeat' first | exact sub_nil | refine sub_cons rfl ?_) subH_nil)) (subH_same rfl (subH_same rfl (subH_same rfl (subH_same rfl subH_nil))))))
      try dsimp only
      all_goals trivial
    ·refine ol_alloc 8 z177 rfl fun b8 => ?_
     refine ol_nil (to_k0 (fun _ _ h => h) (hK4 _ _ ⟨.inr (by repeat' first | exact subH_nil | refine subH_same rfl ?_ | (refine subH_blk rfl (by repeat' first | exact sub_nil | refine sub_cons rfl ?_) ?_)), trivial⟩ ?_))
     clear hK4
     refine aq_one (i := 1) (by kernel_rfl) rfl fun K5 hK5 => ?_
     refine ol_call rfl rfl cb131 rfl (fun w1 hb1 hs1 hB1 => Calls.mono (match_pointOf _ _) ?_)
     rintro e w2 ⟨rfl, hb2⟩
     refine After.below rfl hb1 hs1 hB1 hb2 ?_
     clear hb2 hB1 hs1 hb1 w2 w1
     refine ol_nil (to_k0 (fun _ _ h => h) (hK5 _ _ ⟨.inr (by repeat' first | exact subH_nil | refine subH_same rfl ?_ | (refine subH_blk rfl (by repeat' first | exact sub_nil | refine sub_cons rfl ?_) ?_)), trivial⟩ ?_))
     clear hK5
     refine aq_one (i := 3) (by kernel_rfl) rfl fun K6 hK6 => ?_
     refine ol_call rfl rfl cb131 rfl (fun w1 hb1 hs1 hB1 => Calls.mono (match_pointOf _ _) ?_)
     rintro e w2 ⟨rfl, hb2⟩
     refine After.below rfl hb1 hs1 hB1 hb2 ?_
     clear hb2 hB1 hs1 hb1 w2 w1
     refine ol_nil (to_k0 (fun _ _ h => h) (hK6 _ _ ⟨.inr (by repeat' first | exact subH_nil | refine subH_same rfl ?_ | (refine subH_blk rfl (by repeat' first | exact sub_nil | refine sub_cons rfl ?_) ?_)), trivial⟩ ?_))
     clear hK6
     refine aq_one (i := 6) (by kernel_rfl) rfl fun K7 hK7 => ?_
     refine ol_store (id := 8) rfl rfl rfl rfl sz177 rfl rfl (by first | decide | exact Nat.zero_lt_succ _ | simp) ?_
     refine ol_nil (to_k0 (fun _ _ h => h) (hK7 _ _ ⟨.inr (by repeat' first | exact subH_nil | refine subH_same rfl ?_ | (refine subH_blk rfl (by repeat' first | exact sub_nil | refine sub_cons rfl ?_) ?_)), trivial⟩ ?_))
     clear hK7
     refine aq_one (i := 7) (by kernel_rfl) rfl fun K8 hK8 => ?_
     refine ol_store (id := 9) rfl rfl rfl rfl sz177 rfl rfl (by first | decide | exact Nat.zero_lt_succ _ | simp) ?_
     refine ol_nil (to_k0 (fun _ _ h => h) (hK8 _ _ ⟨.inr (by repeat' first | exact subH_nil | refine subH_same rfl ?_ | (refine subH_blk rfl (by repeat' first | exact sub_nil | refine sub_cons rfl ?_) ?_)), trivial⟩ ?_))
     clear hK8
     refine aq_done (by kernel_rfl) ?_
     refine (to_k0 (fun _ _ h => h) (hK2 ((b8, b9)) _ _ ?_ (sub_cons rfl (sub_cons rfl sub_nil)) (sub_cons rfl (sub_cons rfl (sub_cons rfl sub_nil))) (subH_blk rfl (by repeat' first | exact sub_nil | refine sub_cons rfl ?_) (subH_blk rfl (by repeat' first | exact sub_nil | refine sub_cons rfl ?_) subH_nil)) (subH_same rfl (subH_same rfl (subH_same rfl (subH_same rfl subH_nil))))))
     try dsimp only
     all_goals trivial
  ·rintro ⟨b8, b9⟩ _
   dsimp only
   refine wp_seq' fun K9 hK9 => ?_
   refine wp_regq (by kernel_rfl) (by kernel_rfl) ?_
   refine ql_r (r_fa (o' := 0) rfl fl179_0 rfl) rfl ?_
   refine ql_r (r_lda (id := 3) (n := 2) rfl rfl rfl ag177) rfl ?_
   refine ql_r (r_fa (o' := 2) rfl fl179_1 rfl) rfl ?_
   refine ql_r (r_lda (id := 3) (n := 2) rfl rfl rfl ag177) rfl ?_
   refine ql_r (r_lda (id := 8) (n := 2) rfl rfl rfl ag177) rfl ?_
   refine ql_call rfl rfl cb132 rfl (fun w1 hb1 hs1 hB1 => match_sideOf _ _ _ _ _ _ _ (by assumption) (by assumption) (by assumption) (by assumption) (by assumption) (by assumption)) ?_
   refine ql_r (r_fa (o' := 0) rfl fl179_0 rfl) rfl ?_
   refine ql_r (r_lda (id := 3) (n := 2) rfl rfl rfl ag177) rfl ?_
   refine ql_r (r_fa (o' := 2) rfl fl179_1 rfl) rfl ?_
   refine ql_r (r_lda (id := 3) (n := 2) rfl rfl rfl ag177) rfl ?_
   refine ql_r (r_lda (id := 9) (n := 2) rfl rfl rfl ag177) rfl ?_
   refine ql_call rfl rfl cb132 rfl (fun w1 hb1 hs1 hB1 => match_sideOf _ _ _ _ _ _ _ (by assumption) (by assumption) (by assumption) (by assumption) (by assumption) (by assumption)) ?_
   refine ql_r (r_assign rfl) rfl ?_
   refine ql_r (r_assign rfl) rfl ?_
   refine ql_nil (to_k0 (fun _ _ h => h) (hK9 _ _ _ _ _ ?_))
   clear hK9
   refine wp_seq' fun K10 hK10 => ?_
   refine wp_seq' fun K11 hK11 => ?_
   refine wp_reg ?_
   refine ol_r (r_move rfl) rfl ?_
   refine ol_r (r_geq rfl rfl) rfl ?_
   refine ol_r (r_move rfl) rfl ?_
   refine ol_split (d := 32) rfl (fun hs32 => ?_) (fun hs32 => ?_)
   ·have phs32 := hs32; try simp only [decide_eq_true_eq, decide_eq_false_iff_not, Bool.not_eq_true', Bool.not_eq_false', Bool.not_true, Bool.not_false] at phs32
    refine ol_s rfl rfl hs32 rfl ?_
    refine ol_s rfl rfl hs32 rfl ?_
    refine ol_r (r_pickT rfl hs32 rfl) rfl ?_
    refine ol_nil (to_k0 (fun _ _ h => h) (hK11 _ _ _ _ _ ?_))
    clear hK11
    refine wp_condT rfl ?_
    refine wp_seq' fun K12 hK12 => ?_
    refine wp_reg ?_
    refine ol_r (r_build rfl (fun _ => bd186 _)) rfl ?_
    refine ol_store (id := 6) rfl rfl rfl rfl sz186 rfl rfl (by first | decide | exact Nat.zero_lt_succ _ | simp) ?_
    refine ol_r (r_assign rfl) rfl ?_
    refine ol_nil (to_k0 (fun _ _ h => h) (hK12 _ _ _ _ _ ?_))
    clear hK12
    refine hQ.ret (rvs2 (rv_c (id := 6) (n := 2) rfl rfl ag186 rfl) (rv_t rfl)) (fun _ _ h => h) fun w hb hs hB hkd => ?_
    first
      | (have hc : crB g p q = false := by
           unfold crB gSide
           simp only [Bool.and_eq_false_iff, Bool.not_eq_false', Bool.or_eq_true, Bool.and_eq_true, decide_eq_true_eq]
           omega
         exact ⟨by rw [partOf, hc]; rfl, hb⟩)
   ·have phs32 := hs32; try simp only [decide_eq_true_eq, decide_eq_false_iff_not, Bool.not_eq_true', Bool.not_eq_false', Bool.not_true, Bool.not_false] at phs32
    refine ol_g rfl rfl hs32 ?_
    refine ol_r (r_move rfl) rfl ?_
    refine ol_g rfl rfl hs32 ?_
    refine ol_r (r_lss rfl rfl) rfl ?_
    refine ol_r (r_pickF rfl hs32 rfl) rfl ?_
    refine ol_nil (to_k0 (fun _ _ h => h) (hK11 _ _ _ _ _ ?_))
    clear hK11
    refine wp_condD rfl (fun hc35 => ?_) (fun hc35 => ?_)
    ·refine wp_seq' fun K13 hK13 => ?_
     refine wp_reg ?_
     refine ol_r (r_build rfl (fun _ => bd186 _)) rfl ?_
     refine ol_store (id := 6) rfl rfl rfl rfl sz186 rfl rfl (by first | decide | exact Nat.zero_lt_succ _ | simp) ?_
     refine ol_r (r_assign rfl) rfl ?_
     refine ol_nil (to_k0 (fun _ _ h => h) (hK13 _ _ _ _ _ ?_))
     clear hK13
     refine hQ.ret (rvs2 (rv_c (id := 6) (n := 2) rfl rfl ag186 rfl) (rv_t rfl)) (fun _ _ h => h) fun w hb hs hB hkd => ?_
     first
       | (have hc : crB g p q = false := by
            unfold crB gSide
            simp only [Bool.and_eq_false_iff, Bool.not_eq_false', Bool.or_eq_true, Bool.and_eq_true, decide_eq_true_eq]
            omega
          exact ⟨by rw [partOf, hc]; rfl, hb⟩)
    ·refine wp_skip' (to_k0 (fun _ _ h => h) (hK10 _ _ _ _ _ ?_))
     clear hK10
     refine wp_seq' fun K14 hK14 => ?_
     refine wp_regq (by kernel_rfl) (by kernel_rfl) ?_
     refine ql_r (r_lda (id := 8) (n := 2) rfl rfl rfl ag177) rfl ?_
     refine ql_r (r_lda (id := 9) (n := 2) rfl rfl rfl ag177) rfl ?_
     refine ql_r (r_fa (o' := 0) rfl fl179_0 rfl) rfl ?_
     refine ql_r (r_lda (id := 3) (n := 2) rfl rfl rfl ag177) rfl ?_
     refine ql_call rfl rfl cb132 rfl (fun w1 hb1 hs1 hB1 => match_sideOf _ _ _ _ _ _ _ (by assumption) (by assumption) (by assumption) (by assumption) (by assumption) (by assumption)) ?_
     refine ql_r (r_lda (id := 8) (n := 2) rfl rfl rfl ag177) rfl ?_
     refine ql_r (r_lda (id := 9) (n := 2) rfl rfl rfl ag177) rfl ?_
     refine ql_r (r_fa (o' := 2) rfl fl179_1 rfl) rfl ?_
     refine ql_r (r_lda (id := 3) (n := 2) rfl rfl rfl ag177) rfl ?_
     refine ql_call rfl rfl cb132 rfl (fun w1 hb1 hs1 hB1 => match_sideOf _ _ _ _ _ _ _ (by assumption) (by assumption) (by assumption) (by assumption) (by assumption) (by assumption)) ?_
     refine ql_r (r_assign rfl) rfl ?_
     refine ql_r (r_assign rfl) rfl ?_
     refine ql_nil (to_k0 (fun _ _ h => h) (hK14 _ _ _ _ _ ?_))
     clear hK14
     refine wp_seq' fun K15 hK15 => ?_
     refine wp_seq' fun K16 hK16 => ?_
     refine wp_reg ?_
     refine ol_r (r_move rfl) rfl ?_
     refine ol_r (r_gtr rfl rfl) rfl ?_
     refine ol_r (r_move rfl) rfl ?_
     refine ol_split (d := 49) rfl (fun hs49 => ?_) (fun hs49 => ?_)
     ·have phs49 := hs49; try simp only [decide_eq_true_eq, decide_eq_false_iff_not, Bool.not_eq_true', Bool.not_eq_false', Bool.not_true, Bool.not_false] at phs49
      refine ol_g rfl rfl hs49 ?_
      refine ol_r (r_move rfl) rfl ?_
      refine ol_g rfl rfl hs49 ?_
      refine ol_r (r_gtr rfl rfl) rfl ?_
      refine ol_r (r_pickT rfl hs49 rfl) rfl ?_
      refine ol_r (r_move rfl) rfl ?_
      refine ol_split (d := 53) rfl (fun hs53 => ?_) (fun hs53 => ?_)
      ·have phs53 := hs53; try simp only [decide_eq_true_eq, decide_eq_false_iff_not, Bool.not_eq_true', Bool.not_eq_false', Bool.not_true, Bool.not_false] at phs53
       refine ol_s rfl rfl hs53 rfl ?_
       refine ol_s rfl rfl hs53 rfl ?_
       refine ol_s rfl rfl hs53 rfl ?_
       refine ol_u rfl rfl rfl ?_
       refine ol_u rfl rfl rfl ?_
       refine ol_s rfl rfl hs53 rfl ?_
       refine ol_r (r_pickT rfl hs53 rfl) rfl ?_
       refine ol_nil (to_k0 (fun _ _ h => h) (hK16 _ _ _ _ _ ?_))
       clear hK16
       refine wp_condT rfl ?_
       refine wp_seq' fun K17 hK17 => ?_
       refine wp_reg ?_
       refine ol_r (r_build rfl (fun _ => bd186 _)) rfl ?_
       refine ol_store (id := 6) rfl rfl rfl rfl sz186 rfl rfl (by first | decide | exact Nat.zero_lt_succ _ | simp) ?_
       refine ol_r (r_assign rfl) rfl ?_
       refine ol_nil (to_k0 (fun _ _ h => h) (hK17 _ _ _ _ _ ?_))
       clear hK17
       refine hQ.ret (rvs2 (rv_c (id := 6) (n := 2) rfl rfl ag186 rfl) (rv_t rfl)) (fun _ _ h => h) fun w hb hs hB hkd => ?_
       first
         | (have hc : crB g p q = false := by
              unfold crB gSide
              simp only [Bool.and_eq_false_iff, Bool.not_eq_false', Bool.or_eq_true, Bool.and_eq_true, decide_eq_true_eq]
              omega
            exact ⟨by rw [partOf, hc]; rfl, hb⟩)
      ·have phs53 := hs53; try simp only [decide_eq_true_eq, decide_eq_false_iff_not, Bool.not_eq_true', Bool.not_eq_false', Bool.not_true, Bool.not_false] at phs53
       refine ol_g rfl rfl hs53 ?_
       refine ol_r (r_move rfl) rfl ?_
       refine ol_g rfl rfl hs53 ?_
       refine ol_r (r_lss rfl rfl) rfl ?_
       refine ol_g rfl rfl hs53 ?_
       refine ol_r (r_move rfl) rfl ?_
       refine ol_split (d := 56) rfl (fun hs56 => ?_) (fun hs56 => ?_)
       ·have phs56 := hs56; try simp only [decide_eq_true_eq, decide_eq_false_iff_not, Bool.not_eq_true', Bool.not_eq_false', Bool.not_true, Bool.not_false] at phs56
        refine ol_g rfl rfl hs56 ?_
        refine ol_r (r_move rfl) rfl ?_
        refine ol_g rfl rfl hs56 ?_
        refine ol_r (r_lss rfl rfl) rfl ?_
        refine ol_g rfl rfl hs53 ?_
        refine ol_r (r_pickT rfl hs56 rfl) rfl ?_
        refine ol_r (r_pickF rfl hs53 rfl) rfl ?_
        refine ol_nil (to_k0 (fun _ _ h => h) (hK16 _ _ _ _ _ ?_))
        clear hK16
        refine wp_condD rfl (fun hc60 => ?_) (fun hc60 => ?_)
        ·refine wp_seq' fun K18 hK18 => ?_
         refine wp_reg ?_
         refine ol_r (r_build rfl (fun _ => bd186 _)) rfl ?_
         refine ol_store (id := 6) rfl rfl rfl rfl sz186 rfl rfl (by first | decide | exact Nat.zero_lt_succ _ | simp) ?_
         refine ol_r (r_assign rfl) rfl ?_
         refine ol_nil (to_k0 (fun _ _ h => h) (hK18 _ _ _ _ _ ?_))
         clear hK18
         refine hQ.ret (rvs2 (rv_c (id := 6) (n := 2) rfl rfl ag186 rfl) (rv_t rfl)) (fun _ _ h => h) fun w hb hs hB hkd => ?_
         first
           | (have hc : crB g p q = false := by
                unfold crB gSide
                simp only [Bool.and_eq_false_iff, Bool.not_eq_false', Bool.or_eq_true, Bool.and_eq_true, decide_eq_true_eq]
                omega
              exact ⟨by rw [partOf, hc]; rfl, hb⟩)
        ·refine wp_skip' (to_k0 (fun _ _ h => h) (hK15 _ _ _ _ _ ?_))
         clear hK15
         refine wp_seq' fun K19 hK19 => ?_
         refine wp_reg ?_
         refine ol_r (r_move rfl) rfl ?_
         refine ol_r (r_neg rfl (by omega)) rfl ?_
         refine ol_r (r_move rfl) rfl ?_
         refine ol_r (r_move rfl) rfl ?_
         refine ol_r (r_sub rfl rfl (by omega)) rfl ?_
         refine ol_r (r_build rfl (fun _ => bd186_0_1 _ _ _)) rfl ?_
         refine ol_store (id := 6) rfl rfl rfl rfl sz186 rfl rfl (by first | decide | exact Nat.zero_lt_succ _ | simp) ?_
         refine ol_r (r_assign rfl) rfl ?_
         refine ol_nil (to_k0 (fun _ _ h => h) (hK19 _ _ _ _ _ ?_))
         clear hK19
         refine hQ.ret (rvs2 (rv_c (id := 6) (n := 2) rfl rfl ag186 rfl) (rv_t rfl)) (fun _ _ h => h) fun w hb hs hB hkd => ?_
         first
           | (have hc : crB g p q = true := by
                unfold crB gSide
                simp only [Bool.and_eq_true, Bool.not_eq_true', Bool.or_eq_false_iff, Bool.and_eq_false_iff, decide_eq_false_iff_not]
                omega
              exact ⟨by rw [partOf, hc]; rfl, hb⟩)
       ·have phs56 := hs56; try simp only [decide_eq_true_eq, decide_eq_false_iff_not, Bool.not_eq_true', Bool.not_eq_false', Bool.not_true, Bool.not_false] at phs56
        refine ol_s rfl rfl hs56 rfl ?_
        refine ol_s rfl rfl hs56 rfl ?_
        refine ol_g rfl rfl hs53 ?_
        refine ol_r (r_pickF rfl hs56 rfl) rfl ?_
        refine ol_r (r_pickF rfl hs53 rfl) rfl ?_
        refine ol_nil (to_k0 (fun _ _ h => h) (hK16 _ _ _ _ _ ?_))
        clear hK16
        refine wp_condF rfl ?_
        refine wp_skip' (to_k0 (fun _ _ h => h) (hK15 _ _ _ _ _ ?_))
        clear hK15
        refine wp_seq' fun K20 hK20 => ?_
        refine wp_reg ?_
        refine ol_r (r_move rfl) rfl ?_
        refine ol_r (r_neg rfl (by omega)) rfl ?_
        refine ol_r (r_move rfl) rfl ?_
        refine ol_r (r_move rfl) rfl ?_
        refine ol_r (r_sub rfl rfl (by omega)) rfl ?_
        refine ol_r (r_build rfl (fun _ => bd186_0_1 _ _ _)) rfl ?_
        refine ol_store (id := 6) rfl rfl rfl rfl sz186 rfl rfl (by first | decide | exact Nat.zero_lt_succ _ | simp) ?_
        refine ol_r (r_assign rfl) rfl ?_
        refine ol_nil (to_k0 (fun _ _ h => h) (hK20 _ _ _ _ _ ?_))
        clear hK20
        refine hQ.ret (rvs2 (rv_c (id := 6) (n := 2) rfl rfl ag186 rfl) (rv_t rfl)) (fun _ _ h => h) fun w hb hs hB hkd => ?_
        first
          | (have hc : crB g p q = true := by
               unfold crB gSide
               simp only [Bool.and_eq_true, Bool.not_eq_true', Bool.or_eq_false_iff, Bool.and_eq_false_iff, decide_eq_false_iff_not]
               omega
             exact ⟨by rw [partOf, hc]; rfl, hb⟩)
     ·have phs49 := hs49; try simp only [decide_eq_true_eq, decide_eq_false_iff_not, Bool.not_eq_true', Bool.not_eq_false', Bool.not_true, Bool.not_false] at phs49
      refine ol_s rfl rfl hs49 rfl ?_
      refine ol_s rfl rfl hs49 rfl ?_
      refine ol_r (r_pickF rfl hs49 rfl) rfl ?_
      refine ol_r (r_move rfl) rfl ?_
      refine ol_g rfl rfl rfl ?_
      refine ol_r (r_move rfl) rfl ?_
      refine ol_g rfl rfl rfl ?_
      refine ol_r (r_lss rfl rfl) rfl ?_
      refine ol_g rfl rfl rfl ?_
      refine ol_r (r_move rfl) rfl ?_
      refine ol_split (d := 56) rfl (fun hs56 => ?_) (fun hs56 => ?_)
      ·have phs56 := hs56; try simp only [decide_eq_true_eq, decide_eq_false_iff_not, Bool.not_eq_true', Bool.not_eq_false', Bool.not_true, Bool.not_false] at phs56
       refine ol_g rfl rfl hs56 ?_
       refine ol_r (r_move rfl) rfl ?_
       refine ol_g rfl rfl hs56 ?_
       refine ol_r (r_lss rfl rfl) rfl ?_
       refine ol_g rfl rfl rfl ?_
       refine ol_r (r_pickT rfl hs56 rfl) rfl ?_
       refine ol_r (r_pickF rfl rfl rfl) rfl ?_
       refine ol_nil (to_k0 (fun _ _ h => h) (hK16 _ _ _ _ _ ?_))
       clear hK16
       refine wp_condD rfl (fun hc60 => ?_) (fun hc60 => ?_)
       ·refine wp_seq' fun K21 hK21 => ?_
        refine wp_reg ?_
        refine ol_r (r_build rfl (fun _ => bd186 _)) rfl ?_
        refine ol_store (id := 6) rfl rfl rfl rfl sz186 rfl rfl (by first | decide | exact Nat.zero_lt_succ _ | simp) ?_
        refine ol_r (r_assign rfl) rfl ?_
        refine ol_nil (to_k0 (fun _ _ h => h) (hK21 _ _ _ _ _ ?_))
        clear hK21
        refine hQ.ret (rvs2 (rv_c (id := 6) (n := 2) rfl rfl ag186 rfl) (rv_t rfl)) (fun _ _ h => h) fun w hb hs hB hkd => ?_
        first
          | (have hc : crB g p q = false := by
               unfold crB gSide
               simp only [Bool.and_eq_false_iff, Bool.not_eq_false', Bool.or_eq_true, Bool.and_eq_true, decide_eq_true_eq]
               omega
             exact ⟨by rw [partOf, hc]; rfl, hb⟩)
       ·refine wp_skip' (to_k0 (fun _ _ h => h) (hK15 _ _ _ _ _ ?_))
        clear hK15
        refine wp_seq' fun K22 hK22 => ?_
        refine wp_reg ?_
        refine ol_r (r_move rfl) rfl ?_
        refine ol_r (r_neg rfl (by omega)) rfl ?_
        refine ol_r (r_move rfl) rfl ?_
        refine ol_r (r_move rfl) rfl ?_
        refine ol_r (r_sub rfl rfl (by omega)) rfl ?_
        refine ol_r (r_build rfl (fun _ => bd186_0_1 _ _ _)) rfl ?_
        refine ol_store (id := 6) rfl rfl rfl rfl sz186 rfl rfl (by first | decide | exact Nat.zero_lt_succ _ | simp) ?_
        refine ol_r (r_assign rfl) rfl ?_
        refine ol_nil (to_k0 (fun _ _ h => h) (hK22 _ _ _ _ _ ?_))
        clear hK22
        refine hQ.ret (rvs2 (rv_c (id := 6) (n := 2) rfl rfl ag186 rfl) (rv_t rfl)) (fun _ _ h => h) fun w hb hs hB hkd => ?_
        first
          | (have hc : crB g p q = true := by
               unfold crB gSide
               simp only [Bool.and_eq_true, Bool.not_eq_true', Bool.or_eq_false_iff, Bool.and_eq_false_iff, decide_eq_false_iff_not]
               omega
             exact ⟨by rw [partOf, hc]; rfl, hb⟩)
      ·have phs56 := hs56; try simp only [decide_eq_true_eq, decide_eq_false_iff_not, Bool.not_eq_true', Bool.not_eq_false', Bool.not_true, Bool.not_false] at phs56
       refine ol_s rfl rfl hs56 rfl ?_
       refine ol_s rfl rfl hs56 rfl ?_
       refine ol_g rfl rfl rfl ?_
       refine ol_r (r_pickF rfl hs56 rfl) rfl ?_
       refine ol_r (r_pickF rfl rfl rfl) rfl ?_
       refine ol_nil (to_k0 (fun _ _ h => h) (hK16 _ _ _ _ _ ?_))
       clear hK16
       refine wp_condF rfl ?_
       refine wp_skip' (to_k0 (fun _ _ h => h) (hK15 _ _ _ _ _ ?_))
       clear hK15
       refine wp_seq' fun K23 hK23 => ?_
       refine wp_reg ?_
       refine ol_r (r_move rfl) rfl ?_
       refine ol_r (r_neg rfl (by omega)) rfl ?_
       refine ol_r (r_move rfl) rfl ?_
       refine ol_r (r_move rfl) rfl ?_
       refine ol_r (r_sub rfl rfl (by omega)) rfl ?_
       refine ol_r (r_build rfl (fun _ => bd186_0_1 _ _ _)) rfl ?_
       refine ol_store (id := 6) rfl rfl rfl rfl sz186 rfl rfl (by first | decide | exact Nat.zero_lt_succ _ | simp) ?_
       refine ol_r (r_assign rfl) rfl ?_
       refine ol_nil (to_k0 (fun _ _ h => h) (hK23 _ _ _ _ _ ?_))
       clear hK23
       refine hQ.ret (rvs2 (rv_c (id := 6) (n := 2) rfl rfl ag186 rfl) (rv_t rfl)) (fun _ _ h => h) fun w hb hs hB hkd => ?_
       first
         | (have hc : crB g p q = true := by
              unfold crB gSide
              simp only [Bool.and_eq_true, Bool.not_eq_true', Bool.or_eq_false_iff, Bool.and_eq_false_iff, decide_eq_false_iff_not]
              omega
            exact ⟨by rw [partOf, hc]; rfl, hb⟩)
theorem crossOf_eq {gs : List GateR} {p q : SmpR} {st i : Nat} {g : GateR} (h : gs[i]? = some g) : crossOf gs p q st (i : Int) = ⟨i, st, 1000 * p.at_ + (partOf g p q).num * (1000 * (q.at_ - p.at_)) / (partOf g p q).den⟩ := by unfold crossOf; rw [Int.toNat_natCast, h]
end Go.Proofs.Ytfbmkepogcimlaa

/-
  The example of harrierlaw5, and checks of both arguments.
-/

namespace Go.Proofs.Ytfbmkepogcimlaa
open Go Go.RowKit Hx
set_option linter.unusedVariables false
set_option linter.unusedSimpArgs false
set_option maxRecDepth 8000
def orL : List Int → Int
  | [] => 0
  | x :: r => if x ≠ 0 then x else orL r
theorem orL_next {xs : List Int} {k : Nat} (h : ∀ x ∈ xs.take k, x = 0) : orL xs = orL (xs.drop k) := by
  induction k generalizing xs with
  | zero => rfl
  | succ k ih =>
    cases xs with
    | nil => rfl
    | cons x r =>
      have hx := h x (by simp)
      rw [orL, if_neg (by simp [hx]), List.drop_succ_cons]
      exact ih fun y hy => h y (by simp [hy])
theorem cmp_OrE (a : Option Addr) (n c : Nat) (xs : List Int) (w : World) (hl : Rd encI w.heap.size w a n c xs) :
    Calls Try.prog 53 #[.slice a n c] w fun e w' => e = .returned (.int .i64 (orL xs)) ∧ Below w.heap.size w w' := by
  have hn := hl.len
  have hf := hl.fit
  refine enterQ (N := 18) (C := fun _ => True) (H := []) (B := w.heap.size) (args := [_]) Try.func53 rfl rfl rfl (Nat.le_refl _) (Sat.nil _ _) fun Q hQ => ?_
  refine wp_seq' fun K1 hK1 => ?_
  refine wp_reg ?_
  refine ol_r (r_assign rfl) rfl ?_
  refine ol_nil (to_k0 (fun _ _ h => h) (hK1 _ _ _ _ _ ?_))
  clear hK1
  refine wp_seq' fun K2 hK2 => ?_
  refine wp_reg ?_
  refine ol_r (r_assign rfl) rfl ?_
  refine ol_nil (to_k0 (fun _ _ h => h) (hK2 _ _ _ _ _ ?_))
  clear hK2
  refine wp_seq' fun K3 hK3 => ?_
  refine wp_seq' fun K4 hK4 => ?_
  refine wp_reg ?_
  refine ol_r (r_move rfl) rfl ?_
  refine ol_r (r_len rfl sl148) rfl ?_
  refine ol_r (r_move rfl) rfl ?_
  refine ol_nil (to_k0 (fun _ _ h => h) (hK4 _ _ _ _ _ ?_))
  clear hK4
  refine wp_block' ?_
  apply wp_loopM (σ := Nat) (fun s => s ≤ n ∧ ∀ x ∈ xs.take s, x = 0) (fun s => [(8, .int .i64 s)]) [(3, _), (6, _), (7, _)] (fun s => []) [] (fun s => n - s) (0)
  ·try dsimp only
   exact ⟨Nat.zero_le _, fun x hx => by simp at hx⟩
  ·exact (sub_cons rfl sub_nil)
  ·exact (sub_cons rfl (sub_cons rfl (sub_cons rfl sub_nil)))
  ·exact subH_nil
  ·exact subH_nil
  ·rintro k ⟨hk, hP⟩
   intro K5 hK5
   refine wp_seq' fun K6 hK6 => ?_
   refine wp_reg ?_
   refine ol_r (r_lss rfl rfl) rfl ?_
   refine ol_nil (to_k0 (fun _ _ h => h) (hK6 _ _ _ _ _ ?_))
   clear hK6
   refine wp_seq' fun K7 hK7 => ?_
   refine wp_condD rfl (fun hc9 => ?_) (fun hc9 => ?_)
   ·refine wp_skip' (to_k0 (fun _ _ h => h) (hK7 _ _ _ _ _ ?_))
    clear hK7
    refine wp_seq' fun K8 hK8 => ?_
    refine wp_block' ?_
    refine wp_seq' fun K9 hK9 => ?_
    refine wp_reg ?_
    refine ol_ixr hl rfl rfl sl148 (by omega) rfl fun x10 hx10 => ?_
    try simp only [Int.toNat_natCast] at hx10
    refine ol_r (r_ldw rfl (fun w1 hb1 hs1 hB1 => show Loads _ _ _ _ (.int .i64 x10) from Rd.loads hl ty29 hx10 hb1)) rfl ?_
    refine ol_r (r_assign rfl) rfl ?_
    refine ol_nil (to_k0 (fun _ _ h => h) (hK9 _ _ _ _ _ ?_))
    clear hK9
    refine wp_seq' fun K10 hK10 => ?_
    refine wp_reg ?_
    refine ol_r (r_move rfl) rfl ?_
    refine ol_r (r_move rfl) rfl ?_
    refine ol_r (r_neq rfl rfl) rfl ?_
    refine ol_nil (to_k0 (fun _ _ h => h) (hK10 _ _ _ _ _ ?_))
    clear hK10
    refine wp_condD rfl (fun hc14 => ?_) (fun hc14 => ?_)
    ·refine wp_seq' fun K11 hK11 => ?_
     refine wp_reg ?_
     refine ol_r (r_move rfl) rfl ?_
     refine ol_r (r_assign rfl) rfl ?_
     refine ol_nil (to_k0 (fun _ _ h => h) (hK11 _ _ _ _ _ ?_))
     clear hK11
     refine hQ.ret (rvs1 (rv_t rfl)) (fun _ _ h => h) fun w hb hs hB hkd => ?_
     rw [orL_next hP, drop_cons_get hx10, orL, if_pos hc14]
     exact ⟨rfl, hb⟩
    ·refine wp_skip' (to_k0 (fun _ _ h => h) (hK8 _ _ _ _ _ ?_))
     clear hK8
     refine wp_reg ?_
     refine ol_r (r_add rfl rfl (by omega)) rfl ?_
     refine ol_r (r_move rfl) rfl ?_
     refine ol_nil (to_k0 (fun _ _ h => h) (hK5 (k + 1) _ _ ?_ ?_ (sub_cons rfl sub_nil) (sub_cons rfl (sub_cons rfl (sub_cons rfl sub_nil))) (by exact subH_nil) subH_nil))
     ·try dsimp only
      refine ⟨by omega, fun x hx => ?_⟩
      rw [take_succ_get hx10] at hx
      rcases List.mem_append.1 hx with h | h
      · exact hP x h
      · simp at h; omega
     ·try dsimp only
      omega
   ·refine wp_exit' (to_k0 (fun _ _ h => h) (hK3 _ _ _ _ _ ?_))
    clear hK3
    refine wp_seq' fun K12 hK12 => ?_
    refine wp_reg ?_
    refine ol_r (r_move rfl) rfl ?_
    refine ol_r (r_assign rfl) rfl ?_
    refine ol_nil (to_k0 (fun _ _ h => h) (hK12 _ _ _ _ _ ?_))
    clear hK12
    refine hQ.ret (rvs1 (rv_t rfl)) (fun _ _ h => h) fun w hb hs hB hkd => ?_
    rw [orL_next hP, List.drop_eq_nil_of_le (by omega)]
    exact ⟨rfl, hb⟩
theorem match_checkRun (nm : ByteArray) (ga : Option Addr) (gn gc : Nat) (gs : List GateR) (A : ActV) (w : World) (hn : nm.size ≤ 9223372036854775807) (hS : Rd encGate w.heap.size w ga gn gc gs) (hA : A.Ok w.heap.size w) :
    Calls Try.prog 37 #[.agg #[.string nm, .slice ga gn gc], .agg #[.string A.name, .int .i64 A.sport, .int .i64 A.start, .slice A.sa A.sn A.sc, .slice A.la A.ln A.lc, .slice A.ta A.tn A.tc]] w fun e w' => e = .returned (.int .i64 (orL [chkSeg nm gs, chkA A.d])) ∧ Below w.heap.size w w' := by
  refine enterQ (N := 11) (C := fun _ => True) (H := []) (B := w.heap.size) (args := [_, _]) Try.func37 rfl rfl rfl (Nat.le_refl _) (Sat.nil _ _) fun Q hQ => ?_
  refine wp_seq' fun K1 hK1 => ?_
  refine wp_reg ?_
  refine ol_box 2 rfl rfl rfl fun b2 => ?_
  refine ol_box 3 rfl rfl rfl fun b3 => ?_
  refine ol_r (r_assign rfl) rfl ?_
  refine ol_nil (to_k0 (fun _ _ h => h) (hK1 _ _ _ _ _ ?_))
  clear hK1
  refine wp_seq' fun K2 hK2 => ?_
  refine wp_rega [(999, [(2, _), (3, _)])] (by kernel_rfl) ⟨.inr (subH_same rfl (subH_same rfl subH_nil)), trivial⟩ ?_
  refine aq_r 0 999 rfl (by kernel_rfl) (by kernel_rfl) (by kernel_rfl) (.head _) (by kernel_rfl) (by kernel_rfl) rfl (r_lda (id := 2) (n := 2) rfl rfl rfl ag52) ?_
  refine aq_r 2 999 rfl (by kernel_rfl) (by kernel_rfl) (by kernel_rfl) (.head _) (by kernel_rfl) (by kernel_rfl) rfl (r_lda (id := 3) (n := 6) rfl rfl rfl ag57) ?_
  refine aq_one (i := 1) (by kernel_rfl) rfl fun K3 hK3 => ?_
  refine ol_call rfl rfl cb69 rfl (fun w1 hb1 hs1 hB1 => Calls.mono (match_CheckSegment nm _ _ _ gs _ hn (hS.at hb1 hB1)) ?_)
  rintro e w2 ⟨rfl, hb2⟩
  refine After.below rfl hb1 hs1 hB1 hb2 ?_
  clear hb2 hB1 hs1 hb1 w2 w1
  refine ol_nil (to_k0 (fun _ _ h => h) (hK3 _ _ ⟨.inr (by repeat' first | exact subH_nil | refine subH_same rfl ?_ | (refine subH_blk rfl (by repeat' first | exact sub_nil | refine sub_cons rfl ?_) ?_)), trivial⟩ ?_))
  clear hK3
  refine aq_one (i := 3) (by kernel_rfl) rfl fun K4 hK4 => ?_
  refine ol_call rfl rfl cb20 rfl (fun w1 hb1 hs1 hB1 => Calls.mono (record_Check A _ (hA.at hb1 hB1)) ?_)
  rintro e w2 ⟨rfl, hb2⟩
  refine After.below rfl hb1 hs1 hB1 hb2 ?_
  clear hb2 hB1 hs1 hb1 w2 w1
  refine ol_nil (to_k0 (fun _ _ h => h) (hK4 _ _ ⟨.inr (by repeat' first | exact subH_nil | refine subH_same rfl ?_ | (refine subH_blk rfl (by repeat' first | exact sub_nil | refine sub_cons rfl ?_) ?_)), trivial⟩ ?_))
  clear hK4
  refine aq_one (i := 4) (by kernel_rfl) rfl fun K5 hK5 => ?_
  refine ol_bsN 9 rfl rw148 rfl rfl (fun _ => by kernel_rfl) rfl fun a9 => ?_
  refine ol_nil (to_k0 (fun _ _ h => h) (hK5 _ _ ⟨.inr (by repeat' first | exact subH_nil | refine subH_same rfl ?_ | (refine subH_blk rfl (by repeat' first | exact sub_nil | refine sub_cons rfl ?_) ?_)), trivial⟩ ?_))
  clear hK5
  refine aq_one (i := 5) (by kernel_rfl) rfl fun K6 hK6 => ?_
  refine ol_call rfl rfl cb53 rfl (fun w1 hb1 hs1 hB1 => Calls.mono (cmp_OrE _ _ _ [chkSeg nm gs, chkA A.d] _ (Sat.rd hs1 (E := encI) (xs := [chkSeg nm gs, chkA A.d]) (id := 9) rfl rfl)) ?_)
  rintro e w2 ⟨rfl, hb2⟩
  refine After.below rfl hb1 hs1 hB1 hb2 ?_
  clear hb2 hB1 hs1 hb1 w2 w1
  refine ol_nil (to_k0 (fun _ _ h => h) (hK6 _ _ ⟨.inr (by repeat' first | exact subH_nil | refine subH_same rfl ?_ | (refine subH_blk rfl (by repeat' first | exact sub_nil | refine sub_cons rfl ?_) ?_)), trivial⟩ ?_))
  clear hK6
  refine aq_r 6 999 rfl (by kernel_rfl) (by kernel_rfl) (by kernel_rfl) (.head _) (by kernel_rfl) (by kernel_rfl) rfl (r_assign rfl) ?_
  refine aq_done (by kernel_rfl) ?_
  refine (to_k0 (fun _ _ h => h) (hK2 _ _ _ _ _ ?_))
  clear hK2
  refine hQ.ret (rvs1 (rv_t rfl)) (fun _ _ h => h) fun w hb hs hB hkd => ?_
  exact ⟨rfl, hb⟩
def toldG : List GateR := [⟨0, 10, 0, -10⟩, ⟨100, 10, 100, -10⟩]
def toldS : List SmpR := [⟨0, -5, 0, 0, -1, -1, -1⟩, ⟨10, 5, 0, 0, -1, -1, -1⟩]
theorem told_steps : stepsL toldS = [(⟨0, -5, 0, 0, -1, -1, -1⟩, ⟨10, 5, 0, 0, -1, -1, -1⟩)] := rfl
theorem told_seg : SegOk ⟨#[115]⟩ toldG := segOk (by decide +kernel)
def toldA (a : Option Addr) (c : Nat) : ActV := ⟨⟨#[97]⟩, 1, 0, a, 2, c, none, 0, 0, none, 0, 0, toldS, [], []⟩
def toldD : ActD := ⟨⟨#[97]⟩, 1, 0, toldS, [], []⟩
theorem told_good (a : Option Addr) (c : Nat) : GoodA (toldA a c).d := goodA (by show chkA toldD = 0; decide +kernel)
theorem toldA_ok {C : Nat} {w : World} {a : Option Addr} {c : Nat} (h : Rd encSmp C w a 2 c toldS) : (toldA a c).Ok C w :=
  { s := h, l := Rd.nil, t := Rd.nil, nm := by show 1 ≤ _; decide, lm := fun x hx => by simp [toldA] at hx, tm := fun x hx => by simp [toldA] at hx,
    lo := fun x hx => by simp [toldA, toldS] at hx; rcases hx with rfl | rfl <;> decide }
end Go.Proofs.Ytfbmkepogcimlaa
