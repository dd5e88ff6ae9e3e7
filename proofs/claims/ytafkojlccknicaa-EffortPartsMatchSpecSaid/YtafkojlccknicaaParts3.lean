/-
  PartOf (under way).
-/
import Derived.Test.YtafkojlccknicaaParts2
namespace Go.Proofs.Ytafkojlccknicaa
open Go Go.RowKit Hx
set_option linter.unusedVariables false
set_option linter.unusedSimpArgs false
set_option maxRecDepth 8000
/-- What a part was: ten numbers. -/
structure PartV where
  f : Int
  t : Int
  way : Int
  climb : Int
  pulse : Int
  power : Int
  steps : Int
  pk : Int
  wk : Int
  sk : Int
noncomputable def partV (ss : List SmpR) (f t : Nat) : PartV :=
  let S (k : Int) := subL (strmL k ss (ss.length - 1)) f t
  ⟨f, t, knS (S 4), knS (S 5), knS (S 1), knS (S 2), knS (S 3), knN (S 1), knN (S 2), knN (S 3)⟩
noncomputable def partOfR (a : ActD) (f t : Int) : PartV × Int :=
  if chkA a ≠ 0 then (⟨0, 0, 0, 0, 0, 0, 0, 0, 0, 0⟩, chkA a) else if f < 0 ∨ t < f ∨ spanL a.ss < t then (⟨0, 0, 0, 0, 0, 0, 0, 0, 0, 0⟩, 9) else (partV a.ss f.toNat t.toNat, 0)
theorem strm_len {ss : List SmpR} {st : Int} (h : SmpOk st ss) (kind : Int) : ((strmL kind ss (ss.length - 1)).length : Int) = spanL ss := by
  cases hx : ss[ss.length - 1]? with
  | none =>
    have := List.getElem?_eq_none_iff.1 hx
    have h3 : ss = [] := List.length_eq_zero_iff.1 (by omega)
    subst h3; rfl
  | some x =>
    rw [strmL_len h kind _ _ hx]
    have hlt := (List.getElem?_eq_some_iff.1 hx).1
    rw [spanL_get hx (by omega)]
theorem strOk {ss : List SmpR} {st : Int} (h : SmpOk st ss) (kind : Int) {w : World} {a : Option Addr} {n c t : Nat} (hr : Rd encI w.heap.size w a n c (strmL kind ss (ss.length - 1))) (ht : (t : Int) ≤ spanL ss) : StrOk w t a n c (strmL kind ss (ss.length - 1)) := by
  have h1 := strm_len h kind
  have h2 := h.span
  exact ⟨hr, by omega, by omega, fun x hx => (strmL_bd h kind _ x hx).2⟩
theorem partOfR_e {a : ActD} {f t : Int} (h : chkA a ≠ 0) : partOfR a f t = (⟨0, 0, 0, 0, 0, 0, 0, 0, 0, 0⟩, chkA a) := if_pos h
theorem partOfR_9 {a : ActD} {f t : Int} (h : chkA a = 0) (h1 : f < 0 ∨ t < f ∨ spanL a.ss < t) : partOfR a f t = (⟨0, 0, 0, 0, 0, 0, 0, 0, 0, 0⟩, 9) := by unfold partOfR; rw [if_neg (by simp [h]), if_pos h1]
theorem partOfR_0 {a : ActD} {f t : Nat} (h : chkA a = 0) (h1 : ¬((f : Int) < 0 ∨ (t : Int) < f ∨ spanL a.ss < t)) : partOfR a f t = (partV a.ss f t, 0) := by unfold partOfR; rw [if_neg (by simp [h]), if_neg h1]; rfl
theorem effort_PartOf (A : ActV) (f t : Int) (w : World) (hA : A.Ok w.heap.size w) :
    Calls Try.prog 38 #[.agg #[.string A.name, .int .i64 A.sport, .int .i64 A.start, .slice A.sa A.sn A.sc, .slice A.la A.ln A.lc, .slice A.ta A.tn A.tc], .int .i64 f, .int .i64 t] w fun e w' => e = .returned (.tuple #[.agg #[.int .i64 (partOfR A.d f t).1.f, .int .i64 (partOfR A.d f t).1.t, .int .i64 (partOfR A.d f t).1.way, .int .i64 (partOfR A.d f t).1.climb, .int .i64 (partOfR A.d f t).1.pulse, .int .i64 (partOfR A.d f t).1.power, .int .i64 (partOfR A.d f t).1.steps, .int .i64 (partOfR A.d f t).1.pk, .int .i64 (partOfR A.d f t).1.wk, .int .i64 (partOfR A.d f t).1.sk], .int .i64 (partOfR A.d f t).2]) ∧ Below w.heap.size w w' := by
  refine enterQ (N := 34) (C := fun _ => True) (H := []) (B := w.heap.size) (args := [_, _, _]) Try.func38 rfl rfl rfl (Nat.le_refl _) (Sat.nil _ _) fun Q hQ => ?_
  refine wp_seq' fun K1 hK1 => ?_
  refine wp_reg ?_
  refine ol_box 3 rfl rfl rfl fun b3 => ?_
  refine ol_alloc 6 z55 rfl fun b6 => ?_
  refine ol_r (r_assign rfl) rfl ?_
  refine ol_nil (to_k0 (fun _ _ h => h) (hK1 _ _ _ _ _ ?_))
  clear hK1
  refine wp_seq' fun K2 hK2 => ?_
  refine wp_seq' fun K3 hK3 => ?_
  refine wp_reg ?_
  refine ol_r (r_lda (id := 3) (n := 6) rfl rfl rfl ag51) rfl ?_
  refine ol_call rfl rfl cb80 rfl (fun w1 hb1 hs1 hB1 => Calls.mono (record_Check A _ (hA.at hb1 hB1)) ?_)
  rintro e w2 ⟨rfl, hb2⟩
  refine After.below rfl hb1 hs1 hB1 hb2 ?_
  clear hb2 hB1 hs1 hb1 w2 w1
  refine ol_r (r_assign rfl) rfl ?_
  refine ol_nil (to_k0 (fun _ _ h => h) (hK3 _ _ _ _ _ ?_))
  clear hK3
  refine wp_seq' fun K4 hK4 => ?_
  refine wp_reg ?_
  refine ol_r (r_move rfl) rfl ?_
  refine ol_r (r_neq rfl rfl) rfl ?_
  refine ol_nil (to_k0 (fun _ _ h => h) (hK4 _ _ _ _ _ ?_))
  clear hK4
  first | refine wp_condD rfl (fun hc12 => ?_) (fun hc12 => ?_) | refine wp_condN rfl (fun hc12 => ?_) (fun hc12 => ?_) | refine wp_condNB rfl (fun hc12 => ?_) (fun hc12 => ?_) | refine wp_cond' rfl (fun hc12 => ?_) (fun hc12 => ?_)
  ·refine wp_seq' fun K5 hK5 => ?_
   refine wp_reg ?_
   refine ol_r (r_build rfl (fun _ => bd55 _)) rfl ?_
   refine ol_r (r_move rfl) rfl ?_
   refine ol_store (id := 6) rfl rfl rfl rfl sz55 rfl rfl (by first | decide | exact Nat.zero_lt_succ _ | simp) ?_
   refine ol_r (r_assign rfl) rfl ?_
   refine ol_nil (to_k0 (fun _ _ h => h) (hK5 _ _ _ _ _ ?_))
   clear hK5
   refine hQ.ret (rvs2 (rv_c (id := 6) (n := 10) rfl rfl ag55 rfl) (rv_t rfl)) (fun _ _ h => h) fun w hb hs hB hkd => ?_
   first
     | (have h := partOfR_e (f := f) (t := t) hc12
        exact ⟨by rw [h], hb⟩)
     | (have h := partOfR_0 (a := A.d) (f := f) (t := t) h0 (by show ¬(_ ∨ _ ∨ spanL A.ss < _); omega)
        exact ⟨by rw [h]; rfl, hb⟩)
     | (have h := partOfR_9 (a := A.d) (f := f) (t := t) (Decidable.not_not.1 hc12) (by show _ ∨ _ ∨ spanL A.ss < _; omega)
        exact ⟨by rw [h], hb⟩)
  ·refine wp_skip' (to_k0 (fun _ _ h => h) (hK2 _ _ _ _ _ ?_))
   clear hK2
   refine wp_seq' fun K6 hK6 => ?_
   refine wp_seq' fun K7 hK7 => ?_
   refine wp_reg ?_
   refine ol_r (r_move rfl) rfl ?_
   refine ol_r (r_lss rfl rfl) rfl ?_
   refine ol_r (r_move rfl) rfl ?_
   refine ol_split (d := 17) rfl (fun hs17 => ?_) (fun hs17 => ?_)
   ·have phs17 := hs17; try simp only [decide_eq_true_eq, decide_eq_false_iff_not, Bool.not_eq_true', Bool.not_eq_false', Bool.not_true, Bool.not_false] at phs17
    refine ol_s rfl rfl hs17 rfl ?_
    refine ol_s rfl rfl hs17 rfl ?_
    refine ol_s rfl rfl hs17 rfl ?_
    refine ol_r (r_pickT rfl hs17 rfl) rfl ?_
    refine ol_r (r_move rfl) rfl ?_
    refine ol_s rfl rfl rfl rfl ?_
    refine ol_s rfl rfl rfl rfl ?_
    refine ol_s rfl rfl rfl rfl ?_
    refine ol_s rfl rfl rfl rfl ?_
    refine ol_r (r_pickT rfl rfl rfl) rfl ?_
    refine ol_nil (to_k0 (fun _ _ h => h) (hK7 _ _ _ _ _ ?_))
    clear hK7
    refine wp_condT rfl ?_
    refine wp_seq' fun K8 hK8 => ?_
    refine wp_reg ?_
    refine ol_r (r_build rfl (fun _ => bd55 _)) rfl ?_
    refine ol_store (id := 6) rfl rfl rfl rfl sz55 rfl rfl (by first | decide | exact Nat.zero_lt_succ _ | simp) ?_
    refine ol_r (r_assign rfl) rfl ?_
    refine ol_nil (to_k0 (fun _ _ h => h) (hK8 _ _ _ _ _ ?_))
    clear hK8
    refine hQ.ret (rvs2 (rv_c (id := 6) (n := 10) rfl rfl ag55 rfl) (rv_t rfl)) (fun _ _ h => h) fun w hb hs hB hkd => ?_
    first
      | (have h := partOfR_e (f := f) (t := t) hc12
         exact ⟨by rw [h], hb⟩)
      | (have h := partOfR_0 (a := A.d) (f := f) (t := t) h0 (by show ¬(_ ∨ _ ∨ spanL A.ss < _); omega)
         exact ⟨by rw [h]; rfl, hb⟩)
      | (have h := partOfR_9 (a := A.d) (f := f) (t := t) (Decidable.not_not.1 hc12) (by show _ ∨ _ ∨ spanL A.ss < _; omega)
         exact ⟨by rw [h], hb⟩)
   ·have phs17 := hs17; try simp only [decide_eq_true_eq, decide_eq_false_iff_not, Bool.not_eq_true', Bool.not_eq_false', Bool.not_true, Bool.not_false] at phs17
    refine ol_g rfl rfl hs17 ?_
    refine ol_r (r_move rfl) rfl ?_
    refine ol_g rfl rfl hs17 ?_
    refine ol_r (r_move rfl) rfl ?_
    refine ol_g rfl rfl hs17 ?_
    refine ol_r (r_gtr rfl rfl) rfl ?_
    refine ol_r (r_pickF rfl hs17 rfl) rfl ?_
    refine ol_r (r_move rfl) rfl ?_
    refine ol_split (d := 22) rfl (fun hs22 => ?_) (fun hs22 => ?_)
    ·have phs22 := hs22; try simp only [decide_eq_true_eq, decide_eq_false_iff_not, Bool.not_eq_true', Bool.not_eq_false', Bool.not_true, Bool.not_false] at phs22
     refine ol_s rfl rfl hs22 rfl ?_
     refine ol_s rfl rfl hs22 rfl ?_
     refine ol_s rfl rfl hs22 rfl ?_
     refine ol_s rfl rfl hs22 rfl ?_
     refine ol_r (r_pickT rfl hs22 rfl) rfl ?_
     refine ol_nil (to_k0 (fun _ _ h => h) (hK7 _ _ _ _ _ ?_))
     clear hK7
     refine wp_condT rfl ?_
     refine wp_seq' fun K9 hK9 => ?_
     refine wp_reg ?_
     refine ol_r (r_build rfl (fun _ => bd55 _)) rfl ?_
     refine ol_store (id := 6) rfl rfl rfl rfl sz55 rfl rfl (by first | decide | exact Nat.zero_lt_succ _ | simp) ?_
     refine ol_r (r_assign rfl) rfl ?_
     refine ol_nil (to_k0 (fun _ _ h => h) (hK9 _ _ _ _ _ ?_))
     clear hK9
     refine hQ.ret (rvs2 (rv_c (id := 6) (n := 10) rfl rfl ag55 rfl) (rv_t rfl)) (fun _ _ h => h) fun w hb hs hB hkd => ?_
     first
       | (have h := partOfR_e (f := f) (t := t) hc12
          exact ⟨by rw [h], hb⟩)
       | (have h := partOfR_0 (a := A.d) (f := f) (t := t) h0 (by show ¬(_ ∨ _ ∨ spanL A.ss < _); omega)
          exact ⟨by rw [h]; rfl, hb⟩)
       | (have h := partOfR_9 (a := A.d) (f := f) (t := t) (Decidable.not_not.1 hc12) (by show _ ∨ _ ∨ spanL A.ss < _; omega)
          exact ⟨by rw [h], hb⟩)
    ·have phs22 := hs22; try simp only [decide_eq_true_eq, decide_eq_false_iff_not, Bool.not_eq_true', Bool.not_eq_false', Bool.not_true, Bool.not_false] at phs22
     refine ol_g rfl rfl hs22 ?_
     refine ol_r (r_move rfl) rfl ?_
     refine ol_g rfl rfl hs22 ?_
     refine ol_r (r_lda (id := 3) (n := 6) rfl rfl rfl ag51) rfl ?_
     refine ol_g rfl rfl hs22 ?_
     refine ol_call rfl rfl cb84 rfl (fun w1 hb1 hs1 hB1 => Calls.mono (record_Span A _ (hA.at hb1 hB1)) ?_)
     rintro e w2 ⟨rfl, hb2⟩
     refine After.below rfl hb1 hs1 hB1 hb2 ?_
     clear hb2 hB1 hs1 hb1 w2 w1
     refine ol_g rfl rfl hs22 ?_
     refine ol_r (r_gtr rfl rfl) rfl ?_
     refine ol_r (r_pickF rfl hs22 rfl) rfl ?_
     refine ol_nil (to_k0 (fun _ _ h => h) (hK7 _ _ _ _ _ ?_))
     clear hK7
     first | refine wp_condD rfl (fun hc27 => ?_) (fun hc27 => ?_) | refine wp_condN rfl (fun hc27 => ?_) (fun hc27 => ?_) | refine wp_condNB rfl (fun hc27 => ?_) (fun hc27 => ?_) | refine wp_cond' rfl (fun hc27 => ?_) (fun hc27 => ?_)
     ·refine wp_seq' fun K10 hK10 => ?_
      refine wp_reg ?_
      refine ol_r (r_build rfl (fun _ => bd55 _)) rfl ?_
      refine ol_store (id := 6) rfl rfl rfl rfl sz55 rfl rfl (by first | decide | exact Nat.zero_lt_succ _ | simp) ?_
      refine ol_r (r_assign rfl) rfl ?_
      refine ol_nil (to_k0 (fun _ _ h => h) (hK10 _ _ _ _ _ ?_))
      clear hK10
      refine hQ.ret (rvs2 (rv_c (id := 6) (n := 10) rfl rfl ag55 rfl) (rv_t rfl)) (fun _ _ h => h) fun w hb hs hB hkd => ?_
      first
        | (have h := partOfR_e (f := f) (t := t) hc12
           exact ⟨by rw [h], hb⟩)
        | (have h := partOfR_0 (a := A.d) (f := f) (t := t) h0 (by show ¬(_ ∨ _ ∨ spanL A.ss < _); omega)
           exact ⟨by rw [h]; rfl, hb⟩)
        | (have h := partOfR_9 (a := A.d) (f := f) (t := t) (Decidable.not_not.1 hc12) (by show _ ∨ _ ∨ spanL A.ss < _; omega)
           exact ⟨by rw [h], hb⟩)
     ·refine wp_skip' (to_k0 (fun _ _ h => h) (hK6 _ _ _ _ _ ?_))
      clear hK6
      refine wp_seq' fun K11 hK11 => ?_
      refine wp_reg ?_
      have h0 : chkA A.d = 0 := Decidable.not_not.1 hc12
      have hok : SmpOk A.start A.ss := (goodA h0).smp
      obtain ⟨f, rfl⟩ := Int.eq_ofNat_of_zero_le (show 0 ≤ f by omega)
      obtain ⟨t, rfl⟩ := Int.eq_ofNat_of_zero_le (show 0 ≤ t by omega)
      refine ol_r (r_lda (id := 3) (n := 6) rfl rfl rfl ag51) rfl ?_
      refine ol_call rfl rfl cb86 rfl (fun w1 hb1 hs1 hB1 => ?_)
      refine Calls.mono (effort_streams A _ (hA.at hb1 hB1) hok) ?_
      rintro e w2 ⟨a1, n1, c1, a2, n2, c2, a3, n3, c3, a4, n4, c4, a5, n5, c5, rfl, hb2, hs2⟩
      refine After.more rfl hb1 hs1 hB1 hb2 hs2 ?_
      clear hs2 hb2 hB1 hs1 hb1 w2 w1
      refine ol_r (r_move rfl) rfl ?_
      refine ol_r (r_move rfl) rfl ?_
      refine ol_call rfl rfl cb85 rfl (fun w1 hb1 hs1 hB1 => Calls.mono (effort_partOf _ _ _ _ _ _ _ _ _ _ _ _ _ _ _ _ _ _ _ _ f t _ (strOk hok 1 (Sat.rd hs1 (id := 2001) rfl rfl) (by omega)) (strOk hok 2 (Sat.rd hs1 (id := 2002) rfl rfl) (by omega)) (strOk hok 3 (Sat.rd hs1 (id := 2003) rfl rfl) (by omega)) (strOk hok 4 (Sat.rd hs1 (id := 2004) rfl rfl) (by omega)) (strOk hok 5 (Sat.rd hs1 (id := 2005) rfl rfl) (by omega)) (by omega)) ?_)
      rintro e w2 ⟨rfl, hb2⟩
      refine After.below rfl hb1 hs1 hB1 hb2 ?_
      clear hb2 hB1 hs1 hb1 w2 w1
      refine ol_store (id := 6) rfl rfl rfl rfl sz55 rfl rfl (by first | decide | exact Nat.zero_lt_succ _ | simp) ?_
      refine ol_r (r_assign rfl) rfl ?_
      refine ol_nil (to_k0 (fun _ _ h => h) (hK11 _ _ _ _ _ ?_))
      clear hK11
      refine hQ.ret (rvs2 (rv_c (id := 6) (n := 10) rfl rfl ag55 rfl) (rv_t rfl)) (fun _ _ h => h) fun w hb hs hB hkd => ?_
      first
        | (have h := partOfR_e (f := f) (t := t) hc12
           exact ⟨by rw [h], hb⟩)
        | (have h := partOfR_0 (a := A.d) (f := f) (t := t) h0 (by show ¬(_ ∨ _ ∨ spanL A.ss < _); omega)
           exact ⟨by rw [h]; rfl, hb⟩)
        | (have h := partOfR_9 (a := A.d) (f := f) (t := t) (Decidable.not_not.1 hc12) (by show _ ∨ _ ∨ spanL A.ss < _; omega)
           exact ⟨by rw [h], hb⟩)
theorem ref4_PartOf (A : ActV) (f t : Int) (w : World) (hA : A.Ok w.heap.size w) :
    Calls Try.prog 39 #[.agg #[.string A.name, .int .i64 A.sport, .int .i64 A.start, .slice A.sa A.sn A.sc, .slice A.la A.ln A.lc, .slice A.ta A.tn A.tc], .int .i64 f, .int .i64 t] w fun e w' => e = .returned (.tuple #[.agg #[.int .i64 (partOfR A.d f t).1.f, .int .i64 (partOfR A.d f t).1.t, .int .i64 (partOfR A.d f t).1.way, .int .i64 (partOfR A.d f t).1.climb, .int .i64 (partOfR A.d f t).1.pulse, .int .i64 (partOfR A.d f t).1.power, .int .i64 (partOfR A.d f t).1.steps, .int .i64 (partOfR A.d f t).1.pk, .int .i64 (partOfR A.d f t).1.wk, .int .i64 (partOfR A.d f t).1.sk], .int .i64 (partOfR A.d f t).2]) ∧ Below w.heap.size w w' := by
  refine enterQ (N := 34) (C := fun _ => True) (H := []) (B := w.heap.size) (args := [_, _, _]) Try.func39 rfl rfl rfl (Nat.le_refl _) (Sat.nil _ _) fun Q hQ => ?_
  refine wp_seq' fun K1 hK1 => ?_
  refine wp_reg ?_
  refine ol_box 3 rfl rfl rfl fun b3 => ?_
  refine ol_alloc 6 z55 rfl fun b6 => ?_
  refine ol_r (r_assign rfl) rfl ?_
  refine ol_nil (to_k0 (fun _ _ h => h) (hK1 _ _ _ _ _ ?_))
  clear hK1
  refine wp_seq' fun K2 hK2 => ?_
  refine wp_seq' fun K3 hK3 => ?_
  refine wp_reg ?_
  refine ol_r (r_lda (id := 3) (n := 6) rfl rfl rfl ag51) rfl ?_
  refine ol_call rfl rfl cb82 rfl (fun w1 hb1 hs1 hB1 => Calls.mono (ref2_Check A _ (hA.at hb1 hB1)) ?_)
  rintro e w2 ⟨rfl, hb2⟩
  refine After.below rfl hb1 hs1 hB1 hb2 ?_
  clear hb2 hB1 hs1 hb1 w2 w1
  refine ol_r (r_assign rfl) rfl ?_
  refine ol_nil (to_k0 (fun _ _ h => h) (hK3 _ _ _ _ _ ?_))
  clear hK3
  refine wp_seq' fun K4 hK4 => ?_
  refine wp_reg ?_
  refine ol_r (r_move rfl) rfl ?_
  refine ol_r (r_neq rfl rfl) rfl ?_
  refine ol_nil (to_k0 (fun _ _ h => h) (hK4 _ _ _ _ _ ?_))
  clear hK4
  first | refine wp_condD rfl (fun hc12 => ?_) (fun hc12 => ?_) | refine wp_condN rfl (fun hc12 => ?_) (fun hc12 => ?_) | refine wp_condNB rfl (fun hc12 => ?_) (fun hc12 => ?_) | refine wp_cond' rfl (fun hc12 => ?_) (fun hc12 => ?_)
  ·refine wp_seq' fun K5 hK5 => ?_
   refine wp_reg ?_
   refine ol_r (r_build rfl (fun _ => bd55 _)) rfl ?_
   refine ol_r (r_move rfl) rfl ?_
   refine ol_store (id := 6) rfl rfl rfl rfl sz55 rfl rfl (by first | decide | exact Nat.zero_lt_succ _ | simp) ?_
   refine ol_r (r_assign rfl) rfl ?_
   refine ol_nil (to_k0 (fun _ _ h => h) (hK5 _ _ _ _ _ ?_))
   clear hK5
   refine hQ.ret (rvs2 (rv_c (id := 6) (n := 10) rfl rfl ag55 rfl) (rv_t rfl)) (fun _ _ h => h) fun w hb hs hB hkd => ?_
   first
     | (have h := partOfR_e (f := f) (t := t) hc12
        exact ⟨by rw [h], hb⟩)
     | (have h := partOfR_0 (a := A.d) (f := f) (t := t) h0 (by show ¬(_ ∨ _ ∨ spanL A.ss < _); omega)
        exact ⟨by rw [h]; rfl, hb⟩)
     | (have h := partOfR_9 (a := A.d) (f := f) (t := t) (Decidable.not_not.1 hc12) (by show _ ∨ _ ∨ spanL A.ss < _; omega)
        exact ⟨by rw [h], hb⟩)
  ·refine wp_skip' (to_k0 (fun _ _ h => h) (hK2 _ _ _ _ _ ?_))
   clear hK2
   refine wp_seq' fun K6 hK6 => ?_
   refine wp_seq' fun K7 hK7 => ?_
   refine wp_reg ?_
   refine ol_r (r_move rfl) rfl ?_
   refine ol_r (r_lss rfl rfl) rfl ?_
   refine ol_r (r_move rfl) rfl ?_
   refine ol_split (d := 17) rfl (fun hs17 => ?_) (fun hs17 => ?_)
   ·have phs17 := hs17; try simp only [decide_eq_true_eq, decide_eq_false_iff_not, Bool.not_eq_true', Bool.not_eq_false', Bool.not_true, Bool.not_false] at phs17
    refine ol_s rfl rfl hs17 rfl ?_
    refine ol_s rfl rfl hs17 rfl ?_
    refine ol_s rfl rfl hs17 rfl ?_
    refine ol_r (r_pickT rfl hs17 rfl) rfl ?_
    refine ol_r (r_move rfl) rfl ?_
    refine ol_s rfl rfl rfl rfl ?_
    refine ol_s rfl rfl rfl rfl ?_
    refine ol_s rfl rfl rfl rfl ?_
    refine ol_s rfl rfl rfl rfl ?_
    refine ol_r (r_pickT rfl rfl rfl) rfl ?_
    refine ol_nil (to_k0 (fun _ _ h => h) (hK7 _ _ _ _ _ ?_))
    clear hK7
    refine wp_condT rfl ?_
    refine wp_seq' fun K8 hK8 => ?_
    refine wp_reg ?_
    refine ol_r (r_build rfl (fun _ => bd55 _)) rfl ?_
    refine ol_store (id := 6) rfl rfl rfl rfl sz55 rfl rfl (by first | decide | exact Nat.zero_lt_succ _ | simp) ?_
    refine ol_r (r_assign rfl) rfl ?_
    refine ol_nil (to_k0 (fun _ _ h => h) (hK8 _ _ _ _ _ ?_))
    clear hK8
    refine hQ.ret (rvs2 (rv_c (id := 6) (n := 10) rfl rfl ag55 rfl) (rv_t rfl)) (fun _ _ h => h) fun w hb hs hB hkd => ?_
    first
      | (have h := partOfR_e (f := f) (t := t) hc12
         exact ⟨by rw [h], hb⟩)
      | (have h := partOfR_0 (a := A.d) (f := f) (t := t) h0 (by show ¬(_ ∨ _ ∨ spanL A.ss < _); omega)
         exact ⟨by rw [h]; rfl, hb⟩)
      | (have h := partOfR_9 (a := A.d) (f := f) (t := t) (Decidable.not_not.1 hc12) (by show _ ∨ _ ∨ spanL A.ss < _; omega)
         exact ⟨by rw [h], hb⟩)
   ·have phs17 := hs17; try simp only [decide_eq_true_eq, decide_eq_false_iff_not, Bool.not_eq_true', Bool.not_eq_false', Bool.not_true, Bool.not_false] at phs17
    refine ol_g rfl rfl hs17 ?_
    refine ol_r (r_move rfl) rfl ?_
    refine ol_g rfl rfl hs17 ?_
    refine ol_r (r_move rfl) rfl ?_
    refine ol_g rfl rfl hs17 ?_
    refine ol_r (r_gtr rfl rfl) rfl ?_
    refine ol_r (r_pickF rfl hs17 rfl) rfl ?_
    refine ol_r (r_move rfl) rfl ?_
    refine ol_split (d := 22) rfl (fun hs22 => ?_) (fun hs22 => ?_)
    ·have phs22 := hs22; try simp only [decide_eq_true_eq, decide_eq_false_iff_not, Bool.not_eq_true', Bool.not_eq_false', Bool.not_true, Bool.not_false] at phs22
     refine ol_s rfl rfl hs22 rfl ?_
     refine ol_s rfl rfl hs22 rfl ?_
     refine ol_s rfl rfl hs22 rfl ?_
     refine ol_s rfl rfl hs22 rfl ?_
     refine ol_r (r_pickT rfl hs22 rfl) rfl ?_
     refine ol_nil (to_k0 (fun _ _ h => h) (hK7 _ _ _ _ _ ?_))
     clear hK7
     refine wp_condT rfl ?_
     refine wp_seq' fun K9 hK9 => ?_
     refine wp_reg ?_
     refine ol_r (r_build rfl (fun _ => bd55 _)) rfl ?_
     refine ol_store (id := 6) rfl rfl rfl rfl sz55 rfl rfl (by first | decide | exact Nat.zero_lt_succ _ | simp) ?_
     refine ol_r (r_assign rfl) rfl ?_
     refine ol_nil (to_k0 (fun _ _ h => h) (hK9 _ _ _ _ _ ?_))
     clear hK9
     refine hQ.ret (rvs2 (rv_c (id := 6) (n := 10) rfl rfl ag55 rfl) (rv_t rfl)) (fun _ _ h => h) fun w hb hs hB hkd => ?_
     first
       | (have h := partOfR_e (f := f) (t := t) hc12
          exact ⟨by rw [h], hb⟩)
       | (have h := partOfR_0 (a := A.d) (f := f) (t := t) h0 (by show ¬(_ ∨ _ ∨ spanL A.ss < _); omega)
          exact ⟨by rw [h]; rfl, hb⟩)
       | (have h := partOfR_9 (a := A.d) (f := f) (t := t) (Decidable.not_not.1 hc12) (by show _ ∨ _ ∨ spanL A.ss < _; omega)
          exact ⟨by rw [h], hb⟩)
    ·have phs22 := hs22; try simp only [decide_eq_true_eq, decide_eq_false_iff_not, Bool.not_eq_true', Bool.not_eq_false', Bool.not_true, Bool.not_false] at phs22
     refine ol_g rfl rfl hs22 ?_
     refine ol_r (r_move rfl) rfl ?_
     refine ol_g rfl rfl hs22 ?_
     refine ol_r (r_lda (id := 3) (n := 6) rfl rfl rfl ag51) rfl ?_
     refine ol_g rfl rfl hs22 ?_
     refine ol_call rfl rfl cb87 rfl (fun w1 hb1 hs1 hB1 => Calls.mono (ref2_SpanOf A _ (hA.at hb1 hB1)) ?_)
     rintro e w2 ⟨rfl, hb2⟩
     refine After.below rfl hb1 hs1 hB1 hb2 ?_
     clear hb2 hB1 hs1 hb1 w2 w1
     refine ol_g rfl rfl hs22 ?_
     refine ol_r (r_gtr rfl rfl) rfl ?_
     refine ol_r (r_pickF rfl hs22 rfl) rfl ?_
     refine ol_nil (to_k0 (fun _ _ h => h) (hK7 _ _ _ _ _ ?_))
     clear hK7
     first | refine wp_condD rfl (fun hc27 => ?_) (fun hc27 => ?_) | refine wp_condN rfl (fun hc27 => ?_) (fun hc27 => ?_) | refine wp_condNB rfl (fun hc27 => ?_) (fun hc27 => ?_) | refine wp_cond' rfl (fun hc27 => ?_) (fun hc27 => ?_)
     ·refine wp_seq' fun K10 hK10 => ?_
      refine wp_reg ?_
      refine ol_r (r_build rfl (fun _ => bd55 _)) rfl ?_
      refine ol_store (id := 6) rfl rfl rfl rfl sz55 rfl rfl (by first | decide | exact Nat.zero_lt_succ _ | simp) ?_
      refine ol_r (r_assign rfl) rfl ?_
      refine ol_nil (to_k0 (fun _ _ h => h) (hK10 _ _ _ _ _ ?_))
      clear hK10
      refine hQ.ret (rvs2 (rv_c (id := 6) (n := 10) rfl rfl ag55 rfl) (rv_t rfl)) (fun _ _ h => h) fun w hb hs hB hkd => ?_
      first
        | (have h := partOfR_e (f := f) (t := t) hc12
           exact ⟨by rw [h], hb⟩)
        | (have h := partOfR_0 (a := A.d) (f := f) (t := t) h0 (by show ¬(_ ∨ _ ∨ spanL A.ss < _); omega)
           exact ⟨by rw [h]; rfl, hb⟩)
        | (have h := partOfR_9 (a := A.d) (f := f) (t := t) (Decidable.not_not.1 hc12) (by show _ ∨ _ ∨ spanL A.ss < _; omega)
           exact ⟨by rw [h], hb⟩)
     ·refine wp_skip' (to_k0 (fun _ _ h => h) (hK6 _ _ _ _ _ ?_))
      clear hK6
      refine wp_seq' fun K11 hK11 => ?_
      refine wp_reg ?_
      have h0 : chkA A.d = 0 := Decidable.not_not.1 hc12
      have hok : SmpOk A.start A.ss := (goodA h0).smp
      obtain ⟨f, rfl⟩ := Int.eq_ofNat_of_zero_le (show 0 ≤ f by omega)
      obtain ⟨t, rfl⟩ := Int.eq_ofNat_of_zero_le (show 0 ≤ t by omega)
      refine ol_r (r_lda (id := 3) (n := 6) rfl rfl rfl ag51) rfl ?_
      refine ol_call rfl rfl cb89 rfl (fun w1 hb1 hs1 hB1 => ?_)
      refine Calls.mono (ref4_streams A _ (hA.at hb1 hB1) h0) ?_
      rintro e w2 ⟨a1, n1, c1, a2, n2, c2, a3, n3, c3, a4, n4, c4, a5, n5, c5, rfl, hb2, hs2⟩
      refine After.more rfl hb1 hs1 hB1 hb2 hs2 ?_
      clear hs2 hb2 hB1 hs1 hb1 w2 w1
      refine ol_r (r_move rfl) rfl ?_
      refine ol_r (r_move rfl) rfl ?_
      refine ol_call rfl rfl cb88 rfl (fun w1 hb1 hs1 hB1 => Calls.mono (ref4_partOf _ _ _ _ _ _ _ _ _ _ _ _ _ _ _ _ _ _ _ _ f t _ (strOk hok 1 (Sat.rd hs1 (id := 2001) rfl rfl) (by omega)) (strOk hok 2 (Sat.rd hs1 (id := 2002) rfl rfl) (by omega)) (strOk hok 3 (Sat.rd hs1 (id := 2003) rfl rfl) (by omega)) (strOk hok 4 (Sat.rd hs1 (id := 2004) rfl rfl) (by omega)) (strOk hok 5 (Sat.rd hs1 (id := 2005) rfl rfl) (by omega)) (by omega)) ?_)
      rintro e w2 ⟨rfl, hb2⟩
      refine After.below rfl hb1 hs1 hB1 hb2 ?_
      clear hb2 hB1 hs1 hb1 w2 w1
      refine ol_store (id := 6) rfl rfl rfl rfl sz55 rfl rfl (by first | decide | exact Nat.zero_lt_succ _ | simp) ?_
      refine ol_r (r_assign rfl) rfl ?_
      refine ol_nil (to_k0 (fun _ _ h => h) (hK11 _ _ _ _ _ ?_))
      clear hK11
      refine hQ.ret (rvs2 (rv_c (id := 6) (n := 10) rfl rfl ag55 rfl) (rv_t rfl)) (fun _ _ h => h) fun w hb hs hB hkd => ?_
      first
        | (have h := partOfR_e (f := f) (t := t) hc12
           exact ⟨by rw [h], hb⟩)
        | (have h := partOfR_0 (a := A.d) (f := f) (t := t) h0 (by show ¬(_ ∨ _ ∨ spanL A.ss < _); omega)
           exact ⟨by rw [h]; rfl, hb⟩)
        | (have h := partOfR_9 (a := A.d) (f := f) (t := t) (Decidable.not_not.1 hc12) (by show _ ∨ _ ∨ spanL A.ss < _; omega)
           exact ⟨by rw [h], hb⟩)
end Go.Proofs.Ytafkojlccknicaa
