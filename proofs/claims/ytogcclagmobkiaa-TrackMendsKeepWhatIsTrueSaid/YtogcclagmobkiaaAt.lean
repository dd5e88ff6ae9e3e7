/-
  At and Resample: program and reference; TrackAtMatchesSpec.
-/
import Derived.Test.YtogcclagmobkiaaWhere
import Derived.Test.YtogcclagmobkiaaPart2
import Derived.Test.YtogcclagmobkiaaSame
import Derived.Test.YtogcclagmobkiaaHill
namespace Go.Proofs.Ytogcclagmobkiaa
open Go Go.RowKit Hx
set_option linter.unusedVariables false
set_option linter.unusedSimpArgs false
set_option maxRecDepth 8000
theorem track_At (A : ActV) (t : Int) (w : World) (hA : A.Ok w.heap.size w) :
    Calls Try.prog 11 #[.agg #[.string A.name, .int .i64 A.sport, .int .i64 A.start, .slice A.sa A.sn A.sc, .slice A.la A.ln A.lc, .slice A.ta A.tn A.tc], .int .i64 t] w fun e w' => e = .returned (.tuple #[encSmp.val (atR A.d t).1, .int .i64 (atR A.d t).2]) ∧ Below w.heap.size w w' := by
  have hsn := hA.s.len
  refine enterQ (N := 29) (C := fun _ => True) (H := []) (B := w.heap.size) (args := [_, _]) Try.func11 rfl rfl rfl (Nat.le_refl _) (Sat.nil _ _) fun Q hQ => ?_
  refine wp_seq' fun K1 hK1 => ?_
  refine wp_reg ?_
  refine ol_box 2 rfl rfl rfl fun b2 => ?_
  refine ol_alloc 4 z28 rfl fun b4 => ?_
  refine ol_r (r_assign rfl) rfl ?_
  refine ol_nil (to_k0 (fun _ _ h => h) (hK1 _ _ _ _ _ ?_))
  clear hK1
  refine wp_seq' fun K2 hK2 => ?_
  refine wp_seq' fun K3 hK3 => ?_
  refine wp_reg ?_
  refine ol_r (r_lda (id := 2) (n := 6) rfl rfl rfl ag26) rfl ?_
  refine ol_call rfl rfl cb40 rfl (fun w1 hb1 hs1 hB1 => Calls.mono (record_Check A _ (hA.at hb1 hB1)) ?_)
  rintro e w2 ⟨rfl, hb2⟩
  refine After.below rfl hb1 hs1 hB1 hb2 ?_
  clear hb2 hB1 hs1 hb1 w2 w1
  refine ol_r (r_assign rfl) rfl ?_
  refine ol_nil (to_k0 (fun _ _ h => h) (hK3 _ _ _ _ _ ?_))
  clear hK3
  refine wp_seq' fun K4 hK4 => ?_
  refine wp_reg ?_
  refine ol_r (r_move rfl) rfl ?_
  refine ol_r (r_neq rfl rfl) rfl ?_
  refine ol_nil (to_k0 (fun _ _ h => h) (hK4 _ _ _ _ _ ?_))
  clear hK4
  refine wp_condD rfl (fun hc10 => ?_) (fun hc10 => ?_)
  ·refine wp_seq' fun K5 hK5 => ?_
   refine wp_reg ?_
   refine ol_r (r_build rfl (fun _ => bd28 _)) rfl ?_
   refine ol_r (r_move rfl) rfl ?_
   refine ol_store (id := 4) rfl rfl rfl rfl sz28 rfl rfl (by first | decide | exact Nat.zero_lt_succ _ | simp) ?_
   refine ol_r (r_assign rfl) rfl ?_
   refine ol_nil (to_k0 (fun _ _ h => h) (hK5 _ _ _ _ _ ?_))
   clear hK5
   refine hQ.ret (rvs2 (rv_c (id := 4) (n := 7) rfl rfl ag28 rfl) (rv_t rfl)) (fun _ _ h => h) fun w hb hs hB hkd => ?_
   exact ⟨by rw [atR_e hc10]; rfl, hb⟩
  ·refine wp_skip' (to_k0 (fun _ _ h => h) (hK2 _ _ _ _ _ ?_))
   clear hK2
   refine wp_seq' fun K6 hK6 => ?_
   refine wp_block' ?_
   refine wp_seq' fun K7 hK7 => ?_
   refine wp_reg ?_
   refine ol_r (r_fa (o' := 3) rfl fl26_3 rfl) rfl ?_
   refine ol_r (r_ld (id := 2) rfl rfl rfl sc22) rfl ?_
   refine ol_r (r_len rfl sl22) rfl ?_
   refine ol_r (r_eql rfl rfl) rfl ?_
   refine ol_r (r_assign rfl) rfl ?_
   refine ol_nil (to_k0 (fun _ _ h => h) (hK7 _ _ _ _ _ ?_))
   clear hK7
   refine wp_condD rfl (fun hc13 => ?_) (fun hc13 => ?_)
   ·refine wp_seq' fun K8 hK8 => ?_
    refine wp_reg ?_
    refine ol_r (r_build rfl (fun _ => bd28 _)) rfl ?_
    refine ol_store (id := 4) rfl rfl rfl rfl sz28 rfl rfl (by first | decide | exact Nat.zero_lt_succ _ | simp) ?_
    refine ol_r (r_assign rfl) rfl ?_
    refine ol_nil (to_k0 (fun _ _ h => h) (hK8 _ _ _ _ _ ?_))
    clear hK8
    refine hQ.ret (rvs2 (rv_c (id := 4) (n := 7) rfl rfl ag28 rfl) (rv_t rfl)) (fun _ _ h => h) fun w hb hs hB hkd => ?_
    exact ⟨by rw [atR_13 (Decidable.not_not.1 hc10) (by show A.ss.length = 0; omega)]; rfl, hb⟩
   ·refine wp_seq' fun K9 hK9 => ?_
    refine wp_reg ?_
    refine ol_r (r_move rfl) rfl ?_
    refine ol_r (r_lda (id := 2) (n := 6) rfl rfl rfl ag26) rfl ?_
    refine ol_call rfl rfl cb42 rfl (fun w1 hb1 hs1 hB1 => Calls.mono (record_Span A _ (hA.at hb1 hB1)) ?_)
    rintro e w2 ⟨rfl, hb2⟩
    refine After.below rfl hb1 hs1 hB1 hb2 ?_
    clear hb2 hB1 hs1 hb1 w2 w1
    refine ol_call rfl rfl cb41 rfl (fun w1 hb1 hs1 hB1 => Calls.mono (track_in _ _ _ _) ?_)
    rintro e w2 ⟨rfl, hb2⟩
    refine After.below rfl hb1 hs1 hB1 hb2 ?_
    clear hb2 hB1 hs1 hb1 w2 w1
    refine ol_r (r_not rfl) rfl ?_
    refine ol_r (r_assign rfl) rfl ?_
    refine ol_nil (to_k0 (fun _ _ h => h) (hK9 _ _ _ _ _ ?_))
    clear hK9
    refine wp_condNB rfl (fun hc19 => ?_) (fun hc19 => ?_)
    ·refine wp_seq' fun K10 hK10 => ?_
     refine wp_reg ?_
     refine ol_r (r_build rfl (fun _ => bd28 _)) rfl ?_
     refine ol_store (id := 4) rfl rfl rfl rfl sz28 rfl rfl (by first | decide | exact Nat.zero_lt_succ _ | simp) ?_
     refine ol_r (r_assign rfl) rfl ?_
     refine ol_nil (to_k0 (fun _ _ h => h) (hK10 _ _ _ _ _ ?_))
     clear hK10
     refine hQ.ret (rvs2 (rv_c (id := 4) (n := 7) rfl rfl ag28 rfl) (rv_t rfl)) (fun _ _ h => h) fun w hb hs hB hkd => ?_
     exact ⟨by rw [atR_9 (Decidable.not_not.1 hc10) (by show A.ss.length ≠ 0; omega) (fun h => by have := inB_iff.2 h; dsimp only [ActV.d] at this; rw [this] at hc19; cases hc19)]; rfl, hb⟩
    ·refine wp_skip' (to_k0 (fun _ _ h => h) (hK6 _ _ _ _ _ ?_))
     clear hK6
     refine wp_seq' fun K11 hK11 => ?_
     refine wp_reg ?_
     have h0 : chkA A.d = 0 := Decidable.not_not.1 hc10
     have hok : SmpOk A.start A.ss := (goodA h0).smp
     have ht : 0 ≤ t ∧ t ≤ spanL A.ss := inB_iff.1 (by simpa using hc19)
     refine ol_r (r_lda (id := 2) (n := 6) rfl rfl rfl ag26) rfl ?_
     refine ol_r (r_move rfl) rfl ?_
     refine ol_call rfl rfl cb43 rfl (fun w1 hb1 hs1 hB1 => Calls.mono (track_Where A t _ (hA.at hb1 hB1) hok ht (by omega)) ?_)
     rintro e w2 ⟨rfl, hb2⟩
     refine After.below rfl hb1 hs1 hB1 hb2 ?_
     clear hb2 hB1 hs1 hb1 w2 w1
     refine ol_store (id := 4) rfl rfl rfl rfl sz28 rfl rfl (by first | decide | exact Nat.zero_lt_succ _ | simp) ?_
     refine ol_r (r_assign rfl) rfl ?_
     refine ol_nil (to_k0 (fun _ _ h => h) (hK11 _ _ _ _ _ ?_))
     clear hK11
     refine hQ.ret (rvs2 (rv_c (id := 4) (n := 7) rfl rfl ag28 rfl) (rv_t rfl)) (fun _ _ h => h) fun w hb hs hB hkd => ?_
     exact ⟨by rw [atR_0 h0 (by show A.ss.length ≠ 0; omega) ht]; rfl, hb⟩
theorem ref3_At (A : ActV) (t : Int) (w : World) (hA : A.Ok w.heap.size w) :
    Calls Try.prog 12 #[.agg #[.string A.name, .int .i64 A.sport, .int .i64 A.start, .slice A.sa A.sn A.sc, .slice A.la A.ln A.lc, .slice A.ta A.tn A.tc], .int .i64 t] w fun e w' => e = .returned (.tuple #[encSmp.val (atR A.d t).1, .int .i64 (atR A.d t).2]) ∧ Below w.heap.size w w' := by
  have hsn := hA.s.len
  refine enterQ (N := 26) (C := fun _ => True) (H := []) (B := w.heap.size) (args := [_, _]) Try.func12 rfl rfl rfl (Nat.le_refl _) (Sat.nil _ _) fun Q hQ => ?_
  refine wp_seq' fun K1 hK1 => ?_
  refine wp_reg ?_
  refine ol_box 2 rfl rfl rfl fun b2 => ?_
  refine ol_alloc 4 z28 rfl fun b4 => ?_
  refine ol_r (r_assign rfl) rfl ?_
  refine ol_nil (to_k0 (fun _ _ h => h) (hK1 _ _ _ _ _ ?_))
  clear hK1
  refine wp_seq' fun K2 hK2 => ?_
  refine wp_seq' fun K3 hK3 => ?_
  refine wp_reg ?_
  refine ol_r (r_lda (id := 2) (n := 6) rfl rfl rfl ag26) rfl ?_
  refine ol_call rfl rfl cb44 rfl (fun w1 hb1 hs1 hB1 => Calls.mono (ref2_Check A _ (hA.at hb1 hB1)) ?_)
  rintro e w2 ⟨rfl, hb2⟩
  refine After.below rfl hb1 hs1 hB1 hb2 ?_
  clear hb2 hB1 hs1 hb1 w2 w1
  refine ol_r (r_assign rfl) rfl ?_
  refine ol_nil (to_k0 (fun _ _ h => h) (hK3 _ _ _ _ _ ?_))
  clear hK3
  refine wp_seq' fun K4 hK4 => ?_
  refine wp_reg ?_
  refine ol_r (r_move rfl) rfl ?_
  refine ol_r (r_neq rfl rfl) rfl ?_
  refine ol_nil (to_k0 (fun _ _ h => h) (hK4 _ _ _ _ _ ?_))
  clear hK4
  refine wp_condD rfl (fun hc10 => ?_) (fun hc10 => ?_)
  ·refine wp_seq' fun K5 hK5 => ?_
   refine wp_reg ?_
   refine ol_r (r_build rfl (fun _ => bd28 _)) rfl ?_
   refine ol_r (r_move rfl) rfl ?_
   refine ol_store (id := 4) rfl rfl rfl rfl sz28 rfl rfl (by first | decide | exact Nat.zero_lt_succ _ | simp) ?_
   refine ol_r (r_assign rfl) rfl ?_
   refine ol_nil (to_k0 (fun _ _ h => h) (hK5 _ _ _ _ _ ?_))
   clear hK5
   refine hQ.ret (rvs2 (rv_c (id := 4) (n := 7) rfl rfl ag28 rfl) (rv_t rfl)) (fun _ _ h => h) fun w hb hs hB hkd => ?_
   exact ⟨by rw [atR_e hc10]; rfl, hb⟩
  ·refine wp_skip' (to_k0 (fun _ _ h => h) (hK2 _ _ _ _ _ ?_))
   clear hK2
   refine wp_seq' fun K6 hK6 => ?_
   refine wp_seq' fun K7 hK7 => ?_
   refine wp_reg ?_
   refine ol_r (r_fa (o' := 3) rfl fl26_3 rfl) rfl ?_
   refine ol_r (r_ld (id := 2) rfl rfl rfl sc22) rfl ?_
   refine ol_r (r_len rfl sl22) rfl ?_
   refine ol_r (r_eql rfl rfl) rfl ?_
   refine ol_nil (to_k0 (fun _ _ h => h) (hK7 _ _ _ _ _ ?_))
   clear hK7
   refine wp_condD rfl (fun hc16 => ?_) (fun hc16 => ?_)
   ·refine wp_seq' fun K8 hK8 => ?_
    refine wp_reg ?_
    refine ol_r (r_build rfl (fun _ => bd28 _)) rfl ?_
    refine ol_store (id := 4) rfl rfl rfl rfl sz28 rfl rfl (by first | decide | exact Nat.zero_lt_succ _ | simp) ?_
    refine ol_r (r_assign rfl) rfl ?_
    refine ol_nil (to_k0 (fun _ _ h => h) (hK8 _ _ _ _ _ ?_))
    clear hK8
    refine hQ.ret (rvs2 (rv_c (id := 4) (n := 7) rfl rfl ag28 rfl) (rv_t rfl)) (fun _ _ h => h) fun w hb hs hB hkd => ?_
    exact ⟨by rw [atR_13 (Decidable.not_not.1 hc10) (by show A.ss.length = 0; omega)]; rfl, hb⟩
   ·refine wp_skip' (to_k0 (fun _ _ h => h) (hK6 _ _ _ _ _ ?_))
    clear hK6
    refine wp_seq' fun K9 hK9 => ?_
    refine wp_seq' fun K10 hK10 => ?_
    refine wp_reg ?_
    refine ol_r (r_move rfl) rfl ?_
    refine ol_r (r_lda (id := 2) (n := 6) rfl rfl rfl ag26) rfl ?_
    refine ol_call rfl rfl cb46 rfl (fun w1 hb1 hs1 hB1 => Calls.mono (ref2_SpanOf A _ (hA.at hb1 hB1)) ?_)
    rintro e w2 ⟨rfl, hb2⟩
    refine After.below rfl hb1 hs1 hB1 hb2 ?_
    clear hb2 hB1 hs1 hb1 w2 w1
    refine ol_call rfl rfl cb45 rfl (fun w1 hb1 hs1 hB1 => Calls.mono (ref3_outside _ _ _ _) ?_)
    rintro e w2 ⟨rfl, hb2⟩
    refine After.below rfl hb1 hs1 hB1 hb2 ?_
    clear hb2 hB1 hs1 hb1 w2 w1
    refine ol_nil (to_k0 (fun _ _ h => h) (hK10 _ _ _ _ _ ?_))
    clear hK10
    refine wp_condNB rfl (fun hc21 => ?_) (fun hc21 => ?_)
    ·refine wp_seq' fun K11 hK11 => ?_
     refine wp_reg ?_
     refine ol_r (r_build rfl (fun _ => bd28 _)) rfl ?_
     refine ol_store (id := 4) rfl rfl rfl rfl sz28 rfl rfl (by first | decide | exact Nat.zero_lt_succ _ | simp) ?_
     refine ol_r (r_assign rfl) rfl ?_
     refine ol_nil (to_k0 (fun _ _ h => h) (hK11 _ _ _ _ _ ?_))
     clear hK11
     refine hQ.ret (rvs2 (rv_c (id := 4) (n := 7) rfl rfl ag28 rfl) (rv_t rfl)) (fun _ _ h => h) fun w hb hs hB hkd => ?_
     exact ⟨by rw [atR_9 (Decidable.not_not.1 hc10) (by show A.ss.length ≠ 0; omega) (fun h => by have := inB_iff.2 h; dsimp only [ActV.d] at this; rw [this] at hc21; cases hc21)]; rfl, hb⟩
    ·refine wp_skip' (to_k0 (fun _ _ h => h) (hK9 _ _ _ _ _ ?_))
     clear hK9
     refine wp_seq' fun K12 hK12 => ?_
     refine wp_reg ?_
     have h0 : chkA A.d = 0 := Decidable.not_not.1 hc10
     have hok : SmpOk A.start A.ss := (goodA h0).smp
     have ht : 0 ≤ t ∧ t ≤ spanL A.ss := inB_iff.1 (by simpa using hc21)
     refine ol_r (r_lda (id := 2) (n := 6) rfl rfl rfl ag26) rfl ?_
     refine ol_r (r_move rfl) rfl ?_
     refine ol_call rfl rfl cb47 rfl (fun w1 hb1 hs1 hB1 => Calls.mono (ref3_Where A t _ (hA.at hb1 hB1) hok ht (by omega)) ?_)
     rintro e w2 ⟨rfl, hb2⟩
     refine After.below rfl hb1 hs1 hB1 hb2 ?_
     clear hb2 hB1 hs1 hb1 w2 w1
     refine ol_store (id := 4) rfl rfl rfl rfl sz28 rfl rfl (by first | decide | exact Nat.zero_lt_succ _ | simp) ?_
     refine ol_r (r_assign rfl) rfl ?_
     refine ol_nil (to_k0 (fun _ _ h => h) (hK12 _ _ _ _ _ ?_))
     clear hK12
     refine hQ.ret (rvs2 (rv_c (id := 4) (n := 7) rfl rfl ag28 rfl) (rv_t rfl)) (fun _ _ h => h) fun w hb hs hB hkd => ?_
     exact ⟨by rw [atR_0 h0 (by show A.ss.length ≠ 0; omega) ht]; rfl, hb⟩
theorem re_row {ss : List SmpR} {step : Int} {k : Nat} {t : Int} (ht : t = (k : Int) * step) : encSmp.enc (reL ss step (k + 1)) = encSmp.enc (reL ss step k) ++ encSmp.cells (whereV ss t) := by
  subst ht
  rw [reL_succ, Enc.enc_append]
  simp [Enc.enc]
theorem re_next {t step : Int} {k : Nat} (h : t = (k : Int) * step) : t + step = ((k + 1 : Nat) : Int) * step := by
  rw [h, show ((k + 1 : Nat) : Int) = (k : Int) + 1 by omega, Int.add_mul, Int.one_mul]
theorem reN_bd {ss : List SmpR} {step : Int} (hs : 1 ≤ step) (h0 : 0 ≤ spanL ss) (h : ¬20000 < (spanL ss + step - 1) / step + 1) : reN ss step ≤ 20000 := by
  unfold reN
  omega
theorem resD_eq {a : ActD} {step : Int} (h : a.ss.length ≠ 0) : resD a step = ⟨a.name, a.sport, a.start, reL a.ss step (reN a.ss step) ++ [whereV a.ss (spanL a.ss)], a.ls, a.ts⟩ := if_neg h
theorem resD_nil {a : ActD} {step : Int} (h : a.ss.length = 0) : resD a step = a := if_pos h
theorem re_end {A : ActV} {step : Int} {B : Nat} {w' : World} {a la ta : Option Addr} {n c ln lc tn tc : Nat} (h : resR A.d step = (resD A.d step, 0)) (hl : A.ss.length ≠ 0)
    (hs : Sat B w' [(1001, .row a n c (encSmp.enc (reL A.ss step (reN A.ss step)) ++ encSmp.cells (whereV A.ss (spanL A.ss))) 28 7), (1002, .row la ln lc (encLap.enc A.ls) 66 3), (1003, .row ta tn tc (encStr.enc A.ts) 9 1)]) :
    OutA B w' (resR A.d step) (.returned (.tuple #[.agg #[.string A.name, .int .i64 A.sport, .int .i64 A.start, .slice a n c, .slice la ln lc, .slice ta tn tc], .int .i64 0])) := by
  have e : encSmp.enc (reL A.ss step (reN A.ss step) ++ [whereV A.ss (spanL A.ss)]) = encSmp.enc (reL A.ss step (reN A.ss step)) ++ encSmp.cells (whereV A.ss (spanL A.ss)) := by rw [Enc.enc_append]; simp [Enc.enc]
  rw [h, resD_eq (show A.d.ss.length ≠ 0 from hl)]
  refine ⟨a, n, c, la, ln, lc, ta, tn, tc, rfl, ?_⟩
  rw [← e] at hs
  exact hs
theorem re_nil {A : ActV} {step : Int} {B : Nat} {w' : World} {a la ta : Option Addr} {n c ln lc tn tc : Nat} (h : resR A.d step = (resD A.d step, 0)) (hl : A.ss.length = 0)
    (hs : Sat B w' [(1001, .row a n c [] 28 7), (1002, .row la ln lc (encLap.enc A.ls) 66 3), (1003, .row ta tn tc (encStr.enc A.ts) 9 1)]) :
    OutA B w' (resR A.d step) (.returned (.tuple #[.agg #[.string A.name, .int .i64 A.sport, .int .i64 A.start, .slice a n c, .slice la ln lc, .slice ta tn tc], .int .i64 0])) := by
  have hss : A.ss = [] := List.length_eq_zero_iff.1 hl
  rw [h, resD_nil (show A.d.ss.length = 0 from hl)]
  refine ⟨a, n, c, la, ln, lc, ta, tn, tc, rfl, ?_⟩
  have e : encSmp.enc A.d.ss = [] := by rw [show A.d.ss = [] from hss]; rfl
  rw [e]
  exact hs
theorem track_Resample (A : ActV) (step : Int) (w : World) (hA : A.Ok w.heap.size w) :
    Calls Try.prog 13 #[.agg #[.string A.name, .int .i64 A.sport, .int .i64 A.start, .slice A.sa A.sn A.sc, .slice A.la A.ln A.lc, .slice A.ta A.tn A.tc], .int .i64 step] w fun e w' => OutA w.heap.size w' (resR A.d step) e ∧ Below w.heap.size w w' := by
  have hsn := hA.s.len
  have hln := hA.l.len
  have htn := hA.t.len
  refine enterQ (N := 69) (C := fun _ => True) (H := []) (B := w.heap.size) (args := [_, _]) Try.func13 rfl rfl rfl (Nat.le_refl _) (Sat.nil _ _) fun Q hQ => ?_
  refine wp_seq' fun K1 hK1 => ?_
  refine wp_reg ?_
  refine ol_box 2 rfl rfl rfl fun b2 => ?_
  refine ol_alloc 4 z26 rfl fun b4 => ?_
  refine ol_r (r_assign rfl) rfl ?_
  refine ol_nil (to_k0 (fun _ _ h => h) (hK1 _ _ _ _ _ ?_))
  clear hK1
  refine wp_seq' fun K2 hK2 => ?_
  refine wp_seq' fun K3 hK3 => ?_
  refine wp_reg ?_
  refine ol_r (r_lda (id := 2) (n := 6) rfl rfl rfl ag26) rfl ?_
  refine ol_call rfl rfl cb40 rfl (fun w1 hb1 hs1 hB1 => Calls.mono (record_Check A _ (hA.at hb1 hB1)) ?_)
  rintro e w2 ⟨rfl, hb2⟩
  refine After.below rfl hb1 hs1 hB1 hb2 ?_
  clear hb2 hB1 hs1 hb1 w2 w1
  refine ol_r (r_assign rfl) rfl ?_
  refine ol_nil (to_k0 (fun _ _ h => h) (hK3 _ _ _ _ _ ?_))
  clear hK3
  refine wp_seq' fun K4 hK4 => ?_
  refine wp_reg ?_
  refine ol_r (r_move rfl) rfl ?_
  refine ol_r (r_neq rfl rfl) rfl ?_
  refine ol_nil (to_k0 (fun _ _ h => h) (hK4 _ _ _ _ _ ?_))
  clear hK4
  refine wp_condD rfl (fun hc13 => ?_) (fun hc13 => ?_)
  ·refine wp_seq' fun K5 hK5 => ?_
   refine wp_reg ?_
   refine ol_r (r_build rfl (fun _ => bd26 _)) rfl ?_
   refine ol_r (r_move rfl) rfl ?_
   refine ol_store (id := 4) rfl rfl rfl rfl sz26 rfl rfl (by first | decide | exact Nat.zero_lt_succ _ | simp) ?_
   refine ol_r (r_assign rfl) rfl ?_
   refine ol_nil (to_k0 (fun _ _ h => h) (hK5 _ _ _ _ _ ?_))
   clear hK5
   refine hQ.ret (rvs2 (rv_c (id := 4) (n := 6) rfl rfl ag26 rfl) (rv_t rfl)) (fun _ _ h => h) fun w hb hs hB hkd => ?_
   exact ⟨outA_no (resR_e hc13), hb⟩
  ·refine wp_skip' (to_k0 (fun _ _ h => h) (hK2 _ _ _ _ _ ?_))
   clear hK2
   refine wp_seq' fun K6 hK6 => ?_
   refine wp_reg ?_
   have h0 : chkA A.d = 0 := Decidable.not_not.1 hc13
   have hg := goodA h0
   have hok : SmpOk A.start A.ss := hg.smp
   have hl20 := hok.len
   have hsp := hok.span
   obtain ⟨g4, g5, g6⟩ := hg.head.2.2.2
   dsimp only [ActV.d] at g4 g5 g6
   refine ol_r (r_lda (id := 2) (n := 6) rfl rfl rfl ag26) rfl ?_
   refine ol_call rfl rfl cb42 rfl (fun w1 hb1 hs1 hB1 => Calls.mono (record_Span A _ (hA.at hb1 hB1)) ?_)
   rintro e w2 ⟨rfl, hb2⟩
   refine After.below rfl hb1 hs1 hB1 hb2 ?_
   clear hb2 hB1 hs1 hb1 w2 w1
   refine ol_r (r_assign rfl) rfl ?_
   refine ol_nil (to_k0 (fun _ _ h => h) (hK6 _ _ _ _ _ ?_))
   clear hK6
   refine wp_seq' fun K7 hK7 => ?_
   refine wp_block' ?_
   refine wp_seq' fun K8 hK8 => ?_
   refine wp_reg ?_
   refine ol_r (r_move rfl) rfl ?_
   refine ol_call rfl rfl cb41 rfl (fun w1 hb1 hs1 hB1 => Calls.mono (track_in _ _ _ _) ?_)
   rintro e w2 ⟨rfl, hb2⟩
   refine After.below rfl hb1 hs1 hB1 hb2 ?_
   clear hb2 hB1 hs1 hb1 w2 w1
   refine ol_r (r_not rfl) rfl ?_
   refine ol_r (r_assign rfl) rfl ?_
   refine ol_nil (to_k0 (fun _ _ h => h) (hK8 _ _ _ _ _ ?_))
   clear hK8
   refine wp_condNB rfl (fun hc18 => ?_) (fun hc18 => ?_)
   ·refine wp_seq' fun K9 hK9 => ?_
    refine wp_reg ?_
    refine ol_r (r_build rfl (fun _ => bd26 _)) rfl ?_
    refine ol_store (id := 4) rfl rfl rfl rfl sz26 rfl rfl (by first | decide | exact Nat.zero_lt_succ _ | simp) ?_
    refine ol_r (r_assign rfl) rfl ?_
    refine ol_nil (to_k0 (fun _ _ h => h) (hK9 _ _ _ _ _ ?_))
    clear hK9
    refine hQ.ret (rvs2 (rv_c (id := 4) (n := 6) rfl rfl ag26 rfl) (rv_t rfl)) (fun _ _ h => h) fun w hb hs hB hkd => ?_
    exact ⟨outA_no (resR_9 h0 (fun h => by have := inB_iff.2 h; rw [this] at hc18; cases hc18)), hb⟩
   ·refine wp_seq' fun K10 hK10 => ?_
    refine wp_reg ?_
    have hin : 1 ≤ step ∧ step ≤ 1000000 := inB_iff.1 (by simpa using hc18)
    have hqb0 : 0 ≤ (spanL A.ss + step - 1) / step := Int.ediv_nonneg (by omega) (by omega)
    have hqb1 : (spanL A.ss + step - 1) / step ≤ spanL A.ss + step - 1 := Int.ediv_le_self _ (by omega)
    refine ol_r (r_fa (o' := 3) rfl fl26_3 rfl) rfl ?_
    refine ol_r (r_ld (id := 2) rfl rfl rfl sc22) rfl ?_
    refine ol_r (r_len rfl sl22) rfl ?_
    refine ol_r (r_gtr rfl rfl) rfl ?_
    refine ol_r (r_move rfl) rfl ?_
    refine ol_split (d := 28) rfl (fun hs28 => ?_) (fun hs28 => ?_)
    ·have phs28 := hs28; try simp only [decide_eq_true_eq, decide_eq_false_iff_not, Bool.not_eq_true', Bool.not_eq_false', Bool.not_true, Bool.not_false] at phs28
     refine ol_g rfl rfl hs28 ?_
     refine ol_r (r_move rfl) rfl ?_
     refine ol_g rfl rfl hs28 ?_
     refine ol_r (r_move rfl) rfl ?_
     refine ol_g rfl rfl hs28 ?_
     refine ol_r (r_add rfl rfl (by omega)) rfl ?_
     refine ol_g rfl rfl hs28 ?_
     refine ol_r (r_sub rfl rfl (by omega)) rfl ?_
     refine ol_g rfl rfl hs28 ?_
     refine ol_r (r_move rfl) rfl ?_
     refine ol_g rfl rfl hs28 ?_
     first | refine ol_r (r_quo rfl rfl (by omega)) rfl ?_ | refine ol_r (r_tquo rfl rfl (by omega)) rfl ?_
     refine ol_g rfl rfl hs28 ?_
     refine ol_r (r_add rfl rfl (by omega)) rfl ?_
     refine ol_g rfl rfl hs28 ?_
     refine ol_r (r_gtr rfl rfl) rfl ?_
     refine ol_r (r_pickT rfl hs28 rfl) rfl ?_
     refine ol_r (r_assign rfl) rfl ?_
     refine ol_nil (to_k0 (fun _ _ h => h) (hK10 _ _ _ _ _ ?_))
     clear hK10
     refine wp_condD rfl (fun hc23 => ?_) (fun hc23 => ?_)
     ·refine wp_seq' fun K11 hK11 => ?_
      refine wp_reg ?_
      refine ol_r (r_build rfl (fun _ => bd26 _)) rfl ?_
      refine ol_store (id := 4) rfl rfl rfl rfl sz26 rfl rfl (by first | decide | exact Nat.zero_lt_succ _ | simp) ?_
      refine ol_r (r_assign rfl) rfl ?_
      refine ol_nil (to_k0 (fun _ _ h => h) (hK11 _ _ _ _ _ ?_))
      clear hK11
      refine hQ.ret (rvs2 (rv_c (id := 4) (n := 6) rfl rfl ag26 rfl) (rv_t rfl)) (fun _ _ h => h) fun w hb hs hB hkd => ?_
      exact ⟨outA_no (resR_3 h0 hin ⟨by show 0 < A.ss.length; omega, hc23⟩), hb⟩
     ·refine wp_skip' (to_k0 (fun _ _ h => h) (hK7 _ _ _ _ _ ?_))
      clear hK7
      refine wp_seq' fun K12 hK12 => ?_
      refine wp_reg ?_
      refine ol_r (r_lda (id := 2) (n := 6) rfl rfl rfl ag26) rfl ?_
      refine ol_call rfl rfl cb48 rfl (fun w1 hb1 hs1 hB1 => ?_)
      refine Calls.mono (record_Clone A _ (hA.at hb1 hB1) (by omega) (by omega) (by omega)) ?_
      rintro e w2 ⟨sa, sn, sc, la, ln, lc, ta, tn, tc, rfl, hb2, hs2⟩
      refine After.more rfl hb1 hs1 hB1 hb2 hs2 ?_
      clear hs2 hb2 hB1 hs1 hb1 w2 w1
      refine ol_alloc 8 z26 rfl fun b8 => ?_
      refine ol_store (id := 8) rfl rfl rfl rfl sz26 rfl rfl (by first | decide | exact Nat.zero_lt_succ _ | simp) ?_
      refine ol_nil (to_k0 (fun _ _ h => h) (hK12 _ _ _ _ _ ?_))
      clear hK12
      refine wp_seq' fun K13 hK13 => ?_
      refine wp_reg ?_
      refine ol_r (r_fa (o' := 3) rfl fl26_3 rfl) rfl ?_
      refine ol_store (id := 8) rfl rfl rfl rfl sz22 rfl rfl (by first | decide | exact Nat.zero_lt_succ _ | simp) ?_
      refine ol_nil (to_k0 (fun _ _ h => h) (hK13 _ _ _ _ _ ?_))
      clear hK13
      refine wp_seq' fun K14 hK14 => ?_
      refine wp_seq' fun K15 hK15 => ?_
      refine wp_reg ?_
      refine ol_nilrow 60 28 7 ?_
      refine ol_r (r_fa (o' := 3) rfl fl26_3 rfl) rfl ?_
      refine ol_r (r_ld (id := 2) rfl rfl rfl sc22) rfl ?_
      refine ol_r (r_len rfl sl22) rfl ?_
      refine ol_r (r_gtr rfl rfl) rfl ?_
      refine ol_nil (to_k0 (fun _ _ h => h) (hK15 _ _ _ _ _ ?_))
      clear hK15
      refine wp_condD rfl (fun hc45 => ?_) (fun hc45 => ?_)
      ·refine wp_seq' fun K16 hK16 => ?_
       refine wp_seq' fun K17 hK17 => ?_
       refine wp_reg ?_
       refine ol_r (r_assign rfl) rfl ?_
       refine ol_nil (to_k0 (fun _ _ h => h) (hK17 _ _ _ _ _ ?_))
       clear hK17
       refine wp_block' ?_
       apply wp_loopM (σ := Int × Nat × Option Addr × Nat) (fun s => s.1 = (s.2.1 : Int) * step ∧ s.2.1 ≤ reN A.ss step) (fun s => [(9, .int .i64 s.1)]) [(1, _), (2, _), (4, _), (5, _), (7, _), (8, _)] (fun s => [(8, .blk b8 [(0, .string A.name), (1, .int .i64 A.sport), (2, .int .i64 A.start), (3, .slice s.2.2.1 s.2.1 s.2.2.2), (4, .slice la ln lc), (5, .slice ta tn tc)] 26), (60, .row s.2.2.1 s.2.1 s.2.2.2 (encSmp.enc (reL A.ss step s.2.1)) 28 7)]) [(2, _), (4, _), (1001, _), (1002, _), (1003, _)] (fun s => reN A.ss step - s.2.1) ((0, 0, none, 0))
       ·try dsimp only
        exact ⟨by omega, Nat.zero_le _⟩
       ·exact (sub_cons rfl sub_nil)
       ·exact (sub_cons rfl (sub_cons rfl (sub_cons rfl (sub_cons rfl (sub_cons rfl (sub_cons rfl sub_nil))))))
       ·exact (subH_blk rfl (sub_cons rfl (sub_cons rfl (sub_cons rfl (sub_cons rfl (sub_cons rfl (sub_cons rfl sub_nil)))))) (subH_row rfl (by dsimp only; rfl) subH_nil))
       ·exact (subH_same rfl (subH_same rfl (subH_same rfl (subH_same rfl (subH_same rfl subH_nil)))))
       ·rintro ⟨t, k, oa, oc⟩ ⟨ht, hk⟩
        dsimp only at ht hk ⊢
        have hrb : reN A.ss step ≤ 20000 := by
          first
            | exact reN_bd hin.1 hsp.1 hc23
            | (exfalso; omega)
        have hri := reN_iff (ss := A.ss) hin.1 hsp.1 k
        have ht0 : 0 ≤ t := by rw [ht]; exact Int.mul_nonneg (by omega) (by omega)
        intro K18 hK18
        refine wp_seq' fun K19 hK19 => ?_
        refine wp_seq' fun K20 hK20 => ?_
        refine wp_reg ?_
        refine ol_r (r_move rfl) rfl ?_
        refine ol_r (r_move rfl) rfl ?_
        refine ol_r (r_lss rfl rfl) rfl ?_
        refine ol_nil (to_k0 (fun _ _ h => h) (hK20 _ _ _ _ _ ?_))
        clear hK20
        refine wp_condD rfl (fun hc48 => ?_) (fun hc48 => ?_)
        ·refine wp_skip' (to_k0 (fun _ _ h => h) (hK19 _ _ _ _ _ ?_))
         clear hK19
         refine wp_seq' fun K21 hK21 => ?_
         refine wp_block' ?_
         refine wp_rega [(999, [(2, _), (4, _), (1001, _), (1002, _), (1003, _)]), (8, [(8, _)]), (6, [(60, _)])] (by kernel_rfl) ⟨.inr (subH_same rfl (subH_same rfl (subH_same rfl (subH_same rfl (subH_same rfl subH_nil))))), ⟨.inr (subH_same rfl subH_nil), ⟨.inr (subH_same rfl subH_nil), trivial⟩⟩⟩ ?_
         refine aq_r 0 999 rfl (by kernel_rfl) (by kernel_rfl) (by kernel_rfl) (.head _) (by kernel_rfl) (by kernel_rfl) rfl (r_fa (o' := 3) rfl fl26_3 rfl) ?_
         refine aq_r 1 8 rfl (by kernel_rfl) (by kernel_rfl) (by kernel_rfl) (.tail _ (.head _)) (by kernel_rfl) (by kernel_rfl) rfl (r_ld (id := 8) rfl rfl rfl sc22) ?_
         refine aq_r 2 999 rfl (by kernel_rfl) (by kernel_rfl) (by kernel_rfl) (.head _) (by kernel_rfl) (by kernel_rfl) rfl (r_lda (id := 2) (n := 6) rfl rfl rfl ag26) ?_
         refine aq_r 3 999 rfl (by kernel_rfl) (by kernel_rfl) (by kernel_rfl) (.head _) (by kernel_rfl) (by kernel_rfl) rfl (r_move rfl) ?_
         refine aq_one (i := 4) (by kernel_rfl) rfl fun K22 hK22 => ?_
         refine ol_call rfl rfl cb43 rfl (fun w1 hb1 hs1 hB1 => Calls.mono (track_Where A _ _ (hA.at hb1 hB1) hok (by omega) (by omega)) ?_)
         rintro e w2 ⟨rfl, hb2⟩
         refine After.below rfl hb1 hs1 hB1 hb2 ?_
         clear hb2 hB1 hs1 hb1 w2 w1
         refine ol_nil (to_k0 (fun _ _ h => h) (hK22 _ _ ⟨.inr (by repeat' first | exact subH_nil | refine subH_same rfl ?_ | (refine subH_blk rfl (by repeat' first | exact sub_nil | refine sub_cons rfl ?_) ?_)), ⟨.inr (by repeat' first | exact subH_nil | refine subH_same rfl ?_ | (refine subH_blk rfl (by repeat' first | exact sub_nil | refine sub_cons rfl ?_) ?_)), ⟨.inr (by repeat' first | exact subH_nil | refine subH_same rfl ?_ | (refine subH_blk rfl (by repeat' first | exact sub_nil | refine sub_cons rfl ?_) ?_)), trivial⟩⟩⟩ ?_))
         clear hK22
         refine aq_one (i := 5) (by kernel_rfl) rfl fun K23 hK23 => ?_
         refine ol_bs1 57 rfl rfl rw22 rfl rfl rfl fun a57 => ?_
         refine ol_nil (to_k0 (fun _ _ h => h) (hK23 _ _ ⟨.inr (by repeat' first | exact subH_nil | refine subH_same rfl ?_ | (refine subH_blk rfl (by repeat' first | exact sub_nil | refine sub_cons rfl ?_) ?_)), ⟨.inr (by repeat' first | exact subH_nil | refine subH_same rfl ?_ | (refine subH_blk rfl (by repeat' first | exact sub_nil | refine sub_cons rfl ?_) ?_)), ⟨.inr (by repeat' first | exact subH_nil | refine subH_same rfl ?_ | (refine subH_blk rfl (by repeat' first | exact sub_nil | refine sub_cons rfl ?_) ?_)), trivial⟩⟩⟩ ?_))
         clear hK23
         refine aq_one (i := 6) (by kernel_rfl) rfl fun K24 hK24 => ?_
         refine ol_append1 (id := 60) (id2 := 57) rfl rfl rfl rfl rfl rw22 (by omega) rfl fun a58 c58 => ?_
         refine ol_nil (to_k0 (fun _ _ h => h) (hK24 _ _ ⟨.inr (by repeat' first | exact subH_nil | refine subH_same rfl ?_ | (refine subH_blk rfl (by repeat' first | exact sub_nil | refine sub_cons rfl ?_) ?_)), ⟨.inr (by repeat' first | exact subH_nil | refine subH_same rfl ?_ | (refine subH_blk rfl (by repeat' first | exact sub_nil | refine sub_cons rfl ?_) ?_)), ⟨.inl (by kernel_rfl), trivial⟩⟩⟩ ?_))
         clear hK24
         refine aq_r 7 999 rfl (by kernel_rfl) (by kernel_rfl) (by kernel_rfl) (.head _) (by kernel_rfl) (by kernel_rfl) rfl (r_fa (o' := 3) rfl fl26_3 rfl) ?_
         refine aq_one (i := 8) (by kernel_rfl) rfl fun K25 hK25 => ?_
         refine ol_store (id := 8) rfl rfl rfl rfl sz22 rfl rfl (by first | decide | exact Nat.zero_lt_succ _ | simp) ?_
         refine ol_nil (to_k0 (fun _ _ h => h) (hK25 _ _ ⟨.inr (by repeat' first | exact subH_nil | refine subH_same rfl ?_ | (refine subH_blk rfl (by repeat' first | exact sub_nil | refine sub_cons rfl ?_) ?_)), ⟨.inl (by kernel_rfl), ⟨.inl (by kernel_rfl), trivial⟩⟩⟩ ?_))
         clear hK25
         refine aq_done (by kernel_rfl) ?_
         refine (to_k0 (fun _ _ h => h) (hK21 _ _ _ _ _ ?_))
         clear hK21
         refine wp_reg ?_
         refine ol_r (r_move rfl) rfl ?_
         refine ol_r (r_move rfl) rfl ?_
         refine ol_r (r_add rfl rfl (by omega)) rfl ?_
         refine ol_r (r_assign rfl) rfl ?_
         refine ol_nil (to_k0 (fun _ _ h => h) (hK18 ((_, k + 1, _, _)) _ _ ?_ ?_ (sub_cons rfl sub_nil) (sub_cons rfl (sub_cons rfl (sub_cons rfl (sub_cons rfl (sub_cons rfl (sub_cons rfl sub_nil)))))) (by exact (subH_blk rfl (sub_cons rfl (sub_cons rfl (sub_cons rfl (sub_cons rfl (sub_cons rfl (sub_cons rfl sub_nil)))))) (subH_row rfl (by dsimp only; exact re_row ht) subH_nil))) (subH_same rfl (subH_same rfl (subH_same rfl (subH_same rfl (subH_same rfl subH_nil)))))))
         ·try dsimp only
          exact ⟨re_next ht, by have := hri.1 (by omega); omega⟩
         ·try dsimp only
          have := hri.1 (by omega); omega
        ·refine wp_exit' (to_k0 (fun _ _ h => h) (hK16 _ _ _ _ _ ?_))
         clear hK16
         refine wp_rega [(999, [(2, _), (4, _), (1001, _), (1002, _), (1003, _)]), (8, [(8, _)]), (6, [(60, _)])] (by kernel_rfl) ⟨.inr (subH_same rfl (subH_same rfl (subH_same rfl (subH_same rfl (subH_same rfl subH_nil))))), ⟨.inr (subH_same rfl subH_nil), ⟨.inr (subH_same rfl subH_nil), trivial⟩⟩⟩ ?_
         refine aq_r 0 999 rfl (by kernel_rfl) (by kernel_rfl) (by kernel_rfl) (.head _) (by kernel_rfl) (by kernel_rfl) rfl (r_fa (o' := 3) rfl fl26_3 rfl) ?_
         refine aq_r 1 8 rfl (by kernel_rfl) (by kernel_rfl) (by kernel_rfl) (.tail _ (.head _)) (by kernel_rfl) (by kernel_rfl) rfl (r_ld (id := 8) rfl rfl rfl sc22) ?_
         refine aq_r 2 999 rfl (by kernel_rfl) (by kernel_rfl) (by kernel_rfl) (.head _) (by kernel_rfl) (by kernel_rfl) rfl (r_lda (id := 2) (n := 6) rfl rfl rfl ag26) ?_
         refine aq_r 3 999 rfl (by kernel_rfl) (by kernel_rfl) (by kernel_rfl) (.head _) (by kernel_rfl) (by kernel_rfl) rfl (r_move rfl) ?_
         refine aq_one (i := 4) (by kernel_rfl) rfl fun K26 hK26 => ?_
         refine ol_call rfl rfl cb43 rfl (fun w1 hb1 hs1 hB1 => Calls.mono (track_Where A _ _ (hA.at hb1 hB1) hok (by omega) (by omega)) ?_)
         rintro e w2 ⟨rfl, hb2⟩
         refine After.below rfl hb1 hs1 hB1 hb2 ?_
         clear hb2 hB1 hs1 hb1 w2 w1
         refine ol_nil (to_k0 (fun _ _ h => h) (hK26 _ _ ⟨.inr (by repeat' first | exact subH_nil | refine subH_same rfl ?_ | (refine subH_blk rfl (by repeat' first | exact sub_nil | refine sub_cons rfl ?_) ?_)), ⟨.inr (by repeat' first | exact subH_nil | refine subH_same rfl ?_ | (refine subH_blk rfl (by repeat' first | exact sub_nil | refine sub_cons rfl ?_) ?_)), ⟨.inr (by repeat' first | exact subH_nil | refine subH_same rfl ?_ | (refine subH_blk rfl (by repeat' first | exact sub_nil | refine sub_cons rfl ?_) ?_)), trivial⟩⟩⟩ ?_))
         clear hK26
         refine aq_one (i := 5) (by kernel_rfl) rfl fun K27 hK27 => ?_
         refine ol_bs1 65 rfl rfl rw22 rfl rfl rfl fun a65 => ?_
         refine ol_nil (to_k0 (fun _ _ h => h) (hK27 _ _ ⟨.inr (by repeat' first | exact subH_nil | refine subH_same rfl ?_ | (refine subH_blk rfl (by repeat' first | exact sub_nil | refine sub_cons rfl ?_) ?_)), ⟨.inr (by repeat' first | exact subH_nil | refine subH_same rfl ?_ | (refine subH_blk rfl (by repeat' first | exact sub_nil | refine sub_cons rfl ?_) ?_)), ⟨.inr (by repeat' first | exact subH_nil | refine subH_same rfl ?_ | (refine subH_blk rfl (by repeat' first | exact sub_nil | refine sub_cons rfl ?_) ?_)), trivial⟩⟩⟩ ?_))
         clear hK27
         refine aq_one (i := 6) (by kernel_rfl) rfl fun K28 hK28 => ?_
         refine ol_append1 (id := 60) (id2 := 65) rfl rfl rfl rfl rfl rw22 (by omega) rfl fun a66 c66 => ?_
         refine ol_nil (to_k0 (fun _ _ h => h) (hK28 _ _ ⟨.inr (by repeat' first | exact subH_nil | refine subH_same rfl ?_ | (refine subH_blk rfl (by repeat' first | exact sub_nil | refine sub_cons rfl ?_) ?_)), ⟨.inr (by repeat' first | exact subH_nil | refine subH_same rfl ?_ | (refine subH_blk rfl (by repeat' first | exact sub_nil | refine sub_cons rfl ?_) ?_)), ⟨.inl (by kernel_rfl), trivial⟩⟩⟩ ?_))
         clear hK28
         refine aq_r 7 999 rfl (by kernel_rfl) (by kernel_rfl) (by kernel_rfl) (.head _) (by kernel_rfl) (by kernel_rfl) rfl (r_fa (o' := 3) rfl fl26_3 rfl) ?_
         refine aq_one (i := 8) (by kernel_rfl) rfl fun K29 hK29 => ?_
         refine ol_store (id := 8) rfl rfl rfl rfl sz22 rfl rfl (by first | decide | exact Nat.zero_lt_succ _ | simp) ?_
         refine ol_nil (to_k0 (fun _ _ h => h) (hK29 _ _ ⟨.inr (by repeat' first | exact subH_nil | refine subH_same rfl ?_ | (refine subH_blk rfl (by repeat' first | exact sub_nil | refine sub_cons rfl ?_) ?_)), ⟨.inl (by kernel_rfl), ⟨.inl (by kernel_rfl), trivial⟩⟩⟩ ?_))
         clear hK29
         refine aq_done (by kernel_rfl) ?_
         refine (to_k0 (fun _ _ h => h) (hK14 _ _ _ _ _ ?_))
         clear hK14
         refine wp_seq' fun K30 hK30 => ?_
         refine wp_reg ?_
         refine ol_r (r_lda (id := 8) (n := 6) rfl rfl rfl ag26) rfl ?_
         refine ol_store (id := 4) rfl rfl rfl rfl sz26 rfl rfl (by first | decide | exact Nat.zero_lt_succ _ | simp) ?_
         refine ol_r (r_assign rfl) rfl ?_
         refine ol_nil (to_k0 (fun _ _ h => h) (hK30 _ _ _ _ _ ?_))
         clear hK30
         refine hQ.ret (rvs2 (rv_c (id := 4) (n := 6) rfl rfl ag26 rfl) (rv_t rfl)) (fun _ _ h => h) fun w hb hs hB hkd => ?_
         have h := resR_0 (a := A.d) h0 hin (fun h => hc23 h.2)
         have hkN : k = reN A.ss step := by omega
         subst hkN
         exact ⟨re_end h (by omega) (hs.three 60 1002 1003 1001 1002 1003 (by decide) (by decide) (by decide) rfl rfl rfl (Ent.le_refl _) (Ent.le_refl _) (Ent.le_refl _)), hb⟩
      ·refine wp_skip' (to_k0 (fun _ _ h => h) (hK14 _ _ _ _ _ ?_))
       clear hK14
       refine wp_seq' fun K31 hK31 => ?_
       refine wp_reg ?_
       refine ol_r (r_lda (id := 8) (n := 6) rfl rfl rfl ag26) rfl ?_
       refine ol_store (id := 4) rfl rfl rfl rfl sz26 rfl rfl (by first | decide | exact Nat.zero_lt_succ _ | simp) ?_
       refine ol_r (r_assign rfl) rfl ?_
       refine ol_nil (to_k0 (fun _ _ h => h) (hK31 _ _ _ _ _ ?_))
       clear hK31
       refine hQ.ret (rvs2 (rv_c (id := 4) (n := 6) rfl rfl ag26 rfl) (rv_t rfl)) (fun _ _ h => h) fun w hb hs hB hkd => ?_
       exfalso
       omega
    ·have phs28 := hs28; try simp only [decide_eq_true_eq, decide_eq_false_iff_not, Bool.not_eq_true', Bool.not_eq_false', Bool.not_true, Bool.not_false] at phs28
     refine ol_s rfl rfl hs28 rfl ?_
     refine ol_s rfl rfl hs28 rfl ?_
     refine ol_s rfl rfl hs28 rfl ?_
     refine ol_s rfl rfl hs28 rfl ?_
     refine ol_s rfl rfl hs28 rfl ?_
     refine ol_s rfl rfl hs28 rfl ?_
     refine ol_s rfl rfl hs28 rfl ?_
     refine ol_s rfl rfl hs28 rfl ?_
     refine ol_r (r_pickF rfl hs28 rfl) rfl ?_
     refine ol_r (r_assign rfl) rfl ?_
     refine ol_nil (to_k0 (fun _ _ h => h) (hK10 _ _ _ _ _ ?_))
     clear hK10
     refine wp_condF rfl ?_
     refine wp_skip' (to_k0 (fun _ _ h => h) (hK7 _ _ _ _ _ ?_))
     clear hK7
     refine wp_seq' fun K32 hK32 => ?_
     refine wp_reg ?_
     refine ol_r (r_lda (id := 2) (n := 6) rfl rfl rfl ag26) rfl ?_
     refine ol_call rfl rfl cb48 rfl (fun w1 hb1 hs1 hB1 => ?_)
     refine Calls.mono (record_Clone A _ (hA.at hb1 hB1) (by omega) (by omega) (by omega)) ?_
     rintro e w2 ⟨sa, sn, sc, la, ln, lc, ta, tn, tc, rfl, hb2, hs2⟩
     refine After.more rfl hb1 hs1 hB1 hb2 hs2 ?_
     clear hs2 hb2 hB1 hs1 hb1 w2 w1
     refine ol_alloc 8 z26 rfl fun b8 => ?_
     refine ol_store (id := 8) rfl rfl rfl rfl sz26 rfl rfl (by first | decide | exact Nat.zero_lt_succ _ | simp) ?_
     refine ol_nil (to_k0 (fun _ _ h => h) (hK32 _ _ _ _ _ ?_))
     clear hK32
     refine wp_seq' fun K33 hK33 => ?_
     refine wp_reg ?_
     refine ol_r (r_fa (o' := 3) rfl fl26_3 rfl) rfl ?_
     refine ol_store (id := 8) rfl rfl rfl rfl sz22 rfl rfl (by first | decide | exact Nat.zero_lt_succ _ | simp) ?_
     refine ol_nil (to_k0 (fun _ _ h => h) (hK33 _ _ _ _ _ ?_))
     clear hK33
     refine wp_seq' fun K34 hK34 => ?_
     refine wp_seq' fun K35 hK35 => ?_
     refine wp_reg ?_
     refine ol_nilrow 60 28 7 ?_
     refine ol_r (r_fa (o' := 3) rfl fl26_3 rfl) rfl ?_
     refine ol_r (r_ld (id := 2) rfl rfl rfl sc22) rfl ?_
     refine ol_r (r_len rfl sl22) rfl ?_
     refine ol_r (r_gtr rfl rfl) rfl ?_
     refine ol_nil (to_k0 (fun _ _ h => h) (hK35 _ _ _ _ _ ?_))
     clear hK35
     refine wp_condD rfl (fun hc45 => ?_) (fun hc45 => ?_)
     ·refine wp_seq' fun K36 hK36 => ?_
      refine wp_seq' fun K37 hK37 => ?_
      refine wp_reg ?_
      refine ol_r (r_assign rfl) rfl ?_
      refine ol_nil (to_k0 (fun _ _ h => h) (hK37 _ _ _ _ _ ?_))
      clear hK37
      refine wp_block' ?_
      apply wp_loopM (σ := Int × Nat × Option Addr × Nat) (fun s => s.1 = (s.2.1 : Int) * step ∧ s.2.1 ≤ reN A.ss step) (fun s => [(9, .int .i64 s.1)]) [(1, _), (2, _), (4, _), (5, _), (7, _), (8, _)] (fun s => [(8, .blk b8 [(0, .string A.name), (1, .int .i64 A.sport), (2, .int .i64 A.start), (3, .slice s.2.2.1 s.2.1 s.2.2.2), (4, .slice la ln lc), (5, .slice ta tn tc)] 26), (60, .row s.2.2.1 s.2.1 s.2.2.2 (encSmp.enc (reL A.ss step s.2.1)) 28 7)]) [(2, _), (4, _), (1001, _), (1002, _), (1003, _)] (fun s => reN A.ss step - s.2.1) ((0, 0, none, 0))
      ·try dsimp only
       exact ⟨by omega, Nat.zero_le _⟩
      ·exact (sub_cons rfl sub_nil)
      ·exact (sub_cons rfl (sub_cons rfl (sub_cons rfl (sub_cons rfl (sub_cons rfl (sub_cons rfl sub_nil))))))
      ·exact (subH_blk rfl (sub_cons rfl (sub_cons rfl (sub_cons rfl (sub_cons rfl (sub_cons rfl (sub_cons rfl sub_nil)))))) (subH_row rfl (by dsimp only; rfl) subH_nil))
      ·exact (subH_same rfl (subH_same rfl (subH_same rfl (subH_same rfl (subH_same rfl subH_nil)))))
      ·rintro ⟨t, k, oa, oc⟩ ⟨ht, hk⟩
       dsimp only at ht hk ⊢
       have hrb : reN A.ss step ≤ 20000 := by
         first
           | exact reN_bd hin.1 hsp.1 hc23
           | (exfalso; omega)
       have hri := reN_iff (ss := A.ss) hin.1 hsp.1 k
       have ht0 : 0 ≤ t := by rw [ht]; exact Int.mul_nonneg (by omega) (by omega)
       intro K38 hK38
       refine wp_seq' fun K39 hK39 => ?_
       refine wp_seq' fun K40 hK40 => ?_
       refine wp_reg ?_
       refine ol_r (r_move rfl) rfl ?_
       refine ol_r (r_move rfl) rfl ?_
       refine ol_r (r_lss rfl rfl) rfl ?_
       refine ol_nil (to_k0 (fun _ _ h => h) (hK40 _ _ _ _ _ ?_))
       clear hK40
       refine wp_condD rfl (fun hc48 => ?_) (fun hc48 => ?_)
       ·refine wp_skip' (to_k0 (fun _ _ h => h) (hK39 _ _ _ _ _ ?_))
        clear hK39
        refine wp_seq' fun K41 hK41 => ?_
        refine wp_block' ?_
        refine wp_rega [(999, [(2, _), (4, _), (1001, _), (1002, _), (1003, _)]), (8, [(8, _)]), (6, [(60, _)])] (by kernel_rfl) ⟨.inr (subH_same rfl (subH_same rfl (subH_same rfl (subH_same rfl (subH_same rfl subH_nil))))), ⟨.inr (subH_same rfl subH_nil), ⟨.inr (subH_same rfl subH_nil), trivial⟩⟩⟩ ?_
        refine aq_r 0 999 rfl (by kernel_rfl) (by kernel_rfl) (by kernel_rfl) (.head _) (by kernel_rfl) (by kernel_rfl) rfl (r_fa (o' := 3) rfl fl26_3 rfl) ?_
        refine aq_r 1 8 rfl (by kernel_rfl) (by kernel_rfl) (by kernel_rfl) (.tail _ (.head _)) (by kernel_rfl) (by kernel_rfl) rfl (r_ld (id := 8) rfl rfl rfl sc22) ?_
        refine aq_r 2 999 rfl (by kernel_rfl) (by kernel_rfl) (by kernel_rfl) (.head _) (by kernel_rfl) (by kernel_rfl) rfl (r_lda (id := 2) (n := 6) rfl rfl rfl ag26) ?_
        refine aq_r 3 999 rfl (by kernel_rfl) (by kernel_rfl) (by kernel_rfl) (.head _) (by kernel_rfl) (by kernel_rfl) rfl (r_move rfl) ?_
        refine aq_one (i := 4) (by kernel_rfl) rfl fun K42 hK42 => ?_
        refine ol_call rfl rfl cb43 rfl (fun w1 hb1 hs1 hB1 => Calls.mono (track_Where A _ _ (hA.at hb1 hB1) hok (by omega) (by omega)) ?_)
        rintro e w2 ⟨rfl, hb2⟩
        refine After.below rfl hb1 hs1 hB1 hb2 ?_
        clear hb2 hB1 hs1 hb1 w2 w1
        refine ol_nil (to_k0 (fun _ _ h => h) (hK42 _ _ ⟨.inr (by repeat' first | exact subH_nil | refine subH_same rfl ?_ | (refine subH_blk rfl (by repeat' first | exact sub_nil | refine sub_cons rfl ?_) ?_)), ⟨.inr (by repeat' first | exact subH_nil | refine subH_same rfl ?_ | (refine subH_blk rfl (by repeat' first | exact sub_nil | refine sub_cons rfl ?_) ?_)), ⟨.inr (by repeat' first | exact subH_nil | refine subH_same rfl ?_ | (refine subH_blk rfl (by repeat' first | exact sub_nil | refine sub_cons rfl ?_) ?_)), trivial⟩⟩⟩ ?_))
        clear hK42
        refine aq_one (i := 5) (by kernel_rfl) rfl fun K43 hK43 => ?_
        refine ol_bs1 57 rfl rfl rw22 rfl rfl rfl fun a57 => ?_
        refine ol_nil (to_k0 (fun _ _ h => h) (hK43 _ _ ⟨.inr (by repeat' first | exact subH_nil | refine subH_same rfl ?_ | (refine subH_blk rfl (by repeat' first | exact sub_nil | refine sub_cons rfl ?_) ?_)), ⟨.inr (by repeat' first | exact subH_nil | refine subH_same rfl ?_ | (refine subH_blk rfl (by repeat' first | exact sub_nil | refine sub_cons rfl ?_) ?_)), ⟨.inr (by repeat' first | exact subH_nil | refine subH_same rfl ?_ | (refine subH_blk rfl (by repeat' first | exact sub_nil | refine sub_cons rfl ?_) ?_)), trivial⟩⟩⟩ ?_))
        clear hK43
        refine aq_one (i := 6) (by kernel_rfl) rfl fun K44 hK44 => ?_
        refine ol_append1 (id := 60) (id2 := 57) rfl rfl rfl rfl rfl rw22 (by omega) rfl fun a58 c58 => ?_
        refine ol_nil (to_k0 (fun _ _ h => h) (hK44 _ _ ⟨.inr (by repeat' first | exact subH_nil | refine subH_same rfl ?_ | (refine subH_blk rfl (by repeat' first | exact sub_nil | refine sub_cons rfl ?_) ?_)), ⟨.inr (by repeat' first | exact subH_nil | refine subH_same rfl ?_ | (refine subH_blk rfl (by repeat' first | exact sub_nil | refine sub_cons rfl ?_) ?_)), ⟨.inl (by kernel_rfl), trivial⟩⟩⟩ ?_))
        clear hK44
        refine aq_r 7 999 rfl (by kernel_rfl) (by kernel_rfl) (by kernel_rfl) (.head _) (by kernel_rfl) (by kernel_rfl) rfl (r_fa (o' := 3) rfl fl26_3 rfl) ?_
        refine aq_one (i := 8) (by kernel_rfl) rfl fun K45 hK45 => ?_
        refine ol_store (id := 8) rfl rfl rfl rfl sz22 rfl rfl (by first | decide | exact Nat.zero_lt_succ _ | simp) ?_
        refine ol_nil (to_k0 (fun _ _ h => h) (hK45 _ _ ⟨.inr (by repeat' first | exact subH_nil | refine subH_same rfl ?_ | (refine subH_blk rfl (by repeat' first | exact sub_nil | refine sub_cons rfl ?_) ?_)), ⟨.inl (by kernel_rfl), ⟨.inl (by kernel_rfl), trivial⟩⟩⟩ ?_))
        clear hK45
        refine aq_done (by kernel_rfl) ?_
        refine (to_k0 (fun _ _ h => h) (hK41 _ _ _ _ _ ?_))
        clear hK41
        refine wp_reg ?_
        refine ol_r (r_move rfl) rfl ?_
        refine ol_r (r_move rfl) rfl ?_
        refine ol_r (r_add rfl rfl (by omega)) rfl ?_
        refine ol_r (r_assign rfl) rfl ?_
        refine ol_nil (to_k0 (fun _ _ h => h) (hK38 ((_, k + 1, _, _)) _ _ ?_ ?_ (sub_cons rfl sub_nil) (sub_cons rfl (sub_cons rfl (sub_cons rfl (sub_cons rfl (sub_cons rfl (sub_cons rfl sub_nil)))))) (by exact (subH_blk rfl (sub_cons rfl (sub_cons rfl (sub_cons rfl (sub_cons rfl (sub_cons rfl (sub_cons rfl sub_nil)))))) (subH_row rfl (by dsimp only; exact re_row ht) subH_nil))) (subH_same rfl (subH_same rfl (subH_same rfl (subH_same rfl (subH_same rfl subH_nil)))))))
        ·try dsimp only
         exact ⟨re_next ht, by have := hri.1 (by omega); omega⟩
        ·try dsimp only
         have := hri.1 (by omega); omega
       ·refine wp_exit' (to_k0 (fun _ _ h => h) (hK36 _ _ _ _ _ ?_))
        clear hK36
        refine wp_rega [(999, [(2, _), (4, _), (1001, _), (1002, _), (1003, _)]), (8, [(8, _)]), (6, [(60, _)])] (by kernel_rfl) ⟨.inr (subH_same rfl (subH_same rfl (subH_same rfl (subH_same rfl (subH_same rfl subH_nil))))), ⟨.inr (subH_same rfl subH_nil), ⟨.inr (subH_same rfl subH_nil), trivial⟩⟩⟩ ?_
        refine aq_r 0 999 rfl (by kernel_rfl) (by kernel_rfl) (by kernel_rfl) (.head _) (by kernel_rfl) (by kernel_rfl) rfl (r_fa (o' := 3) rfl fl26_3 rfl) ?_
        refine aq_r 1 8 rfl (by kernel_rfl) (by kernel_rfl) (by kernel_rfl) (.tail _ (.head _)) (by kernel_rfl) (by kernel_rfl) rfl (r_ld (id := 8) rfl rfl rfl sc22) ?_
        refine aq_r 2 999 rfl (by kernel_rfl) (by kernel_rfl) (by kernel_rfl) (.head _) (by kernel_rfl) (by kernel_rfl) rfl (r_lda (id := 2) (n := 6) rfl rfl rfl ag26) ?_
        refine aq_r 3 999 rfl (by kernel_rfl) (by kernel_rfl) (by kernel_rfl) (.head _) (by kernel_rfl) (by kernel_rfl) rfl (r_move rfl) ?_
        refine aq_one (i := 4) (by kernel_rfl) rfl fun K46 hK46 => ?_
        refine ol_call rfl rfl cb43 rfl (fun w1 hb1 hs1 hB1 => Calls.mono (track_Where A _ _ (hA.at hb1 hB1) hok (by omega) (by omega)) ?_)
        rintro e w2 ⟨rfl, hb2⟩
        refine After.below rfl hb1 hs1 hB1 hb2 ?_
        clear hb2 hB1 hs1 hb1 w2 w1
        refine ol_nil (to_k0 (fun _ _ h => h) (hK46 _ _ ⟨.inr (by repeat' first | exact subH_nil | refine subH_same rfl ?_ | (refine subH_blk rfl (by repeat' first | exact sub_nil | refine sub_cons rfl ?_) ?_)), ⟨.inr (by repeat' first | exact subH_nil | refine subH_same rfl ?_ | (refine subH_blk rfl (by repeat' first | exact sub_nil | refine sub_cons rfl ?_) ?_)), ⟨.inr (by repeat' first | exact subH_nil | refine subH_same rfl ?_ | (refine subH_blk rfl (by repeat' first | exact sub_nil | refine sub_cons rfl ?_) ?_)), trivial⟩⟩⟩ ?_))
        clear hK46
        refine aq_one (i := 5) (by kernel_rfl) rfl fun K47 hK47 => ?_
        refine ol_bs1 65 rfl rfl rw22 rfl rfl rfl fun a65 => ?_
        refine ol_nil (to_k0 (fun _ _ h => h) (hK47 _ _ ⟨.inr (by repeat' first | exact subH_nil | refine subH_same rfl ?_ | (refine subH_blk rfl (by repeat' first | exact sub_nil | refine sub_cons rfl ?_) ?_)), ⟨.inr (by repeat' first | exact subH_nil | refine subH_same rfl ?_ | (refine subH_blk rfl (by repeat' first | exact sub_nil | refine sub_cons rfl ?_) ?_)), ⟨.inr (by repeat' first | exact subH_nil | refine subH_same rfl ?_ | (refine subH_blk rfl (by repeat' first | exact sub_nil | refine sub_cons rfl ?_) ?_)), trivial⟩⟩⟩ ?_))
        clear hK47
        refine aq_one (i := 6) (by kernel_rfl) rfl fun K48 hK48 => ?_
        refine ol_append1 (id := 60) (id2 := 65) rfl rfl rfl rfl rfl rw22 (by omega) rfl fun a66 c66 => ?_
        refine ol_nil (to_k0 (fun _ _ h => h) (hK48 _ _ ⟨.inr (by repeat' first | exact subH_nil | refine subH_same rfl ?_ | (refine subH_blk rfl (by repeat' first | exact sub_nil | refine sub_cons rfl ?_) ?_)), ⟨.inr (by repeat' first | exact subH_nil | refine subH_same rfl ?_ | (refine subH_blk rfl (by repeat' first | exact sub_nil | refine sub_cons rfl ?_) ?_)), ⟨.inl (by kernel_rfl), trivial⟩⟩⟩ ?_))
        clear hK48
        refine aq_r 7 999 rfl (by kernel_rfl) (by kernel_rfl) (by kernel_rfl) (.head _) (by kernel_rfl) (by kernel_rfl) rfl (r_fa (o' := 3) rfl fl26_3 rfl) ?_
        refine aq_one (i := 8) (by kernel_rfl) rfl fun K49 hK49 => ?_
        refine ol_store (id := 8) rfl rfl rfl rfl sz22 rfl rfl (by first | decide | exact Nat.zero_lt_succ _ | simp) ?_
        refine ol_nil (to_k0 (fun _ _ h => h) (hK49 _ _ ⟨.inr (by repeat' first | exact subH_nil | refine subH_same rfl ?_ | (refine subH_blk rfl (by repeat' first | exact sub_nil | refine sub_cons rfl ?_) ?_)), ⟨.inl (by kernel_rfl), ⟨.inl (by kernel_rfl), trivial⟩⟩⟩ ?_))
        clear hK49
        refine aq_done (by kernel_rfl) ?_
        refine (to_k0 (fun _ _ h => h) (hK34 _ _ _ _ _ ?_))
        clear hK34
        refine wp_seq' fun K50 hK50 => ?_
        refine wp_reg ?_
        refine ol_r (r_lda (id := 8) (n := 6) rfl rfl rfl ag26) rfl ?_
        refine ol_store (id := 4) rfl rfl rfl rfl sz26 rfl rfl (by first | decide | exact Nat.zero_lt_succ _ | simp) ?_
        refine ol_r (r_assign rfl) rfl ?_
        refine ol_nil (to_k0 (fun _ _ h => h) (hK50 _ _ _ _ _ ?_))
        clear hK50
        refine hQ.ret (rvs2 (rv_c (id := 4) (n := 6) rfl rfl ag26 rfl) (rv_t rfl)) (fun _ _ h => h) fun w hb hs hB hkd => ?_
        exfalso
        omega
     ·refine wp_skip' (to_k0 (fun _ _ h => h) (hK34 _ _ _ _ _ ?_))
      clear hK34
      refine wp_seq' fun K51 hK51 => ?_
      refine wp_reg ?_
      refine ol_r (r_lda (id := 8) (n := 6) rfl rfl rfl ag26) rfl ?_
      refine ol_store (id := 4) rfl rfl rfl rfl sz26 rfl rfl (by first | decide | exact Nat.zero_lt_succ _ | simp) ?_
      refine ol_r (r_assign rfl) rfl ?_
      refine ol_nil (to_k0 (fun _ _ h => h) (hK51 _ _ _ _ _ ?_))
      clear hK51
      refine hQ.ret (rvs2 (rv_c (id := 4) (n := 6) rfl rfl ag26 rfl) (rv_t rfl)) (fun _ _ h => h) fun w hb hs hB hkd => ?_
      have h := resR_0 (a := A.d) h0 hin (fun h => by have h1 : 0 < A.ss.length := h.1; omega)
      exact ⟨re_nil h (by omega) (hs.three 60 1002 1003 1001 1002 1003 (by decide) (by decide) (by decide) rfl rfl rfl (Ent.le_refl _) (Ent.le_refl _) (Ent.le_refl _)), hb⟩
theorem ref3_Resample (A : ActV) (step : Int) (w : World) (hA : A.Ok w.heap.size w) :
    Calls Try.prog 14 #[.agg #[.string A.name, .int .i64 A.sport, .int .i64 A.start, .slice A.sa A.sn A.sc, .slice A.la A.ln A.lc, .slice A.ta A.tn A.tc], .int .i64 step] w fun e w' => OutA w.heap.size w' (resR A.d step) e ∧ Below w.heap.size w w' := by
  have hsn := hA.s.len
  have hln := hA.l.len
  have htn := hA.t.len
  refine enterQ (N := 61) (C := fun _ => True) (H := []) (B := w.heap.size) (args := [_, _]) Try.func14 rfl rfl rfl (Nat.le_refl _) (Sat.nil _ _) fun Q hQ => ?_
  refine wp_seq' fun K1 hK1 => ?_
  refine wp_reg ?_
  refine ol_box 2 rfl rfl rfl fun b2 => ?_
  refine ol_alloc 4 z26 rfl fun b4 => ?_
  refine ol_r (r_assign rfl) rfl ?_
  refine ol_nil (to_k0 (fun _ _ h => h) (hK1 _ _ _ _ _ ?_))
  clear hK1
  refine wp_seq' fun K2 hK2 => ?_
  refine wp_seq' fun K3 hK3 => ?_
  refine wp_reg ?_
  refine ol_r (r_lda (id := 2) (n := 6) rfl rfl rfl ag26) rfl ?_
  refine ol_call rfl rfl cb44 rfl (fun w1 hb1 hs1 hB1 => Calls.mono (ref2_Check A _ (hA.at hb1 hB1)) ?_)
  rintro e w2 ⟨rfl, hb2⟩
  refine After.below rfl hb1 hs1 hB1 hb2 ?_
  clear hb2 hB1 hs1 hb1 w2 w1
  refine ol_r (r_assign rfl) rfl ?_
  refine ol_nil (to_k0 (fun _ _ h => h) (hK3 _ _ _ _ _ ?_))
  clear hK3
  refine wp_seq' fun K4 hK4 => ?_
  refine wp_reg ?_
  refine ol_r (r_move rfl) rfl ?_
  refine ol_r (r_neq rfl rfl) rfl ?_
  refine ol_nil (to_k0 (fun _ _ h => h) (hK4 _ _ _ _ _ ?_))
  clear hK4
  refine wp_condD rfl (fun hc13 => ?_) (fun hc13 => ?_)
  ·refine wp_seq' fun K5 hK5 => ?_
   refine wp_reg ?_
   refine ol_r (r_build rfl (fun _ => bd26 _)) rfl ?_
   refine ol_r (r_move rfl) rfl ?_
   refine ol_store (id := 4) rfl rfl rfl rfl sz26 rfl rfl (by first | decide | exact Nat.zero_lt_succ _ | simp) ?_
   refine ol_r (r_assign rfl) rfl ?_
   refine ol_nil (to_k0 (fun _ _ h => h) (hK5 _ _ _ _ _ ?_))
   clear hK5
   refine hQ.ret (rvs2 (rv_c (id := 4) (n := 6) rfl rfl ag26 rfl) (rv_t rfl)) (fun _ _ h => h) fun w hb hs hB hkd => ?_
   exact ⟨outA_no (resR_e hc13), hb⟩
  ·refine wp_skip' (to_k0 (fun _ _ h => h) (hK2 _ _ _ _ _ ?_))
   clear hK2
   refine wp_seq' fun K6 hK6 => ?_
   refine wp_seq' fun K7 hK7 => ?_
   refine wp_reg ?_
   have h0 : chkA A.d = 0 := Decidable.not_not.1 hc13
   have hg := goodA h0
   have hok : SmpOk A.start A.ss := hg.smp
   have hl20 := hok.len
   have hsp := hok.span
   obtain ⟨g4, g5, g6⟩ := hg.head.2.2.2
   dsimp only [ActV.d] at g4 g5 g6
   refine ol_r (r_move rfl) rfl ?_
   refine ol_call rfl rfl cb45 rfl (fun w1 hb1 hs1 hB1 => Calls.mono (ref3_outside _ _ _ _) ?_)
   rintro e w2 ⟨rfl, hb2⟩
   refine After.below rfl hb1 hs1 hB1 hb2 ?_
   clear hb2 hB1 hs1 hb1 w2 w1
   refine ol_nil (to_k0 (fun _ _ h => h) (hK7 _ _ _ _ _ ?_))
   clear hK7
   refine wp_condNB rfl (fun hc17 => ?_) (fun hc17 => ?_)
   ·refine wp_seq' fun K8 hK8 => ?_
    refine wp_reg ?_
    refine ol_r (r_build rfl (fun _ => bd26 _)) rfl ?_
    refine ol_store (id := 4) rfl rfl rfl rfl sz26 rfl rfl (by first | decide | exact Nat.zero_lt_succ _ | simp) ?_
    refine ol_r (r_assign rfl) rfl ?_
    refine ol_nil (to_k0 (fun _ _ h => h) (hK8 _ _ _ _ _ ?_))
    clear hK8
    refine hQ.ret (rvs2 (rv_c (id := 4) (n := 6) rfl rfl ag26 rfl) (rv_t rfl)) (fun _ _ h => h) fun w hb hs hB hkd => ?_
    exact ⟨outA_no (resR_9 (Decidable.not_not.1 hc13) (fun h => by have := inB_iff.2 h; rw [this] at hc17; cases hc17)), hb⟩
   ·refine wp_skip' (to_k0 (fun _ _ h => h) (hK6 _ _ _ _ _ ?_))
    clear hK6
    refine wp_seq' fun K9 hK9 => ?_
    refine wp_reg ?_
    have hin : 1 ≤ step ∧ step ≤ 1000000 := inB_iff.1 (by simpa using hc17)
    have hqb0 : 0 ≤ (spanL A.ss + step - 1) / step := Int.ediv_nonneg (by omega) (by omega)
    have hqb1 : (spanL A.ss + step - 1) / step ≤ spanL A.ss + step - 1 := Int.ediv_le_self _ (by omega)
    refine ol_r (r_lda (id := 2) (n := 6) rfl rfl rfl ag26) rfl ?_
    refine ol_call rfl rfl cb49 rfl (fun w1 hb1 hs1 hB1 => ?_)
    refine Calls.mono (ref3_copied A _ (hA.at hb1 hB1) (by omega) (by omega) (by omega)) ?_
    rintro e w2 ⟨sa, sc, la, lc, ta, tc, rfl, hb2, hs2⟩
    refine After.more rfl hb1 hs1 hB1 hb2 hs2 ?_
    clear hs2 hb2 hB1 hs1 hb1 w2 w1
    refine ol_alloc 7 z26 rfl fun b7 => ?_
    refine ol_store (id := 7) rfl rfl rfl rfl sz26 rfl rfl (by first | decide | exact Nat.zero_lt_succ _ | simp) ?_
    refine ol_nil (to_k0 (fun _ _ h => h) (hK9 _ _ _ _ _ ?_))
    clear hK9
    refine wp_seq' fun K10 hK10 => ?_
    refine wp_seq' fun K11 hK11 => ?_
    refine wp_reg ?_
    refine ol_r (r_fa (o' := 3) rfl fl26_3 rfl) rfl ?_
    refine ol_r (r_ld (id := 2) rfl rfl rfl sc22) rfl ?_
    refine ol_r (r_len rfl sl22) rfl ?_
    refine ol_r (r_eql rfl rfl) rfl ?_
    refine ol_nil (to_k0 (fun _ _ h => h) (hK11 _ _ _ _ _ ?_))
    clear hK11
    refine wp_condD rfl (fun hc24 => ?_) (fun hc24 => ?_)
    ·refine wp_seq' fun K12 hK12 => ?_
     refine wp_reg ?_
     refine ol_r (r_lda (id := 7) (n := 6) rfl rfl rfl ag26) rfl ?_
     refine ol_store (id := 4) rfl rfl rfl rfl sz26 rfl rfl (by first | decide | exact Nat.zero_lt_succ _ | simp) ?_
     refine ol_r (r_assign rfl) rfl ?_
     refine ol_nil (to_k0 (fun _ _ h => h) (hK12 _ _ _ _ _ ?_))
     clear hK12
     refine hQ.ret (rvs2 (rv_c (id := 4) (n := 6) rfl rfl ag26 rfl) (rv_t rfl)) (fun _ _ h => h) fun w hb hs hB hkd => ?_
     have hl0 : A.ss.length = 0 := by omega
     have h := resR_0 (a := A.d) h0 hin (fun h => by have h1 : 0 < A.ss.length := h.1; omega)
     rw [h, resD_nil (show A.d.ss.length = 0 from hl0)]
     exact ⟨⟨sa, A.sn, sc, la, A.ln, lc, ta, A.tn, tc, rfl, hs.three 1001 1002 1003 1001 1002 1003 (by decide) (by decide) (by decide) rfl rfl rfl (Ent.le_refl _) (Ent.le_refl _) (Ent.le_refl _)⟩, hb⟩
    ·refine wp_skip' (to_k0 (fun _ _ h => h) (hK10 _ _ _ _ _ ?_))
     clear hK10
     refine wp_seq' fun K13 hK13 => ?_
     refine wp_reg ?_
     refine ol_r (r_lda (id := 2) (n := 6) rfl rfl rfl ag26) rfl ?_
     refine ol_call rfl rfl cb46 rfl (fun w1 hb1 hs1 hB1 => Calls.mono (ref2_SpanOf A _ (hA.at hb1 hB1)) ?_)
     rintro e w2 ⟨rfl, hb2⟩
     refine After.below rfl hb1 hs1 hB1 hb2 ?_
     clear hb2 hB1 hs1 hb1 w2 w1
     refine ol_r (r_assign rfl) rfl ?_
     refine ol_nil (to_k0 (fun _ _ h => h) (hK13 _ _ _ _ _ ?_))
     clear hK13
     refine wp_seq' fun K14 hK14 => ?_
     refine wp_seq' fun K15 hK15 => ?_
     refine wp_reg ?_
     refine ol_r (r_move rfl) rfl ?_
     refine ol_r (r_move rfl) rfl ?_
     refine ol_r (r_add rfl rfl (by omega)) rfl ?_
     refine ol_r (r_sub rfl rfl (by omega)) rfl ?_
     refine ol_r (r_move rfl) rfl ?_
     first | refine ol_r (r_quo rfl rfl (by omega)) rfl ?_ | refine ol_r (r_tquo rfl rfl (by omega)) rfl ?_
     refine ol_r (r_add rfl rfl (by omega)) rfl ?_
     refine ol_r (r_gtr rfl rfl) rfl ?_
     refine ol_nil (to_k0 (fun _ _ h => h) (hK15 _ _ _ _ _ ?_))
     clear hK15
     refine wp_condD rfl (fun hc35 => ?_) (fun hc35 => ?_)
     ·refine wp_seq' fun K16 hK16 => ?_
      refine wp_reg ?_
      refine ol_r (r_build rfl (fun _ => bd26 _)) rfl ?_
      refine ol_store (id := 4) rfl rfl rfl rfl sz26 rfl rfl (by first | decide | exact Nat.zero_lt_succ _ | simp) ?_
      refine ol_r (r_assign rfl) rfl ?_
      refine ol_nil (to_k0 (fun _ _ h => h) (hK16 _ _ _ _ _ ?_))
      clear hK16
      refine hQ.ret (rvs2 (rv_c (id := 4) (n := 6) rfl rfl ag26 rfl) (rv_t rfl)) (fun _ _ h => h) fun w hb hs hB hkd => ?_
      exact ⟨outA_no (resR_3 h0 hin ⟨by show 0 < A.ss.length; omega, hc35⟩), hb⟩
     ·refine wp_skip' (to_k0 (fun _ _ h => h) (hK14 _ _ _ _ _ ?_))
      clear hK14
      refine wp_seq' fun K17 hK17 => ?_
      refine wp_reg ?_
      refine ol_nilrow 60 28 7 ?_
      refine ol_r (r_fa (o' := 3) rfl fl26_3 rfl) rfl ?_
      refine ol_store (id := 7) rfl rfl rfl rfl sz22 rfl rfl (by first | decide | exact Nat.zero_lt_succ _ | simp) ?_
      refine ol_nil (to_k0 (fun _ _ h => h) (hK17 _ _ _ _ _ ?_))
      clear hK17
      refine wp_seq' fun K18 hK18 => ?_
      refine wp_seq' fun K19 hK19 => ?_
      refine wp_reg ?_
      refine ol_r (r_assign rfl) rfl ?_
      refine ol_nil (to_k0 (fun _ _ h => h) (hK19 _ _ _ _ _ ?_))
      clear hK19
      refine wp_block' ?_
      apply wp_loopM (σ := Int × Nat × Option Addr × Nat) (fun s => s.1 = (s.2.1 : Int) * step ∧ s.2.1 ≤ reN A.ss step) (fun s => [(9, .int .i64 s.1)]) [(1, _), (2, _), (4, _), (5, _), (7, _), (8, _)] (fun s => [(7, .blk b7 [(0, .string A.name), (1, .int .i64 A.sport), (2, .int .i64 A.start), (3, .slice s.2.2.1 s.2.1 s.2.2.2), (4, .slice la A.ln lc), (5, .slice ta A.tn tc)] 26), (60, .row s.2.2.1 s.2.1 s.2.2.2 (encSmp.enc (reL A.ss step s.2.1)) 28 7)]) [(2, _), (4, _), (1001, _), (1002, _), (1003, _)] (fun s => reN A.ss step - s.2.1) ((0, 0, none, 0))
      ·try dsimp only
       exact ⟨by omega, Nat.zero_le _⟩
      ·exact (sub_cons rfl sub_nil)
      ·exact (sub_cons rfl (sub_cons rfl (sub_cons rfl (sub_cons rfl (sub_cons rfl (sub_cons rfl sub_nil))))))
      ·exact (subH_blk rfl (sub_cons rfl (sub_cons rfl (sub_cons rfl (sub_cons rfl (sub_cons rfl (sub_cons rfl sub_nil)))))) (subH_row rfl (by dsimp only; rfl) subH_nil))
      ·exact (subH_same rfl (subH_same rfl (subH_same rfl (subH_same rfl (subH_same rfl subH_nil)))))
      ·rintro ⟨t, k, oa, oc⟩ ⟨ht, hk⟩
       dsimp only at ht hk ⊢
       have hrb : reN A.ss step ≤ 20000 := reN_bd hin.1 hsp.1 hc35
       have hri := reN_iff (ss := A.ss) hin.1 hsp.1 k
       have ht0 : 0 ≤ t := by rw [ht]; exact Int.mul_nonneg (by omega) (by omega)
       intro K20 hK20
       refine wp_seq' fun K21 hK21 => ?_
       refine wp_seq' fun K22 hK22 => ?_
       refine wp_reg ?_
       refine ol_r (r_move rfl) rfl ?_
       refine ol_r (r_move rfl) rfl ?_
       refine ol_r (r_lss rfl rfl) rfl ?_
       refine ol_nil (to_k0 (fun _ _ h => h) (hK22 _ _ _ _ _ ?_))
       clear hK22
       refine wp_condD rfl (fun hc40 => ?_) (fun hc40 => ?_)
       ·refine wp_skip' (to_k0 (fun _ _ h => h) (hK21 _ _ _ _ _ ?_))
        clear hK21
        refine wp_seq' fun K23 hK23 => ?_
        refine wp_block' ?_
        refine wp_rega [(999, [(2, _), (4, _), (1001, _), (1002, _), (1003, _)]), (8, [(7, _)]), (6, [(60, _)])] (by kernel_rfl) ⟨.inr (subH_same rfl (subH_same rfl (subH_same rfl (subH_same rfl (subH_same rfl subH_nil))))), ⟨.inr (subH_same rfl subH_nil), ⟨.inr (subH_same rfl subH_nil), trivial⟩⟩⟩ ?_
        refine aq_r 0 999 rfl (by kernel_rfl) (by kernel_rfl) (by kernel_rfl) (.head _) (by kernel_rfl) (by kernel_rfl) rfl (r_fa (o' := 3) rfl fl26_3 rfl) ?_
        refine aq_r 1 8 rfl (by kernel_rfl) (by kernel_rfl) (by kernel_rfl) (.tail _ (.head _)) (by kernel_rfl) (by kernel_rfl) rfl (r_ld (id := 7) rfl rfl rfl sc22) ?_
        refine aq_r 2 999 rfl (by kernel_rfl) (by kernel_rfl) (by kernel_rfl) (.head _) (by kernel_rfl) (by kernel_rfl) rfl (r_lda (id := 2) (n := 6) rfl rfl rfl ag26) ?_
        refine aq_r 3 999 rfl (by kernel_rfl) (by kernel_rfl) (by kernel_rfl) (.head _) (by kernel_rfl) (by kernel_rfl) rfl (r_move rfl) ?_
        refine aq_one (i := 4) (by kernel_rfl) rfl fun K24 hK24 => ?_
        refine ol_call rfl rfl cb47 rfl (fun w1 hb1 hs1 hB1 => Calls.mono (ref3_Where A _ _ (hA.at hb1 hB1) hok (by omega) (by omega)) ?_)
        rintro e w2 ⟨rfl, hb2⟩
        refine After.below rfl hb1 hs1 hB1 hb2 ?_
        clear hb2 hB1 hs1 hb1 w2 w1
        refine ol_nil (to_k0 (fun _ _ h => h) (hK24 _ _ ⟨.inr (by repeat' first | exact subH_nil | refine subH_same rfl ?_ | (refine subH_blk rfl (by repeat' first | exact sub_nil | refine sub_cons rfl ?_) ?_)), ⟨.inr (by repeat' first | exact subH_nil | refine subH_same rfl ?_ | (refine subH_blk rfl (by repeat' first | exact sub_nil | refine sub_cons rfl ?_) ?_)), ⟨.inr (by repeat' first | exact subH_nil | refine subH_same rfl ?_ | (refine subH_blk rfl (by repeat' first | exact sub_nil | refine sub_cons rfl ?_) ?_)), trivial⟩⟩⟩ ?_))
        clear hK24
        refine aq_one (i := 5) (by kernel_rfl) rfl fun K25 hK25 => ?_
        refine ol_bs1 49 rfl rfl rw22 rfl rfl rfl fun a49 => ?_
        refine ol_nil (to_k0 (fun _ _ h => h) (hK25 _ _ ⟨.inr (by repeat' first | exact subH_nil | refine subH_same rfl ?_ | (refine subH_blk rfl (by repeat' first | exact sub_nil | refine sub_cons rfl ?_) ?_)), ⟨.inr (by repeat' first | exact subH_nil | refine subH_same rfl ?_ | (refine subH_blk rfl (by repeat' first | exact sub_nil | refine sub_cons rfl ?_) ?_)), ⟨.inr (by repeat' first | exact subH_nil | refine subH_same rfl ?_ | (refine subH_blk rfl (by repeat' first | exact sub_nil | refine sub_cons rfl ?_) ?_)), trivial⟩⟩⟩ ?_))
        clear hK25
        refine aq_one (i := 6) (by kernel_rfl) rfl fun K26 hK26 => ?_
        refine ol_append1 (id := 60) (id2 := 49) rfl rfl rfl rfl rfl rw22 (by omega) rfl fun a50 c50 => ?_
        refine ol_nil (to_k0 (fun _ _ h => h) (hK26 _ _ ⟨.inr (by repeat' first | exact subH_nil | refine subH_same rfl ?_ | (refine subH_blk rfl (by repeat' first | exact sub_nil | refine sub_cons rfl ?_) ?_)), ⟨.inr (by repeat' first | exact subH_nil | refine subH_same rfl ?_ | (refine subH_blk rfl (by repeat' first | exact sub_nil | refine sub_cons rfl ?_) ?_)), ⟨.inl (by kernel_rfl), trivial⟩⟩⟩ ?_))
        clear hK26
        refine aq_r 7 999 rfl (by kernel_rfl) (by kernel_rfl) (by kernel_rfl) (.head _) (by kernel_rfl) (by kernel_rfl) rfl (r_fa (o' := 3) rfl fl26_3 rfl) ?_
        refine aq_one (i := 8) (by kernel_rfl) rfl fun K27 hK27 => ?_
        refine ol_store (id := 7) rfl rfl rfl rfl sz22 rfl rfl (by first | decide | exact Nat.zero_lt_succ _ | simp) ?_
        refine ol_nil (to_k0 (fun _ _ h => h) (hK27 _ _ ⟨.inr (by repeat' first | exact subH_nil | refine subH_same rfl ?_ | (refine subH_blk rfl (by repeat' first | exact sub_nil | refine sub_cons rfl ?_) ?_)), ⟨.inl (by kernel_rfl), ⟨.inl (by kernel_rfl), trivial⟩⟩⟩ ?_))
        clear hK27
        refine aq_done (by kernel_rfl) ?_
        refine (to_k0 (fun _ _ h => h) (hK23 _ _ _ _ _ ?_))
        clear hK23
        refine wp_reg ?_
        refine ol_r (r_move rfl) rfl ?_
        refine ol_r (r_move rfl) rfl ?_
        refine ol_r (r_add rfl rfl (by omega)) rfl ?_
        refine ol_r (r_assign rfl) rfl ?_
        refine ol_nil (to_k0 (fun _ _ h => h) (hK20 ((_, k + 1, _, _)) _ _ ?_ ?_ (sub_cons rfl sub_nil) (sub_cons rfl (sub_cons rfl (sub_cons rfl (sub_cons rfl (sub_cons rfl (sub_cons rfl sub_nil)))))) (by exact (subH_blk rfl (sub_cons rfl (sub_cons rfl (sub_cons rfl (sub_cons rfl (sub_cons rfl (sub_cons rfl sub_nil)))))) (subH_row rfl (by dsimp only; exact re_row ht) subH_nil))) (subH_same rfl (subH_same rfl (subH_same rfl (subH_same rfl (subH_same rfl subH_nil)))))))
        ·try dsimp only
         exact ⟨re_next ht, by have := hri.1 (by omega); omega⟩
        ·try dsimp only
         have := hri.1 (by omega); omega
       ·refine wp_exit' (to_k0 (fun _ _ h => h) (hK18 _ _ _ _ _ ?_))
        clear hK18
        refine wp_seq' fun K28 hK28 => ?_
        refine wp_rega [(999, [(2, _), (4, _), (1001, _), (1002, _), (1003, _)]), (8, [(7, _)]), (6, [(60, _)])] (by kernel_rfl) ⟨.inr (subH_same rfl (subH_same rfl (subH_same rfl (subH_same rfl (subH_same rfl subH_nil))))), ⟨.inr (subH_same rfl subH_nil), ⟨.inr (subH_same rfl subH_nil), trivial⟩⟩⟩ ?_
        refine aq_r 0 999 rfl (by kernel_rfl) (by kernel_rfl) (by kernel_rfl) (.head _) (by kernel_rfl) (by kernel_rfl) rfl (r_fa (o' := 3) rfl fl26_3 rfl) ?_
        refine aq_r 1 8 rfl (by kernel_rfl) (by kernel_rfl) (by kernel_rfl) (.tail _ (.head _)) (by kernel_rfl) (by kernel_rfl) rfl (r_ld (id := 7) rfl rfl rfl sc22) ?_
        refine aq_r 2 999 rfl (by kernel_rfl) (by kernel_rfl) (by kernel_rfl) (.head _) (by kernel_rfl) (by kernel_rfl) rfl (r_lda (id := 2) (n := 6) rfl rfl rfl ag26) ?_
        refine aq_r 3 999 rfl (by kernel_rfl) (by kernel_rfl) (by kernel_rfl) (.head _) (by kernel_rfl) (by kernel_rfl) rfl (r_move rfl) ?_
        refine aq_one (i := 4) (by kernel_rfl) rfl fun K29 hK29 => ?_
        refine ol_call rfl rfl cb47 rfl (fun w1 hb1 hs1 hB1 => Calls.mono (ref3_Where A _ _ (hA.at hb1 hB1) hok (by omega) (by omega)) ?_)
        rintro e w2 ⟨rfl, hb2⟩
        refine After.below rfl hb1 hs1 hB1 hb2 ?_
        clear hb2 hB1 hs1 hb1 w2 w1
        refine ol_nil (to_k0 (fun _ _ h => h) (hK29 _ _ ⟨.inr (by repeat' first | exact subH_nil | refine subH_same rfl ?_ | (refine subH_blk rfl (by repeat' first | exact sub_nil | refine sub_cons rfl ?_) ?_)), ⟨.inr (by repeat' first | exact subH_nil | refine subH_same rfl ?_ | (refine subH_blk rfl (by repeat' first | exact sub_nil | refine sub_cons rfl ?_) ?_)), ⟨.inr (by repeat' first | exact subH_nil | refine subH_same rfl ?_ | (refine subH_blk rfl (by repeat' first | exact sub_nil | refine sub_cons rfl ?_) ?_)), trivial⟩⟩⟩ ?_))
        clear hK29
        refine aq_one (i := 5) (by kernel_rfl) rfl fun K30 hK30 => ?_
        refine ol_bs1 57 rfl rfl rw22 rfl rfl rfl fun a57 => ?_
        refine ol_nil (to_k0 (fun _ _ h => h) (hK30 _ _ ⟨.inr (by repeat' first | exact subH_nil | refine subH_same rfl ?_ | (refine subH_blk rfl (by repeat' first | exact sub_nil | refine sub_cons rfl ?_) ?_)), ⟨.inr (by repeat' first | exact subH_nil | refine subH_same rfl ?_ | (refine subH_blk rfl (by repeat' first | exact sub_nil | refine sub_cons rfl ?_) ?_)), ⟨.inr (by repeat' first | exact subH_nil | refine subH_same rfl ?_ | (refine subH_blk rfl (by repeat' first | exact sub_nil | refine sub_cons rfl ?_) ?_)), trivial⟩⟩⟩ ?_))
        clear hK30
        refine aq_one (i := 6) (by kernel_rfl) rfl fun K31 hK31 => ?_
        refine ol_append1 (id := 60) (id2 := 57) rfl rfl rfl rfl rfl rw22 (by omega) rfl fun a58 c58 => ?_
        refine ol_nil (to_k0 (fun _ _ h => h) (hK31 _ _ ⟨.inr (by repeat' first | exact subH_nil | refine subH_same rfl ?_ | (refine subH_blk rfl (by repeat' first | exact sub_nil | refine sub_cons rfl ?_) ?_)), ⟨.inr (by repeat' first | exact subH_nil | refine subH_same rfl ?_ | (refine subH_blk rfl (by repeat' first | exact sub_nil | refine sub_cons rfl ?_) ?_)), ⟨.inl (by kernel_rfl), trivial⟩⟩⟩ ?_))
        clear hK31
        refine aq_r 7 999 rfl (by kernel_rfl) (by kernel_rfl) (by kernel_rfl) (.head _) (by kernel_rfl) (by kernel_rfl) rfl (r_fa (o' := 3) rfl fl26_3 rfl) ?_
        refine aq_one (i := 8) (by kernel_rfl) rfl fun K32 hK32 => ?_
        refine ol_store (id := 7) rfl rfl rfl rfl sz22 rfl rfl (by first | decide | exact Nat.zero_lt_succ _ | simp) ?_
        refine ol_nil (to_k0 (fun _ _ h => h) (hK32 _ _ ⟨.inr (by repeat' first | exact subH_nil | refine subH_same rfl ?_ | (refine subH_blk rfl (by repeat' first | exact sub_nil | refine sub_cons rfl ?_) ?_)), ⟨.inl (by kernel_rfl), ⟨.inl (by kernel_rfl), trivial⟩⟩⟩ ?_))
        clear hK32
        refine aq_done (by kernel_rfl) ?_
        refine (to_k0 (fun _ _ h => h) (hK28 _ _ _ _ _ ?_))
        clear hK28
        refine wp_seq' fun K33 hK33 => ?_
        refine wp_reg ?_
        refine ol_r (r_lda (id := 7) (n := 6) rfl rfl rfl ag26) rfl ?_
        refine ol_store (id := 4) rfl rfl rfl rfl sz26 rfl rfl (by first | decide | exact Nat.zero_lt_succ _ | simp) ?_
        refine ol_r (r_assign rfl) rfl ?_
        refine ol_nil (to_k0 (fun _ _ h => h) (hK33 _ _ _ _ _ ?_))
        clear hK33
        refine hQ.ret (rvs2 (rv_c (id := 4) (n := 6) rfl rfl ag26 rfl) (rv_t rfl)) (fun _ _ h => h) fun w hb hs hB hkd => ?_
        have h := resR_0 (a := A.d) h0 hin (fun h => hc35 h.2)
        have hkN : k = reN A.ss step := by omega
        subst hkN
        exact ⟨re_end h (by omega) (hs.three 60 1002 1003 1001 1002 1003 (by decide) (by decide) (by decide) rfl rfl rfl (Ent.le_refl _) (Ent.le_refl _) (Ent.le_refl _)), hb⟩
theorem law_at (A : ActV) (t step : Int) (w : World) (hA : A.Ok w.heap.size w) :
    Calls Try.prog 3 #[.agg #[.string A.name, .int .i64 A.sport, .int .i64 A.start, .slice A.sa A.sn A.sc, .slice A.la A.ln A.lc, .slice A.ta A.tn A.tc], .int .i64 t, .int .i64 step] w fun e w' => e = .returned (.bool true) ∧ Below w.heap.size w w' := by
  refine enterQ (N := 60) (C := fun _ => True) (H := []) (B := w.heap.size) (args := [_, _, _]) Try.func3 rfl rfl rfl (Nat.le_refl _) (Sat.nil _ _) fun Q hQ => ?_
  refine wp_seq' fun K1 hK1 => ?_
  refine wp_reg ?_
  refine ol_box 3 rfl rfl rfl fun b3 => ?_
  refine ol_r (r_assign rfl) rfl ?_
  refine ol_nil (to_k0 (fun _ _ h => h) (hK1 _ _ _ _ _ ?_))
  clear hK1
  refine wp_seq' fun K2 hK2 => ?_
  refine wp_reg ?_
  refine ol_r (r_lda (id := 3) (n := 6) rfl rfl rfl ag26) rfl ?_
  refine ol_r (r_move rfl) rfl ?_
  refine ol_call rfl rfl cb11 rfl (fun w1 hb1 hs1 hB1 => Calls.mono (track_At A t _ (hA.at hb1 hB1)) ?_)
  rintro e w2 ⟨rfl, hb2⟩
  refine After.below rfl hb1 hs1 hB1 hb2 ?_
  clear hb2 hB1 hs1 hb1 w2 w1
  refine ol_r (r_move rfl) rfl ?_
  refine ol_r (r_extract rfl rfl) rfl ?_
  refine ol_r (r_extract rfl rfl) rfl ?_
  refine ol_alloc 7 z28 rfl fun b7 => ?_
  refine ol_store (id := 7) rfl rfl rfl rfl sz28 rfl rfl (by first | decide | exact Nat.zero_lt_succ _ | simp) ?_
  refine ol_r (r_assign rfl) rfl ?_
  refine ol_nil (to_k0 (fun _ _ h => h) (hK2 _ _ _ _ _ ?_))
  clear hK2
  refine wp_seq' fun K3 hK3 => ?_
  refine wp_reg ?_
  refine ol_r (r_lda (id := 3) (n := 6) rfl rfl rfl ag26) rfl ?_
  refine ol_r (r_move rfl) rfl ?_
  refine ol_call rfl rfl cb12 rfl (fun w1 hb1 hs1 hB1 => Calls.mono (ref3_At A t _ (hA.at hb1 hB1)) ?_)
  rintro e w2 ⟨rfl, hb2⟩
  refine After.below rfl hb1 hs1 hB1 hb2 ?_
  clear hb2 hB1 hs1 hb1 w2 w1
  refine ol_r (r_move rfl) rfl ?_
  refine ol_r (r_extract rfl rfl) rfl ?_
  refine ol_r (r_extract rfl rfl) rfl ?_
  refine ol_alloc 9 z28 rfl fun b9 => ?_
  refine ol_store (id := 9) rfl rfl rfl rfl sz28 rfl rfl (by first | decide | exact Nat.zero_lt_succ _ | simp) ?_
  refine ol_r (r_assign rfl) rfl ?_
  refine ol_nil (to_k0 (fun _ _ h => h) (hK3 _ _ _ _ _ ?_))
  clear hK3
  refine wp_seq' fun K4 hK4 => ?_
  refine wp_reg ?_
  refine ol_r (r_lda (id := 3) (n := 6) rfl rfl rfl ag26) rfl ?_
  refine ol_r (r_move rfl) rfl ?_
  refine ol_call rfl rfl cb13 rfl (fun w1 hb1 hs1 hB1 => ?_)
  refine Calls.mono (track_Resample A step _ (hA.at hb1 hB1)) ?_
  rintro e w2 ⟨⟨sa1, sn1, sc1, la1, ln1, lc1, ta1, tn1, tc1, rfl, hs2⟩, hb2⟩
  refine After.more rfl hb1 hs1 hB1 hb2 (hs2.three 1001 1002 1003 1011 1012 1013 (by decide) (by decide) (by decide) rfl rfl rfl (Ent.le_refl _) (Ent.le_refl _) (Ent.le_refl _)) ?_
  clear hs2 hb2 hB1 hs1 hb1 w2 w1
  refine ol_r (r_move rfl) rfl ?_
  refine ol_r (r_extract rfl rfl) rfl ?_
  refine ol_r (r_extract rfl rfl) rfl ?_
  refine ol_alloc 11 z26 rfl fun b11 => ?_
  refine ol_store (id := 11) rfl rfl rfl rfl sz26 rfl rfl (by first | decide | exact Nat.zero_lt_succ _ | simp) ?_
  refine ol_r (r_assign rfl) rfl ?_
  refine ol_nil (to_k0 (fun _ _ h => h) (hK4 _ _ _ _ _ ?_))
  clear hK4
  refine wp_seq' fun K5 hK5 => ?_
  refine wp_reg ?_
  refine ol_r (r_lda (id := 3) (n := 6) rfl rfl rfl ag26) rfl ?_
  refine ol_r (r_move rfl) rfl ?_
  refine ol_call rfl rfl cb14 rfl (fun w1 hb1 hs1 hB1 => ?_)
  refine Calls.mono (ref3_Resample A step _ (hA.at hb1 hB1)) ?_
  rintro e w2 ⟨⟨sa2, sn2, sc2, la2, ln2, lc2, ta2, tn2, tc2, rfl, hs2⟩, hb2⟩
  refine After.more rfl hb1 hs1 hB1 hb2 (hs2.three 1001 1002 1003 1021 1022 1023 (by decide) (by decide) (by decide) rfl rfl rfl (Ent.le_refl _) (Ent.le_refl _) (Ent.le_refl _)) ?_
  clear hs2 hb2 hB1 hs1 hb1 w2 w1
  refine ol_r (r_move rfl) rfl ?_
  refine ol_r (r_extract rfl rfl) rfl ?_
  refine ol_r (r_extract rfl rfl) rfl ?_
  refine ol_alloc 13 z26 rfl fun b13 => ?_
  refine ol_store (id := 13) rfl rfl rfl rfl sz26 rfl rfl (by first | decide | exact Nat.zero_lt_succ _ | simp) ?_
  refine ol_r (r_assign rfl) rfl ?_
  refine ol_nil (to_k0 (fun _ _ h => h) (hK5 _ _ _ _ _ ?_))
  clear hK5
  refine wp_seq' fun K6 hK6 => ?_
  refine wp_reg ?_
  refine ol_r (r_lda (id := 7) (n := 7) rfl rfl rfl ag28) rfl ?_
  refine ol_r (r_lda (id := 9) (n := 7) rfl rfl rfl ag28) rfl ?_
  refine ol_r (r_eqs rfl rfl (by kernel_rfl) (fun w => run_eqs (by kernel_rfl) (by kernel_rfl) w)) rfl ?_
  refine ol_r (r_move rfl) rfl ?_
  refine ol_split (d := 42) rfl (fun hs42 => ?_) (fun hs42 => ?_)
  ·have phs42 := hs42; try simp only [decide_eq_true_eq, decide_eq_false_iff_not, Bool.not_eq_true', Bool.not_eq_false', Bool.not_true, Bool.not_false] at phs42
   refine ol_g rfl rfl hs42 ?_
   refine ol_r (r_move rfl) rfl ?_
   refine ol_g rfl rfl hs42 ?_
   refine ol_r (r_move rfl) rfl ?_
   refine ol_g rfl rfl hs42 ?_
   refine ol_r (r_eql rfl rfl) rfl ?_
   refine ol_r (r_pickT rfl hs42 rfl) rfl ?_
   refine ol_r (r_move rfl) rfl ?_
   refine ol_split (d := 47) rfl (fun hs47 => ?_) (fun hs47 => ?_)
   ·have phs47 := hs47; try simp only [decide_eq_true_eq, decide_eq_false_iff_not, Bool.not_eq_true', Bool.not_eq_false', Bool.not_true, Bool.not_false] at phs47
    refine ol_g rfl rfl hs47 ?_
    refine ol_r (r_lda (id := 11) (n := 6) rfl rfl rfl ag26) rfl ?_
    refine ol_g rfl rfl hs47 ?_
    refine ol_r (r_lda (id := 13) (n := 6) rfl rfl rfl ag26) rfl ?_
    refine ol_g rfl rfl hs47 ?_
    refine ol_call rfl rfl cb15 rfl (fun w1 hb1 hs1 hB1 => Calls.mono (record_Same (resR A.d step).1 _ _ _ _ _ _ _ _ _ _ _ _ _ _ _ _ _ _ _ (Sat.rd hs1 (id := 1011) rfl rfl) (Sat.rd hs1 (id := 1012) rfl rfl) (Sat.rd hs1 (id := 1013) rfl rfl) (Sat.rd hs1 (id := 1021) rfl rfl) (Sat.rd hs1 (id := 1022) rfl rfl) (Sat.rd hs1 (id := 1023) rfl rfl)) ?_)
    rintro e w2 ⟨rfl, hb2⟩
    refine After.below rfl hb1 hs1 hB1 hb2 ?_
    clear hb2 hB1 hs1 hb1 w2 w1
    refine ol_r (r_pickT rfl hs47 rfl) rfl ?_
    refine ol_r (r_move rfl) rfl ?_
    refine ol_split (d := 52) rfl (fun hs52 => ?_) (fun hs52 => ?_)
    ·have phs52 := hs52; try simp only [decide_eq_true_eq, decide_eq_false_iff_not, Bool.not_eq_true', Bool.not_eq_false', Bool.not_true, Bool.not_false] at phs52
     refine ol_g rfl rfl hs52 ?_
     refine ol_r (r_move rfl) rfl ?_
     refine ol_g rfl rfl hs52 ?_
     refine ol_r (r_move rfl) rfl ?_
     refine ol_g rfl rfl hs52 ?_
     refine ol_r (r_eql rfl rfl) rfl ?_
     refine ol_r (r_pickT rfl hs52 rfl) rfl ?_
     refine ol_r (r_move rfl) rfl ?_
     refine ol_split (d := 57) rfl (fun hs57 => ?_) (fun hs57 => ?_)
     ·have phs57 := hs57; try simp only [decide_eq_true_eq, decide_eq_false_iff_not, Bool.not_eq_true', Bool.not_eq_false', Bool.not_true, Bool.not_false] at phs57
      refine ol_g rfl rfl hs57 ?_
      refine ol_call rfl rfl cb16 rfl (fun w1 hb1 hs1 hB1 => Calls.mono (law3_told _) ?_)
      rintro e w2 ⟨rfl, hb2⟩
      refine After.below rfl hb1 hs1 hB1 hb2 ?_
      clear hb2 hB1 hs1 hb1 w2 w1
      refine ol_r (r_pickT rfl hs57 rfl) rfl ?_
      refine ol_r (r_assign rfl) rfl ?_
      refine ol_nil (to_k0 (fun _ _ h => h) (hK6 _ _ _ _ _ ?_))
      clear hK6
      refine hQ.ret (rvs1 (rv_t rfl)) (fun _ _ h => h) fun w hb hs hB hkd => ?_
      first
        | exact ⟨rfl, hb⟩
     ·have phs57 := hs57; try simp only [decide_eq_true_eq, decide_eq_false_iff_not, Bool.not_eq_true', Bool.not_eq_false', Bool.not_true, Bool.not_false] at phs57
      refine ol_s rfl rfl hs57 rfl ?_
      refine ol_r (r_pickF rfl hs57 rfl) rfl ?_
      refine ol_r (r_assign rfl) rfl ?_
      refine ol_nil (to_k0 (fun _ _ h => h) (hK6 _ _ _ _ _ ?_))
      clear hK6
      refine hQ.ret (rvs1 (rv_t rfl)) (fun _ _ h => h) fun w hb hs hB hkd => ?_
      first
        | (exfalso; exact phs57 trivial)
    ·have phs52 := hs52; try simp only [decide_eq_true_eq, decide_eq_false_iff_not, Bool.not_eq_true', Bool.not_eq_false', Bool.not_true, Bool.not_false] at phs52
     refine ol_s rfl rfl hs52 rfl ?_
     refine ol_s rfl rfl hs52 rfl ?_
     refine ol_s rfl rfl hs52 rfl ?_
     refine ol_r (r_pickF rfl hs52 rfl) rfl ?_
     refine ol_r (r_move rfl) rfl ?_
     refine ol_s rfl rfl rfl rfl ?_
     refine ol_r (r_pickF rfl rfl rfl) rfl ?_
     refine ol_r (r_assign rfl) rfl ?_
     refine ol_nil (to_k0 (fun _ _ h => h) (hK6 _ _ _ _ _ ?_))
     clear hK6
     refine hQ.ret (rvs1 (rv_t rfl)) (fun _ _ h => h) fun w hb hs hB hkd => ?_
     first
       | (exfalso; cases phs52; done)
   ·have phs47 := hs47; try simp only [decide_eq_true_eq, decide_eq_false_iff_not, Bool.not_eq_true', Bool.not_eq_false', Bool.not_true, Bool.not_false] at phs47
    refine ol_s rfl rfl hs47 rfl ?_
    refine ol_s rfl rfl hs47 rfl ?_
    refine ol_s rfl rfl hs47 rfl ?_
    refine ol_r (r_pickF rfl hs47 rfl) rfl ?_
    refine ol_r (r_move rfl) rfl ?_
    refine ol_s rfl rfl rfl rfl ?_
    refine ol_s rfl rfl rfl rfl ?_
    refine ol_s rfl rfl rfl rfl ?_
    refine ol_r (r_pickF rfl rfl rfl) rfl ?_
    refine ol_r (r_move rfl) rfl ?_
    refine ol_s rfl rfl rfl rfl ?_
    refine ol_r (r_pickF rfl rfl rfl) rfl ?_
    refine ol_r (r_assign rfl) rfl ?_
    refine ol_nil (to_k0 (fun _ _ h => h) (hK6 _ _ _ _ _ ?_))
    clear hK6
    refine hQ.ret (rvs1 (rv_t rfl)) (fun _ _ h => h) fun w hb hs hB hkd => ?_
    first
      | (exfalso; exact phs47 trivial)
  ·have phs42 := hs42; try simp only [decide_eq_true_eq, decide_eq_false_iff_not, Bool.not_eq_true', Bool.not_eq_false', Bool.not_true, Bool.not_false] at phs42
   refine ol_s rfl rfl hs42 rfl ?_
   refine ol_s rfl rfl hs42 rfl ?_
   refine ol_s rfl rfl hs42 rfl ?_
   refine ol_r (r_pickF rfl hs42 rfl) rfl ?_
   refine ol_r (r_move rfl) rfl ?_
   refine ol_s rfl rfl rfl rfl ?_
   refine ol_s rfl rfl rfl rfl ?_
   refine ol_s rfl rfl rfl rfl ?_
   refine ol_r (r_pickF rfl rfl rfl) rfl ?_
   refine ol_r (r_move rfl) rfl ?_
   refine ol_s rfl rfl rfl rfl ?_
   refine ol_s rfl rfl rfl rfl ?_
   refine ol_s rfl rfl rfl rfl ?_
   refine ol_r (r_pickF rfl rfl rfl) rfl ?_
   refine ol_r (r_move rfl) rfl ?_
   refine ol_s rfl rfl rfl rfl ?_
   refine ol_r (r_pickF rfl rfl rfl) rfl ?_
   refine ol_r (r_assign rfl) rfl ?_
   refine ol_nil (to_k0 (fun _ _ h => h) (hK6 _ _ _ _ _ ?_))
   clear hK6
   refine hQ.ret (rvs1 (rv_t rfl)) (fun _ _ h => h) fun w hb hs hB hkd => ?_
   first
     | (exfalso; simp [eqs, eqV] at phs42; done)
end Go.Proofs.Ytogcclagmobkiaa
