/-
  Cut: program and reference; TrackCutMatchesSpec.
-/
import Derived.Test.YtogcclagmobkiaaAt
namespace Go.Proofs.Ytogcclagmobkiaa
open Go Go.RowKit Hx
set_option linter.unusedVariables false
set_option linter.unusedSimpArgs false
set_option maxRecDepth 8000
theorem innL_in {f t : Int} {l : List SmpR} : ∀ x ∈ innL f t l, x ∈ l := fun x h => (List.mem_filter.1 h).1
theorem cut_bd {st : Int} {ss : List SmpR} (hok : SmpOk st ss) {f t : Int} (hf : 0 ≤ f) (hft : f < t) (ht : t ≤ spanL ss) (hn : 0 < ss.length) : (∀ x ∈ cutL ss f t, -1000000000 ≤ x.at_ ∧ x.at_ ≤ 1000000000) ∧ (cutL ss f t).length ≤ 1000000 := by
  have hsp := hok.span
  have h1 := (whereV_bd hok (t := f) hf (by omega) hn).1
  have h2 := (whereV_bd hok (t := t) (by omega) ht hn).1
  have h3 := innL_len f t ss
  have h4 := hok.len
  refine ⟨fun x hx => ?_, ?_⟩
  · unfold cutL at hx
    rcases List.mem_append.1 hx with h | h
    · rcases List.mem_cons.1 h with h | h
      · subst h; omega
      · have := hok.bd x (innL_in x h); omega
    · simp at h; subst h; omega
  · unfold cutL
    simp
    omega
theorem cut_row {ss : List SmpR} {f t : Int} {k : Nat} {x : SmpR} (h : ss[k]? = some x) (hx : f < x.at_ ∧ x.at_ < t) : encSmp.enc (whereV ss f :: innL f t (ss.take (k + 1))) = encSmp.enc (whereV ss f :: innL f t (ss.take k)) ++ encSmp.cells x := by
  rw [innL_yes h hx, ← List.cons_append, Enc.enc_append]
  simp [Enc.enc]
theorem cut_end {ss : List SmpR} {f t : Int} {k : Nat} (h : ss.length ≤ k) : encSmp.enc (whereV ss f :: innL f t (ss.take k)) ++ encSmp.cells (whereV ss t) = encSmp.enc (cutL ss f t) := by
  rw [List.take_of_length_le h, cutL, Enc.enc_append]
  simp [Enc.enc]
theorem cut_len {ss : List SmpR} {f t : Int} {k : Nat} (h : ss.length ≤ k) : (innL f t (ss.take k)).length + 1 + 1 = (cutL ss f t).length := by
  rw [List.take_of_length_le h, cutL]; simp
theorem track_Cut (A : ActV) (f t : Int) (w : World) (hA : A.Ok w.heap.size w) :
    Calls Try.prog 22 #[.agg #[.string A.name, .int .i64 A.sport, .int .i64 A.start, .slice A.sa A.sn A.sc, .slice A.la A.ln A.lc, .slice A.ta A.tn A.tc], .int .i64 f, .int .i64 t] w fun e w' => OutA w.heap.size w' (cutR A.d f t) e ∧ Below w.heap.size w w' := by
  have hsn := hA.s.len
  refine enterQ (N := 76) (C := fun _ => True) (H := []) (B := w.heap.size) (args := [_, _, _]) Try.func22 rfl rfl rfl (Nat.le_refl _) (Sat.nil _ _) fun Q hQ => ?_
  refine wp_seq' fun K1 hK1 => ?_
  refine wp_reg ?_
  refine ol_box 3 rfl rfl rfl fun b3 => ?_
  refine ol_alloc 6 z26 rfl fun b6 => ?_
  refine ol_r (r_assign rfl) rfl ?_
  refine ol_nil (to_k0 (fun _ _ h => h) (hK1 _ _ _ _ _ ?_))
  clear hK1
  refine wp_seq' fun K2 hK2 => ?_
  refine wp_seq' fun K3 hK3 => ?_
  refine wp_reg ?_
  refine ol_r (r_lda (id := 3) (n := 6) rfl rfl rfl ag26) rfl ?_
  refine ol_call rfl rfl cb40 rfl (fun w1 hb1 hs1 hB1 => Calls.mono (record_Check A _ (hA.at hb1 hB1)) ?_)
  rintro e w2 ⟨rfl, hb2⟩
  refine After.below rfl hb1 hs1 hB1 hb2 ?_
  clear hb2 hB1 hs1 hb1 w2 w1
  refine ol_r (r_assign rfl) rfl ?_
  refine ol_nil (to_k0 (fun _ _ h => h) (hK3 _ _ _ _ _ ?_))
  clear hK3
  refine wp_seq' fun K4 hK4 => ?_
  refine wp_reg ?_
  refine ol_r (r_move rfl) rfl ?_
  refine ol_r (r_neq rfl rfl) rfl ?_
  refine ol_nil (to_k0 (fun _ _ h => h) (hK4 _ _ _ _ _ ?_))
  clear hK4
  refine wp_condD rfl (fun hc15 => ?_) (fun hc15 => ?_)
  ·refine wp_seq' fun K5 hK5 => ?_
   refine wp_reg ?_
   refine ol_r (r_build rfl (fun _ => bd26 _)) rfl ?_
   refine ol_r (r_move rfl) rfl ?_
   refine ol_store (id := 6) rfl rfl rfl rfl sz26 rfl rfl (by first | decide | exact Nat.zero_lt_succ _ | simp) ?_
   refine ol_r (r_assign rfl) rfl ?_
   refine ol_nil (to_k0 (fun _ _ h => h) (hK5 _ _ _ _ _ ?_))
   clear hK5
   refine hQ.ret (rvs2 (rv_c (id := 6) (n := 6) rfl rfl ag26 rfl) (rv_t rfl)) (fun _ _ h => h) fun w hb hs hB hkd => ?_
   exact ⟨outA_no (cutR_e hc15), hb⟩
  ·refine wp_skip' (to_k0 (fun _ _ h => h) (hK2 _ _ _ _ _ ?_))
   clear hK2
   refine wp_seq' fun K6 hK6 => ?_
   refine wp_block' ?_
   refine wp_seq' fun K7 hK7 => ?_
   refine wp_reg ?_
   refine ol_r (r_fa (o' := 3) rfl fl26_3 rfl) rfl ?_
   refine ol_r (r_ld (id := 3) rfl rfl rfl sc22) rfl ?_
   refine ol_r (r_len rfl sl22) rfl ?_
   refine ol_r (r_eql rfl rfl) rfl ?_
   refine ol_r (r_assign rfl) rfl ?_
   refine ol_nil (to_k0 (fun _ _ h => h) (hK7 _ _ _ _ _ ?_))
   clear hK7
   refine wp_condD rfl (fun hc18 => ?_) (fun hc18 => ?_)
   ·refine wp_seq' fun K8 hK8 => ?_
    refine wp_reg ?_
    refine ol_r (r_build rfl (fun _ => bd26 _)) rfl ?_
    refine ol_store (id := 6) rfl rfl rfl rfl sz26 rfl rfl (by first | decide | exact Nat.zero_lt_succ _ | simp) ?_
    refine ol_r (r_assign rfl) rfl ?_
    refine ol_nil (to_k0 (fun _ _ h => h) (hK8 _ _ _ _ _ ?_))
    clear hK8
    refine hQ.ret (rvs2 (rv_c (id := 6) (n := 6) rfl rfl ag26 rfl) (rv_t rfl)) (fun _ _ h => h) fun w hb hs hB hkd => ?_
    exact ⟨outA_no (cutR_13 (Decidable.not_not.1 hc15) (by show A.ss.length = 0; omega)), hb⟩
   ·refine wp_seq' fun K9 hK9 => ?_
    refine wp_reg ?_
    refine ol_r (r_move rfl) rfl ?_
    refine ol_r (r_lss rfl rfl) rfl ?_
    refine ol_r (r_move rfl) rfl ?_
    refine ol_split (d := 27) rfl (fun hs27 => ?_) (fun hs27 => ?_)
    ·have phs27 := hs27; try simp only [decide_eq_true_eq, decide_eq_false_iff_not, Bool.not_eq_true', Bool.not_eq_false', Bool.not_true, Bool.not_false] at phs27
     refine ol_s rfl rfl hs27 rfl ?_
     refine ol_s rfl rfl hs27 rfl ?_
     refine ol_s rfl rfl hs27 rfl ?_
     refine ol_r (r_pickT rfl hs27 rfl) rfl ?_
     refine ol_r (r_move rfl) rfl ?_
     refine ol_s rfl rfl rfl rfl ?_
     refine ol_s rfl rfl rfl rfl ?_
     refine ol_s rfl rfl rfl rfl ?_
     refine ol_s rfl rfl rfl rfl ?_
     refine ol_r (r_pickT rfl rfl rfl) rfl ?_
     refine ol_r (r_assign rfl) rfl ?_
     refine ol_nil (to_k0 (fun _ _ h => h) (hK9 _ _ _ _ _ ?_))
     clear hK9
     refine wp_condT rfl ?_
     refine wp_seq' fun K10 hK10 => ?_
     refine wp_reg ?_
     refine ol_r (r_build rfl (fun _ => bd26 _)) rfl ?_
     refine ol_store (id := 6) rfl rfl rfl rfl sz26 rfl rfl (by first | decide | exact Nat.zero_lt_succ _ | simp) ?_
     refine ol_r (r_assign rfl) rfl ?_
     refine ol_nil (to_k0 (fun _ _ h => h) (hK10 _ _ _ _ _ ?_))
     clear hK10
     refine hQ.ret (rvs2 (rv_c (id := 6) (n := 6) rfl rfl ag26 rfl) (rv_t rfl)) (fun _ _ h => h) fun w hb hs hB hkd => ?_
     exact ⟨outA_no (cutR_9 (Decidable.not_not.1 hc15) (by show A.ss.length ≠ 0; omega) (.inl phs27)), hb⟩
    ·have phs27 := hs27; try simp only [decide_eq_true_eq, decide_eq_false_iff_not, Bool.not_eq_true', Bool.not_eq_false', Bool.not_true, Bool.not_false] at phs27
     refine ol_g rfl rfl hs27 ?_
     refine ol_r (r_move rfl) rfl ?_
     refine ol_g rfl rfl hs27 ?_
     refine ol_r (r_move rfl) rfl ?_
     refine ol_g rfl rfl hs27 ?_
     refine ol_r (r_geq rfl rfl) rfl ?_
     refine ol_r (r_pickF rfl hs27 rfl) rfl ?_
     refine ol_r (r_move rfl) rfl ?_
     refine ol_split (d := 32) rfl (fun hs32 => ?_) (fun hs32 => ?_)
     ·have phs32 := hs32; try simp only [decide_eq_true_eq, decide_eq_false_iff_not, Bool.not_eq_true', Bool.not_eq_false', Bool.not_true, Bool.not_false] at phs32
      refine ol_s rfl rfl hs32 rfl ?_
      refine ol_s rfl rfl hs32 rfl ?_
      refine ol_s rfl rfl hs32 rfl ?_
      refine ol_s rfl rfl hs32 rfl ?_
      refine ol_r (r_pickT rfl hs32 rfl) rfl ?_
      refine ol_r (r_assign rfl) rfl ?_
      refine ol_nil (to_k0 (fun _ _ h => h) (hK9 _ _ _ _ _ ?_))
      clear hK9
      refine wp_condT rfl ?_
      refine wp_seq' fun K11 hK11 => ?_
      refine wp_reg ?_
      refine ol_r (r_build rfl (fun _ => bd26 _)) rfl ?_
      refine ol_store (id := 6) rfl rfl rfl rfl sz26 rfl rfl (by first | decide | exact Nat.zero_lt_succ _ | simp) ?_
      refine ol_r (r_assign rfl) rfl ?_
      refine ol_nil (to_k0 (fun _ _ h => h) (hK11 _ _ _ _ _ ?_))
      clear hK11
      refine hQ.ret (rvs2 (rv_c (id := 6) (n := 6) rfl rfl ag26 rfl) (rv_t rfl)) (fun _ _ h => h) fun w hb hs hB hkd => ?_
      exact ⟨outA_no (cutR_9 (Decidable.not_not.1 hc15) (by show A.ss.length ≠ 0; omega) (.inr (.inl phs32))), hb⟩
     ·have phs32 := hs32; try simp only [decide_eq_true_eq, decide_eq_false_iff_not, Bool.not_eq_true', Bool.not_eq_false', Bool.not_true, Bool.not_false] at phs32
      refine ol_g rfl rfl hs32 ?_
      refine ol_r (r_move rfl) rfl ?_
      refine ol_g rfl rfl hs32 ?_
      refine ol_r (r_lda (id := 3) (n := 6) rfl rfl rfl ag26) rfl ?_
      refine ol_g rfl rfl hs32 ?_
      refine ol_call rfl rfl cb42 rfl (fun w1 hb1 hs1 hB1 => Calls.mono (record_Span A _ (hA.at hb1 hB1)) ?_)
      rintro e w2 ⟨rfl, hb2⟩
      refine After.below rfl hb1 hs1 hB1 hb2 ?_
      clear hb2 hB1 hs1 hb1 w2 w1
      refine ol_g rfl rfl hs32 ?_
      refine ol_r (r_gtr rfl rfl) rfl ?_
      refine ol_r (r_pickF rfl hs32 rfl) rfl ?_
      refine ol_r (r_assign rfl) rfl ?_
      refine ol_nil (to_k0 (fun _ _ h => h) (hK9 _ _ _ _ _ ?_))
      clear hK9
      refine wp_condD rfl (fun hc24 => ?_) (fun hc24 => ?_)
      ·refine wp_seq' fun K12 hK12 => ?_
       refine wp_reg ?_
       refine ol_r (r_build rfl (fun _ => bd26 _)) rfl ?_
       refine ol_store (id := 6) rfl rfl rfl rfl sz26 rfl rfl (by first | decide | exact Nat.zero_lt_succ _ | simp) ?_
       refine ol_r (r_assign rfl) rfl ?_
       refine ol_nil (to_k0 (fun _ _ h => h) (hK12 _ _ _ _ _ ?_))
       clear hK12
       refine hQ.ret (rvs2 (rv_c (id := 6) (n := 6) rfl rfl ag26 rfl) (rv_t rfl)) (fun _ _ h => h) fun w hb hs hB hkd => ?_
       exact ⟨outA_no (cutR_9 (Decidable.not_not.1 hc15) (by show A.ss.length ≠ 0; omega) (.inr (.inr hc24))), hb⟩
      ·refine wp_skip' (to_k0 (fun _ _ h => h) (hK6 _ _ _ _ _ ?_))
       clear hK6
       refine wp_seq' fun K13 hK13 => ?_
       refine wp_reg ?_
       have h0 : chkA A.d = 0 := Decidable.not_not.1 hc15
       have hg := goodA h0
       have hok : SmpOk A.start A.ss := hg.smp
       have hl20 := hok.len
       have hsp := hok.span
       have hcb := cut_bd hok (f := f) (t := t) (by omega) (by omega) (by omega) (by omega)
       refine ol_r (r_lda (id := 3) (n := 6) rfl rfl rfl ag26) rfl ?_
       refine ol_r (r_move rfl) rfl ?_
       refine ol_call rfl rfl cb43 rfl (fun w1 hb1 hs1 hB1 => Calls.mono (track_Where A f _ (hA.at hb1 hB1) hok (by omega) (by omega)) ?_)
       rintro e w2 ⟨rfl, hb2⟩
       refine After.below rfl hb1 hs1 hB1 hb2 ?_
       clear hb2 hB1 hs1 hb1 w2 w1
       refine ol_bs1 42 rfl rfl rw22 rfl rfl rfl fun a42 => ?_
       refine ol_r (r_assign rfl) rfl ?_
       refine ol_nil (to_k0 (fun _ _ h => h) (hK13 _ _ _ _ _ ?_))
       clear hK13
       refine wp_seq' fun K14 hK14 => ?_
       refine wp_seq' fun K15 hK15 => ?_
       refine wp_reg ?_
       refine ol_r (r_fa (o' := 3) rfl fl26_3 rfl) rfl ?_
       refine ol_r (r_ld (id := 3) rfl rfl rfl sc22) rfl ?_
       refine ol_r (r_len rfl sl22) rfl ?_
       refine ol_r (r_move rfl) rfl ?_
       refine ol_nil (to_k0 (fun _ _ h => h) (hK15 _ _ _ _ _ ?_))
       clear hK15
       refine wp_block' ?_
       apply wp_loopM (σ := Nat × Nat × Option Addr × Nat) (fun s => s.1 ≤ A.ss.length ∧ s.2.1 = (innL f t (A.ss.take s.1)).length + 1) (fun s => [(46, .int .i64 s.1), (9, .slice s.2.2.1 s.2.1 s.2.2.2)]) [(1, _), (2, _), (3, _), (6, _), (7, _), (44, _), (45, _)] (fun s => [(42, .row s.2.2.1 s.2.1 s.2.2.2 (encSmp.enc (whereV A.ss f :: innL f t (A.ss.take s.1))) 28 7)]) [(3, _), (6, _)] (fun s => A.ss.length - s.1) ((0, 1, _, 1))
       ·try dsimp only
        exact ⟨Nat.zero_le _, rfl⟩
       ·exact (sub_cons rfl (sub_cons rfl sub_nil))
       ·exact (sub_cons rfl (sub_cons rfl (sub_cons rfl (sub_cons rfl (sub_cons rfl (sub_cons rfl (sub_cons rfl sub_nil)))))))
       ·exact (subH_row rfl (by dsimp only; rfl) subH_nil)
       ·exact (subH_same rfl (subH_same rfl subH_nil))
       ·rintro ⟨k, cnt, oa, oc⟩ ⟨hk, hcnt⟩
        dsimp only at hk hcnt ⊢
        have hil := innL_len f t (A.ss.take k)
        rw [List.length_take] at hil
        intro K16 hK16
        refine wp_seq' fun K17 hK17 => ?_
        refine wp_reg ?_
        refine ol_r (r_lss rfl rfl) rfl ?_
        refine ol_nil (to_k0 (fun _ _ h => h) (hK17 _ _ _ _ _ ?_))
        clear hK17
        refine wp_seq' fun K18 hK18 => ?_
        refine wp_condD rfl (fun hc47 => ?_) (fun hc47 => ?_)
        ·refine wp_skip' (to_k0 (fun _ _ h => h) (hK18 _ _ _ _ _ ?_))
         clear hK18
         refine wp_seq' fun K19 hK19 => ?_
         refine wp_block' ?_
         refine wp_seq' fun K20 hK20 => ?_
         refine wp_reg ?_
         refine ol_ixr hA.s rfl rfl sl22 (by omega) rfl fun x48 hx48 => ?_
         try simp only [Int.toNat_natCast] at hx48
         refine ol_r (r_ldw rfl (fun w1 hb1 hs1 hB1 => Rd.loads hA.s ty28 hx48 hb1)) rfl ?_
         refine ol_alloc 11 z28 rfl fun b11 => ?_
         refine ol_store (id := 11) rfl rfl rfl rfl sz28 rfl rfl (by first | decide | exact Nat.zero_lt_succ _ | simp) ?_
         refine ol_nil (to_k0 (fun _ _ h => h) (hK20 _ _ _ _ _ ?_))
         clear hK20
         refine wp_seq' fun K21 hK21 => ?_
         refine wp_reg ?_
         refine ol_r (r_fa (o' := 0) rfl fl28_0 rfl) rfl ?_
         refine ol_r (r_ld (id := 11) rfl rfl rfl sc3) rfl ?_
         refine ol_r (r_move rfl) rfl ?_
         refine ol_r (r_gtr rfl rfl) rfl ?_
         refine ol_r (r_move rfl) rfl ?_
         refine ol_split (d := 54) rfl (fun hs54 => ?_) (fun hs54 => ?_)
         ·have phs54 := hs54; try simp only [decide_eq_true_eq, decide_eq_false_iff_not, Bool.not_eq_true', Bool.not_eq_false', Bool.not_true, Bool.not_false] at phs54
          refine ol_g rfl rfl hs54 ?_
          refine ol_r (r_fa (o' := 0) rfl fl28_0 rfl) rfl ?_
          refine ol_g rfl rfl hs54 ?_
          refine ol_r (r_ld (id := 11) rfl rfl rfl sc3) rfl ?_
          refine ol_g rfl rfl hs54 ?_
          refine ol_r (r_move rfl) rfl ?_
          refine ol_g rfl rfl hs54 ?_
          refine ol_r (r_lss rfl rfl) rfl ?_
          refine ol_r (r_pickT rfl hs54 rfl) rfl ?_
          refine ol_nil (to_k0 (fun _ _ h => h) (hK21 _ _ _ _ _ ?_))
          clear hK21
          refine wp_condD rfl (fun hc59 => ?_) (fun hc59 => ?_)
          ·refine wp_reg ?_
           refine ol_r (r_move rfl) rfl ?_
           refine ol_r (r_lda (id := 11) (n := 7) rfl rfl rfl ag28) rfl ?_
           refine ol_bs1 62 rfl rfl rw22 rfl rfl rfl fun a62 => ?_
           refine ol_append1 (id := 42) (id2 := 62) rfl rfl rfl rfl rfl rw22 (by omega) rfl fun a63 c63 => ?_
           refine ol_r (r_assign rfl) rfl ?_
           refine ol_nil (to_k0 (fun _ _ h => h) (hK19 _ _ _ _ _ ?_))
           clear hK19
           refine wp_reg ?_
           refine ol_r (r_add rfl rfl (by omega)) rfl ?_
           refine ol_r (r_move rfl) rfl ?_
           refine ol_nil (to_k0 (fun _ _ h => h) (hK16 ((k + 1, _, _, _)) _ _ ?_ ?_ (sub_cons rfl (sub_cons rfl sub_nil)) (sub_cons rfl (sub_cons rfl (sub_cons rfl (sub_cons rfl (sub_cons rfl (sub_cons rfl (sub_cons rfl sub_nil))))))) (by exact (subH_row rfl (by first | (dsimp only; first | exact cut_row hx48 ⟨by omega, by omega⟩ | (rw [innL_no hx48 (by omega)]); done) | (first | exact cut_row hx48 ⟨by omega, by omega⟩ | (rw [innL_no hx48 (by omega)]); done) | (dsimp only; done)) subH_nil)) (subH_same rfl (subH_same rfl subH_nil))))
           ·try dsimp only
            first
              | exact ⟨by omega, by rw [innL_yes hx48 ⟨by omega, by omega⟩]; simp [hcnt]⟩
           ·try dsimp only
            omega
          ·refine wp_skip' (to_k0 (fun _ _ h => h) (hK19 _ _ _ _ _ ?_))
           clear hK19
           refine wp_reg ?_
           refine ol_r (r_add rfl rfl (by omega)) rfl ?_
           refine ol_r (r_move rfl) rfl ?_
           refine ol_nil (to_k0 (fun _ _ h => h) (hK16 ((k + 1, _, _, _)) _ _ ?_ ?_ (sub_cons rfl (sub_cons rfl sub_nil)) (sub_cons rfl (sub_cons rfl (sub_cons rfl (sub_cons rfl (sub_cons rfl (sub_cons rfl (sub_cons rfl sub_nil))))))) (by exact (subH_row rfl (by dsimp only; first | exact cut_row hx48 ⟨by omega, by omega⟩ | (rw [innL_no hx48 (by omega)])) subH_nil)) (subH_same rfl (subH_same rfl subH_nil))))
           ·try dsimp only
            first
              | exact ⟨by omega, by rw [innL_no hx48 (by omega)]; exact hcnt⟩
           ·try dsimp only
            omega
         ·have phs54 := hs54; try simp only [decide_eq_true_eq, decide_eq_false_iff_not, Bool.not_eq_true', Bool.not_eq_false', Bool.not_true, Bool.not_false] at phs54
          refine ol_s rfl rfl hs54 rfl ?_
          refine ol_s rfl rfl hs54 rfl ?_
          refine ol_s rfl rfl hs54 rfl ?_
          refine ol_s rfl rfl hs54 rfl ?_
          refine ol_r (r_pickF rfl hs54 rfl) rfl ?_
          refine ol_nil (to_k0 (fun _ _ h => h) (hK21 _ _ _ _ _ ?_))
          clear hK21
          refine wp_condF rfl ?_
          refine wp_skip' (to_k0 (fun _ _ h => h) (hK19 _ _ _ _ _ ?_))
          clear hK19
          refine wp_reg ?_
          refine ol_r (r_add rfl rfl (by omega)) rfl ?_
          refine ol_r (r_move rfl) rfl ?_
          refine ol_nil (to_k0 (fun _ _ h => h) (hK16 ((k + 1, _, _, _)) _ _ ?_ ?_ (sub_cons rfl (sub_cons rfl sub_nil)) (sub_cons rfl (sub_cons rfl (sub_cons rfl (sub_cons rfl (sub_cons rfl (sub_cons rfl (sub_cons rfl sub_nil))))))) (by exact (subH_row rfl (by dsimp only; first | exact cut_row hx48 ⟨by omega, by omega⟩ | (rw [innL_no hx48 (by omega)])) subH_nil)) (subH_same rfl (subH_same rfl subH_nil))))
          ·try dsimp only
           first
             | exact ⟨by omega, by rw [innL_no hx48 (by omega)]; exact hcnt⟩
          ·try dsimp only
           omega
        ·refine wp_exit' (to_k0 (fun _ _ h => h) (hK14 _ _ _ _ _ ?_))
         clear hK14
         refine wp_seq' fun K22 hK22 => ?_
         refine wp_rega [(999, [(3, _)]), (11, [(6, _)]), (6, [(42, _)])] (by kernel_rfl) ⟨.inr (subH_same rfl subH_nil), ⟨.inr (subH_same rfl subH_nil), ⟨.inr (subH_same rfl subH_nil), trivial⟩⟩⟩ ?_
         refine aq_r 0 999 rfl (by kernel_rfl) (by kernel_rfl) (by kernel_rfl) (.head _) (by kernel_rfl) (by kernel_rfl) rfl (r_lda (id := 3) (n := 6) rfl rfl rfl ag26) ?_
         refine aq_r 1 999 rfl (by kernel_rfl) (by kernel_rfl) (by kernel_rfl) (.head _) (by kernel_rfl) (by kernel_rfl) rfl (r_move rfl) ?_
         refine aq_r 2 999 rfl (by kernel_rfl) (by kernel_rfl) (by kernel_rfl) (.head _) (by kernel_rfl) (by kernel_rfl) rfl (r_lda (id := 3) (n := 6) rfl rfl rfl ag26) ?_
         refine aq_r 3 999 rfl (by kernel_rfl) (by kernel_rfl) (by kernel_rfl) (.head _) (by kernel_rfl) (by kernel_rfl) rfl (r_move rfl) ?_
         refine aq_r 7 999 rfl (by kernel_rfl) (by kernel_rfl) (by kernel_rfl) (.head _) (by kernel_rfl) (by kernel_rfl) rfl (r_move rfl) ?_
         refine aq_one (i := 4) (by kernel_rfl) rfl fun K23 hK23 => ?_
         refine ol_call rfl rfl cb43 rfl (fun w1 hb1 hs1 hB1 => Calls.mono (track_Where A t _ (hA.at hb1 hB1) hok (by omega) (by omega)) ?_)
         rintro e w2 ⟨rfl, hb2⟩
         refine After.below rfl hb1 hs1 hB1 hb2 ?_
         clear hb2 hB1 hs1 hb1 w2 w1
         refine ol_nil (to_k0 (fun _ _ h => h) (hK23 _ _ ⟨.inr (by repeat' first | exact subH_nil | refine subH_same rfl ?_ | (refine subH_blk rfl (by repeat' first | exact sub_nil | refine sub_cons rfl ?_) ?_)), ⟨.inr (by repeat' first | exact subH_nil | refine subH_same rfl ?_ | (refine subH_blk rfl (by repeat' first | exact sub_nil | refine sub_cons rfl ?_) ?_)), ⟨.inr (by repeat' first | exact subH_nil | refine subH_same rfl ?_ | (refine subH_blk rfl (by repeat' first | exact sub_nil | refine sub_cons rfl ?_) ?_)), trivial⟩⟩⟩ ?_))
         clear hK23
         refine aq_one (i := 5) (by kernel_rfl) rfl fun K24 hK24 => ?_
         refine ol_bs1 70 rfl rfl rw22 rfl rfl rfl fun a70 => ?_
         refine ol_nil (to_k0 (fun _ _ h => h) (hK24 _ _ ⟨.inr (by repeat' first | exact subH_nil | refine subH_same rfl ?_ | (refine subH_blk rfl (by repeat' first | exact sub_nil | refine sub_cons rfl ?_) ?_)), ⟨.inr (by repeat' first | exact subH_nil | refine subH_same rfl ?_ | (refine subH_blk rfl (by repeat' first | exact sub_nil | refine sub_cons rfl ?_) ?_)), ⟨.inr (by repeat' first | exact subH_nil | refine subH_same rfl ?_ | (refine subH_blk rfl (by repeat' first | exact sub_nil | refine sub_cons rfl ?_) ?_)), trivial⟩⟩⟩ ?_))
         clear hK24
         refine aq_one (i := 6) (by kernel_rfl) rfl fun K25 hK25 => ?_
         refine ol_append1 (id := 42) (id2 := 70) rfl rfl rfl rfl rfl rw22 (by omega) rfl fun a71 c71 => ?_
         refine ol_nil (to_k0 (fun _ _ h => h) (hK25 _ _ ⟨.inr (by repeat' first | exact subH_nil | refine subH_same rfl ?_ | (refine subH_blk rfl (by repeat' first | exact sub_nil | refine sub_cons rfl ?_) ?_)), ⟨.inr (by repeat' first | exact subH_nil | refine subH_same rfl ?_ | (refine subH_blk rfl (by repeat' first | exact sub_nil | refine sub_cons rfl ?_) ?_)), ⟨.inl (by kernel_rfl), trivial⟩⟩⟩ ?_))
         clear hK25
         refine aq_one (i := 8) (by kernel_rfl) rfl fun K26 hK26 => ?_
         refine ol_call rfl rfl cb64 rfl (fun w1 hb1 hs1 hB1 => ?_)
         have hke : A.ss.length ≤ k := by omega
         have hcl := cut_len (f := f) (t := t) hke
         refine Calls.mono (track_part A _ _ _ (cutL A.ss f t) f _ (hA.at hb1 hB1) (Sat.rd hs1 (E := encSmp) (id := 42) (xs := cutL A.ss f t) (by rw [← cut_end hke]; rfl) rfl) hg (by omega) hcb.1 (by omega)) ?_
         rintro e w2 ⟨⟨sa, sn, sc, la, ln, lc, ta, tn, tc, rfl, hs2⟩, hb2⟩
         refine After.more rfl hb1 hs1 hB1 hb2 hs2 ?_
         clear hs2 hb2 hB1 hs1 hb1 w2 w1
         refine ol_nil (to_k0 (fun _ _ h => h) (hK26 _ _ ⟨.inr (by repeat' first | exact subH_nil | refine subH_same rfl ?_ | (refine subH_blk rfl (by repeat' first | exact sub_nil | refine sub_cons rfl ?_) ?_)), ⟨.inr (by repeat' first | exact subH_nil | refine subH_same rfl ?_ | (refine subH_blk rfl (by repeat' first | exact sub_nil | refine sub_cons rfl ?_) ?_)), ⟨.inl (by kernel_rfl), trivial⟩⟩⟩ ?_))
         clear hK26
         refine aq_r 9 999 rfl (by kernel_rfl) (by kernel_rfl) (by kernel_rfl) (.head _) (by kernel_rfl) (by kernel_rfl) rfl (r_extract rfl rfl) ?_
         refine aq_r 10 999 rfl (by kernel_rfl) (by kernel_rfl) (by kernel_rfl) (.head _) (by kernel_rfl) (by kernel_rfl) rfl (r_extract rfl rfl) ?_
         refine aq_one (i := 11) (by kernel_rfl) rfl fun K27 hK27 => ?_
         refine ol_store (id := 6) rfl rfl rfl rfl sz26 rfl rfl (by first | decide | exact Nat.zero_lt_succ _ | simp) ?_
         refine ol_nil (to_k0 (fun _ _ h => h) (hK27 _ _ ⟨.inr (by repeat' first | exact subH_nil | refine subH_same rfl ?_ | (refine subH_blk rfl (by repeat' first | exact sub_nil | refine sub_cons rfl ?_) ?_)), ⟨.inl (by kernel_rfl), ⟨.inl (by kernel_rfl), trivial⟩⟩⟩ ?_))
         clear hK27
         refine aq_r 12 999 rfl (by kernel_rfl) (by kernel_rfl) (by kernel_rfl) (.head _) (by kernel_rfl) (by kernel_rfl) rfl (r_assign rfl) ?_
         refine aq_done (by kernel_rfl) ?_
         refine (to_k0 (fun _ _ h => h) (hK22 _ _ _ _ _ ?_))
         clear hK22
         refine hQ.ret (rvs2 (rv_c (id := 6) (n := 6) rfl rfl ag26 rfl) (rv_t rfl)) (fun _ _ h => h) fun w hb hs hB hkd => ?_
         refine ⟨?_, hb⟩
         rw [cutR_0 h0 (by show A.ss.length ≠ 0; omega) (fun h => by rcases h with h | h | h <;> first | exact phs27 h | exact phs32 h | exact hc24 h)]
         exact ⟨sa, sn, sc, la, ln, lc, ta, tn, tc, rfl, hs.three 1001 1002 1003 1001 1002 1003 (by decide) (by decide) (by decide) rfl rfl rfl (Ent.le_refl _) (Ent.le_refl _) (Ent.le_refl _)⟩
theorem ref3_Cut (A : ActV) (f t : Int) (w : World) (hA : A.Ok w.heap.size w) :
    Calls Try.prog 23 #[.agg #[.string A.name, .int .i64 A.sport, .int .i64 A.start, .slice A.sa A.sn A.sc, .slice A.la A.ln A.lc, .slice A.ta A.tn A.tc], .int .i64 f, .int .i64 t] w fun e w' => OutA w.heap.size w' (cutR A.d f t) e ∧ Below w.heap.size w w' := by
  have hsn := hA.s.len
  refine enterQ (N := 75) (C := fun _ => True) (H := []) (B := w.heap.size) (args := [_, _, _]) Try.func23 rfl rfl rfl (Nat.le_refl _) (Sat.nil _ _) fun Q hQ => ?_
  refine wp_seq' fun K1 hK1 => ?_
  refine wp_reg ?_
  refine ol_box 3 rfl rfl rfl fun b3 => ?_
  refine ol_alloc 6 z26 rfl fun b6 => ?_
  refine ol_r (r_assign rfl) rfl ?_
  refine ol_nil (to_k0 (fun _ _ h => h) (hK1 _ _ _ _ _ ?_))
  clear hK1
  refine wp_seq' fun K2 hK2 => ?_
  refine wp_seq' fun K3 hK3 => ?_
  refine wp_reg ?_
  refine ol_r (r_lda (id := 3) (n := 6) rfl rfl rfl ag26) rfl ?_
  refine ol_call rfl rfl cb44 rfl (fun w1 hb1 hs1 hB1 => Calls.mono (ref2_Check A _ (hA.at hb1 hB1)) ?_)
  rintro e w2 ⟨rfl, hb2⟩
  refine After.below rfl hb1 hs1 hB1 hb2 ?_
  clear hb2 hB1 hs1 hb1 w2 w1
  refine ol_r (r_assign rfl) rfl ?_
  refine ol_nil (to_k0 (fun _ _ h => h) (hK3 _ _ _ _ _ ?_))
  clear hK3
  refine wp_seq' fun K4 hK4 => ?_
  refine wp_reg ?_
  refine ol_r (r_move rfl) rfl ?_
  refine ol_r (r_neq rfl rfl) rfl ?_
  refine ol_nil (to_k0 (fun _ _ h => h) (hK4 _ _ _ _ _ ?_))
  clear hK4
  refine wp_condD rfl (fun hc15 => ?_) (fun hc15 => ?_)
  ·refine wp_seq' fun K5 hK5 => ?_
   refine wp_reg ?_
   refine ol_r (r_build rfl (fun _ => bd26 _)) rfl ?_
   refine ol_r (r_move rfl) rfl ?_
   refine ol_store (id := 6) rfl rfl rfl rfl sz26 rfl rfl (by first | decide | exact Nat.zero_lt_succ _ | simp) ?_
   refine ol_r (r_assign rfl) rfl ?_
   refine ol_nil (to_k0 (fun _ _ h => h) (hK5 _ _ _ _ _ ?_))
   clear hK5
   refine hQ.ret (rvs2 (rv_c (id := 6) (n := 6) rfl rfl ag26 rfl) (rv_t rfl)) (fun _ _ h => h) fun w hb hs hB hkd => ?_
   exact ⟨outA_no (cutR_e hc15), hb⟩
  ·refine wp_skip' (to_k0 (fun _ _ h => h) (hK2 _ _ _ _ _ ?_))
   clear hK2
   refine wp_seq' fun K6 hK6 => ?_
   refine wp_seq' fun K7 hK7 => ?_
   refine wp_reg ?_
   refine ol_r (r_fa (o' := 3) rfl fl26_3 rfl) rfl ?_
   refine ol_r (r_ld (id := 3) rfl rfl rfl sc22) rfl ?_
   refine ol_r (r_len rfl sl22) rfl ?_
   refine ol_r (r_eql rfl rfl) rfl ?_
   refine ol_nil (to_k0 (fun _ _ h => h) (hK7 _ _ _ _ _ ?_))
   clear hK7
   refine wp_condD rfl (fun hc21 => ?_) (fun hc21 => ?_)
   ·refine wp_seq' fun K8 hK8 => ?_
    refine wp_reg ?_
    refine ol_r (r_build rfl (fun _ => bd26 _)) rfl ?_
    refine ol_store (id := 6) rfl rfl rfl rfl sz26 rfl rfl (by first | decide | exact Nat.zero_lt_succ _ | simp) ?_
    refine ol_r (r_assign rfl) rfl ?_
    refine ol_nil (to_k0 (fun _ _ h => h) (hK8 _ _ _ _ _ ?_))
    clear hK8
    refine hQ.ret (rvs2 (rv_c (id := 6) (n := 6) rfl rfl ag26 rfl) (rv_t rfl)) (fun _ _ h => h) fun w hb hs hB hkd => ?_
    exact ⟨outA_no (cutR_13 (Decidable.not_not.1 hc15) (by show A.ss.length = 0; omega)), hb⟩
   ·refine wp_skip' (to_k0 (fun _ _ h => h) (hK6 _ _ _ _ _ ?_))
    clear hK6
    refine wp_seq' fun K9 hK9 => ?_
    refine wp_seq' fun K10 hK10 => ?_
    refine wp_reg ?_
    refine ol_r (r_move rfl) rfl ?_
    refine ol_r (r_lss rfl rfl) rfl ?_
    refine ol_r (r_move rfl) rfl ?_
    refine ol_split (d := 25) rfl (fun hs25 => ?_) (fun hs25 => ?_)
    ·have phs25 := hs25; try simp only [decide_eq_true_eq, decide_eq_false_iff_not, Bool.not_eq_true', Bool.not_eq_false', Bool.not_true, Bool.not_false] at phs25
     refine ol_s rfl rfl hs25 rfl ?_
     refine ol_s rfl rfl hs25 rfl ?_
     refine ol_s rfl rfl hs25 rfl ?_
     refine ol_r (r_pickT rfl hs25 rfl) rfl ?_
     refine ol_r (r_move rfl) rfl ?_
     refine ol_s rfl rfl rfl rfl ?_
     refine ol_s rfl rfl rfl rfl ?_
     refine ol_s rfl rfl rfl rfl ?_
     refine ol_s rfl rfl rfl rfl ?_
     refine ol_r (r_pickT rfl rfl rfl) rfl ?_
     refine ol_nil (to_k0 (fun _ _ h => h) (hK10 _ _ _ _ _ ?_))
     clear hK10
     refine wp_condT rfl ?_
     refine wp_seq' fun K11 hK11 => ?_
     refine wp_reg ?_
     refine ol_r (r_build rfl (fun _ => bd26 _)) rfl ?_
     refine ol_store (id := 6) rfl rfl rfl rfl sz26 rfl rfl (by first | decide | exact Nat.zero_lt_succ _ | simp) ?_
     refine ol_r (r_assign rfl) rfl ?_
     refine ol_nil (to_k0 (fun _ _ h => h) (hK11 _ _ _ _ _ ?_))
     clear hK11
     refine hQ.ret (rvs2 (rv_c (id := 6) (n := 6) rfl rfl ag26 rfl) (rv_t rfl)) (fun _ _ h => h) fun w hb hs hB hkd => ?_
     exact ⟨outA_no (cutR_9 (Decidable.not_not.1 hc15) (by show A.ss.length ≠ 0; omega) (.inl phs25)), hb⟩
    ·have phs25 := hs25; try simp only [decide_eq_true_eq, decide_eq_false_iff_not, Bool.not_eq_true', Bool.not_eq_false', Bool.not_true, Bool.not_false] at phs25
     refine ol_g rfl rfl hs25 ?_
     refine ol_r (r_move rfl) rfl ?_
     refine ol_g rfl rfl hs25 ?_
     refine ol_r (r_move rfl) rfl ?_
     refine ol_g rfl rfl hs25 ?_
     refine ol_r (r_geq rfl rfl) rfl ?_
     refine ol_r (r_pickF rfl hs25 rfl) rfl ?_
     refine ol_r (r_move rfl) rfl ?_
     refine ol_split (d := 30) rfl (fun hs30 => ?_) (fun hs30 => ?_)
     ·have phs30 := hs30; try simp only [decide_eq_true_eq, decide_eq_false_iff_not, Bool.not_eq_true', Bool.not_eq_false', Bool.not_true, Bool.not_false] at phs30
      refine ol_s rfl rfl hs30 rfl ?_
      refine ol_s rfl rfl hs30 rfl ?_
      refine ol_s rfl rfl hs30 rfl ?_
      refine ol_s rfl rfl hs30 rfl ?_
      refine ol_r (r_pickT rfl hs30 rfl) rfl ?_
      refine ol_nil (to_k0 (fun _ _ h => h) (hK10 _ _ _ _ _ ?_))
      clear hK10
      refine wp_condT rfl ?_
      refine wp_seq' fun K12 hK12 => ?_
      refine wp_reg ?_
      refine ol_r (r_build rfl (fun _ => bd26 _)) rfl ?_
      refine ol_store (id := 6) rfl rfl rfl rfl sz26 rfl rfl (by first | decide | exact Nat.zero_lt_succ _ | simp) ?_
      refine ol_r (r_assign rfl) rfl ?_
      refine ol_nil (to_k0 (fun _ _ h => h) (hK12 _ _ _ _ _ ?_))
      clear hK12
      refine hQ.ret (rvs2 (rv_c (id := 6) (n := 6) rfl rfl ag26 rfl) (rv_t rfl)) (fun _ _ h => h) fun w hb hs hB hkd => ?_
      exact ⟨outA_no (cutR_9 (Decidable.not_not.1 hc15) (by show A.ss.length ≠ 0; omega) (.inr (.inl phs30))), hb⟩
     ·have phs30 := hs30; try simp only [decide_eq_true_eq, decide_eq_false_iff_not, Bool.not_eq_true', Bool.not_eq_false', Bool.not_true, Bool.not_false] at phs30
      refine ol_g rfl rfl hs30 ?_
      refine ol_r (r_move rfl) rfl ?_
      refine ol_g rfl rfl hs30 ?_
      refine ol_r (r_lda (id := 3) (n := 6) rfl rfl rfl ag26) rfl ?_
      refine ol_g rfl rfl hs30 ?_
      refine ol_call rfl rfl cb46 rfl (fun w1 hb1 hs1 hB1 => Calls.mono (ref2_SpanOf A _ (hA.at hb1 hB1)) ?_)
      rintro e w2 ⟨rfl, hb2⟩
      refine After.below rfl hb1 hs1 hB1 hb2 ?_
      clear hb2 hB1 hs1 hb1 w2 w1
      refine ol_g rfl rfl hs30 ?_
      refine ol_r (r_gtr rfl rfl) rfl ?_
      refine ol_r (r_pickF rfl hs30 rfl) rfl ?_
      refine ol_nil (to_k0 (fun _ _ h => h) (hK10 _ _ _ _ _ ?_))
      clear hK10
      refine wp_condD rfl (fun hc35 => ?_) (fun hc35 => ?_)
      ·refine wp_seq' fun K13 hK13 => ?_
       refine wp_reg ?_
       refine ol_r (r_build rfl (fun _ => bd26 _)) rfl ?_
       refine ol_store (id := 6) rfl rfl rfl rfl sz26 rfl rfl (by first | decide | exact Nat.zero_lt_succ _ | simp) ?_
       refine ol_r (r_assign rfl) rfl ?_
       refine ol_nil (to_k0 (fun _ _ h => h) (hK13 _ _ _ _ _ ?_))
       clear hK13
       refine hQ.ret (rvs2 (rv_c (id := 6) (n := 6) rfl rfl ag26 rfl) (rv_t rfl)) (fun _ _ h => h) fun w hb hs hB hkd => ?_
       exact ⟨outA_no (cutR_9 (Decidable.not_not.1 hc15) (by show A.ss.length ≠ 0; omega) (.inr (.inr hc35))), hb⟩
      ·refine wp_skip' (to_k0 (fun _ _ h => h) (hK9 _ _ _ _ _ ?_))
       clear hK9
       refine wp_seq' fun K14 hK14 => ?_
       refine wp_reg ?_
       have h0 : chkA A.d = 0 := Decidable.not_not.1 hc15
       have hg := goodA h0
       have hok : SmpOk A.start A.ss := hg.smp
       have hl20 := hok.len
       have hsp := hok.span
       have hcb := cut_bd hok (f := f) (t := t) (by omega) (by omega) (by omega) (by omega)
       refine ol_r (r_lda (id := 3) (n := 6) rfl rfl rfl ag26) rfl ?_
       refine ol_r (r_move rfl) rfl ?_
       refine ol_call rfl rfl cb47 rfl (fun w1 hb1 hs1 hB1 => Calls.mono (ref3_Where A f _ (hA.at hb1 hB1) hok (by omega) (by omega)) ?_)
       rintro e w2 ⟨rfl, hb2⟩
       refine After.below rfl hb1 hs1 hB1 hb2 ?_
       clear hb2 hB1 hs1 hb1 w2 w1
       refine ol_bs1 40 rfl rfl rw22 rfl rfl rfl fun a40 => ?_
       refine ol_r (r_assign rfl) rfl ?_
       refine ol_nil (to_k0 (fun _ _ h => h) (hK14 _ _ _ _ _ ?_))
       clear hK14
       refine wp_seq' fun K15 hK15 => ?_
       refine wp_seq' fun K16 hK16 => ?_
       refine wp_reg ?_
       refine ol_r (r_fa (o' := 3) rfl fl26_3 rfl) rfl ?_
       refine ol_r (r_ld (id := 3) rfl rfl rfl sc22) rfl ?_
       refine ol_r (r_len rfl sl22) rfl ?_
       refine ol_r (r_move rfl) rfl ?_
       refine ol_nil (to_k0 (fun _ _ h => h) (hK16 _ _ _ _ _ ?_))
       clear hK16
       refine wp_block' ?_
       apply wp_loopM (σ := Nat × Nat × Option Addr × Nat) (fun s => s.1 ≤ A.ss.length ∧ s.2.1 = (innL f t (A.ss.take s.1)).length + 1) (fun s => [(44, .int .i64 s.1), (9, .slice s.2.2.1 s.2.1 s.2.2.2)]) [(1, _), (2, _), (3, _), (6, _), (7, _), (42, _), (43, _)] (fun s => [(40, .row s.2.2.1 s.2.1 s.2.2.2 (encSmp.enc (whereV A.ss f :: innL f t (A.ss.take s.1))) 28 7)]) [(3, _), (6, _)] (fun s => A.ss.length - s.1) ((0, 1, _, 1))
       ·try dsimp only
        exact ⟨Nat.zero_le _, rfl⟩
       ·exact (sub_cons rfl (sub_cons rfl sub_nil))
       ·exact (sub_cons rfl (sub_cons rfl (sub_cons rfl (sub_cons rfl (sub_cons rfl (sub_cons rfl (sub_cons rfl sub_nil)))))))
       ·exact (subH_row rfl (by dsimp only; rfl) subH_nil)
       ·exact (subH_same rfl (subH_same rfl subH_nil))
       ·rintro ⟨k, cnt, oa, oc⟩ ⟨hk, hcnt⟩
        dsimp only at hk hcnt ⊢
        have hil := innL_len f t (A.ss.take k)
        rw [List.length_take] at hil
        intro K17 hK17
        refine wp_seq' fun K18 hK18 => ?_
        refine wp_reg ?_
        refine ol_r (r_lss rfl rfl) rfl ?_
        refine ol_nil (to_k0 (fun _ _ h => h) (hK18 _ _ _ _ _ ?_))
        clear hK18
        refine wp_seq' fun K19 hK19 => ?_
        refine wp_condD rfl (fun hc45 => ?_) (fun hc45 => ?_)
        ·refine wp_skip' (to_k0 (fun _ _ h => h) (hK19 _ _ _ _ _ ?_))
         clear hK19
         refine wp_seq' fun K20 hK20 => ?_
         refine wp_block' ?_
         refine wp_seq' fun K21 hK21 => ?_
         refine wp_reg ?_
         refine ol_ixr hA.s rfl rfl sl22 (by omega) rfl fun x46 hx46 => ?_
         try simp only [Int.toNat_natCast] at hx46
         refine ol_r (r_ldw rfl (fun w1 hb1 hs1 hB1 => Rd.loads hA.s ty28 hx46 hb1)) rfl ?_
         refine ol_alloc 11 z28 rfl fun b11 => ?_
         refine ol_store (id := 11) rfl rfl rfl rfl sz28 rfl rfl (by first | decide | exact Nat.zero_lt_succ _ | simp) ?_
         refine ol_nil (to_k0 (fun _ _ h => h) (hK21 _ _ _ _ _ ?_))
         clear hK21
         refine wp_seq' fun K22 hK22 => ?_
         refine wp_reg ?_
         refine ol_r (r_fa (o' := 0) rfl fl28_0 rfl) rfl ?_
         refine ol_r (r_ld (id := 11) rfl rfl rfl sc3) rfl ?_
         refine ol_r (r_move rfl) rfl ?_
         refine ol_r (r_gtr rfl rfl) rfl ?_
         refine ol_r (r_move rfl) rfl ?_
         refine ol_split (d := 52) rfl (fun hs52 => ?_) (fun hs52 => ?_)
         ·have phs52 := hs52; try simp only [decide_eq_true_eq, decide_eq_false_iff_not, Bool.not_eq_true', Bool.not_eq_false', Bool.not_true, Bool.not_false] at phs52
          refine ol_g rfl rfl hs52 ?_
          refine ol_r (r_fa (o' := 0) rfl fl28_0 rfl) rfl ?_
          refine ol_g rfl rfl hs52 ?_
          refine ol_r (r_ld (id := 11) rfl rfl rfl sc3) rfl ?_
          refine ol_g rfl rfl hs52 ?_
          refine ol_r (r_move rfl) rfl ?_
          refine ol_g rfl rfl hs52 ?_
          refine ol_r (r_lss rfl rfl) rfl ?_
          refine ol_r (r_pickT rfl hs52 rfl) rfl ?_
          refine ol_nil (to_k0 (fun _ _ h => h) (hK22 _ _ _ _ _ ?_))
          clear hK22
          refine wp_condD rfl (fun hc57 => ?_) (fun hc57 => ?_)
          ·refine wp_reg ?_
           refine ol_r (r_move rfl) rfl ?_
           refine ol_r (r_lda (id := 11) (n := 7) rfl rfl rfl ag28) rfl ?_
           refine ol_bs1 60 rfl rfl rw22 rfl rfl rfl fun a60 => ?_
           refine ol_append1 (id := 40) (id2 := 60) rfl rfl rfl rfl rfl rw22 (by omega) rfl fun a61 c61 => ?_
           refine ol_r (r_assign rfl) rfl ?_
           refine ol_nil (to_k0 (fun _ _ h => h) (hK20 _ _ _ _ _ ?_))
           clear hK20
           refine wp_reg ?_
           refine ol_r (r_add rfl rfl (by omega)) rfl ?_
           refine ol_r (r_move rfl) rfl ?_
           refine ol_nil (to_k0 (fun _ _ h => h) (hK17 ((k + 1, _, _, _)) _ _ ?_ ?_ (sub_cons rfl (sub_cons rfl sub_nil)) (sub_cons rfl (sub_cons rfl (sub_cons rfl (sub_cons rfl (sub_cons rfl (sub_cons rfl (sub_cons rfl sub_nil))))))) (by exact (subH_row rfl (by first | (dsimp only; first | exact cut_row hx46 ⟨by omega, by omega⟩ | (rw [innL_no hx46 (by omega)]); done) | (first | exact cut_row hx46 ⟨by omega, by omega⟩ | (rw [innL_no hx46 (by omega)]); done) | (dsimp only; done)) subH_nil)) (subH_same rfl (subH_same rfl subH_nil))))
           ·try dsimp only
            first
              | exact ⟨by omega, by rw [innL_yes hx46 ⟨by omega, by omega⟩]; simp [hcnt]⟩
           ·try dsimp only
            omega
          ·refine wp_skip' (to_k0 (fun _ _ h => h) (hK20 _ _ _ _ _ ?_))
           clear hK20
           refine wp_reg ?_
           refine ol_r (r_add rfl rfl (by omega)) rfl ?_
           refine ol_r (r_move rfl) rfl ?_
           refine ol_nil (to_k0 (fun _ _ h => h) (hK17 ((k + 1, _, _, _)) _ _ ?_ ?_ (sub_cons rfl (sub_cons rfl sub_nil)) (sub_cons rfl (sub_cons rfl (sub_cons rfl (sub_cons rfl (sub_cons rfl (sub_cons rfl (sub_cons rfl sub_nil))))))) (by exact (subH_row rfl (by dsimp only; first | exact cut_row hx46 ⟨by omega, by omega⟩ | (rw [innL_no hx46 (by omega)])) subH_nil)) (subH_same rfl (subH_same rfl subH_nil))))
           ·try dsimp only
            first
              | exact ⟨by omega, by rw [innL_no hx46 (by omega)]; exact hcnt⟩
           ·try dsimp only
            omega
         ·have phs52 := hs52; try simp only [decide_eq_true_eq, decide_eq_false_iff_not, Bool.not_eq_true', Bool.not_eq_false', Bool.not_true, Bool.not_false] at phs52
          refine ol_s rfl rfl hs52 rfl ?_
          refine ol_s rfl rfl hs52 rfl ?_
          refine ol_s rfl rfl hs52 rfl ?_
          refine ol_s rfl rfl hs52 rfl ?_
          refine ol_r (r_pickF rfl hs52 rfl) rfl ?_
          refine ol_nil (to_k0 (fun _ _ h => h) (hK22 _ _ _ _ _ ?_))
          clear hK22
          refine wp_condF rfl ?_
          refine wp_skip' (to_k0 (fun _ _ h => h) (hK20 _ _ _ _ _ ?_))
          clear hK20
          refine wp_reg ?_
          refine ol_r (r_add rfl rfl (by omega)) rfl ?_
          refine ol_r (r_move rfl) rfl ?_
          refine ol_nil (to_k0 (fun _ _ h => h) (hK17 ((k + 1, _, _, _)) _ _ ?_ ?_ (sub_cons rfl (sub_cons rfl sub_nil)) (sub_cons rfl (sub_cons rfl (sub_cons rfl (sub_cons rfl (sub_cons rfl (sub_cons rfl (sub_cons rfl sub_nil))))))) (by exact (subH_row rfl (by dsimp only; first | exact cut_row hx46 ⟨by omega, by omega⟩ | (rw [innL_no hx46 (by omega)])) subH_nil)) (subH_same rfl (subH_same rfl subH_nil))))
          ·try dsimp only
           first
             | exact ⟨by omega, by rw [innL_no hx46 (by omega)]; exact hcnt⟩
          ·try dsimp only
           omega
        ·refine wp_exit' (to_k0 (fun _ _ h => h) (hK15 _ _ _ _ _ ?_))
         clear hK15
         refine wp_seq' fun K23 hK23 => ?_
         refine wp_rega [(999, [(3, _)]), (12, [(6, _)]), (6, [(40, _)])] (by kernel_rfl) ⟨.inr (subH_same rfl subH_nil), ⟨.inr (subH_same rfl subH_nil), ⟨.inr (subH_same rfl subH_nil), trivial⟩⟩⟩ ?_
         refine aq_r 0 999 rfl (by kernel_rfl) (by kernel_rfl) (by kernel_rfl) (.head _) (by kernel_rfl) (by kernel_rfl) rfl (r_lda (id := 3) (n := 6) rfl rfl rfl ag26) ?_
         refine aq_r 1 999 rfl (by kernel_rfl) (by kernel_rfl) (by kernel_rfl) (.head _) (by kernel_rfl) (by kernel_rfl) rfl (r_move rfl) ?_
         refine aq_r 2 999 rfl (by kernel_rfl) (by kernel_rfl) (by kernel_rfl) (.head _) (by kernel_rfl) (by kernel_rfl) rfl (r_lda (id := 3) (n := 6) rfl rfl rfl ag26) ?_
         refine aq_r 3 999 rfl (by kernel_rfl) (by kernel_rfl) (by kernel_rfl) (.head _) (by kernel_rfl) (by kernel_rfl) rfl (r_move rfl) ?_
         refine aq_r 7 999 rfl (by kernel_rfl) (by kernel_rfl) (by kernel_rfl) (.head _) (by kernel_rfl) (by kernel_rfl) rfl (r_move rfl) ?_
         refine aq_one (i := 4) (by kernel_rfl) rfl fun K24 hK24 => ?_
         refine ol_call rfl rfl cb47 rfl (fun w1 hb1 hs1 hB1 => Calls.mono (ref3_Where A t _ (hA.at hb1 hB1) hok (by omega) (by omega)) ?_)
         rintro e w2 ⟨rfl, hb2⟩
         refine After.below rfl hb1 hs1 hB1 hb2 ?_
         clear hb2 hB1 hs1 hb1 w2 w1
         refine ol_nil (to_k0 (fun _ _ h => h) (hK24 _ _ ⟨.inr (by repeat' first | exact subH_nil | refine subH_same rfl ?_ | (refine subH_blk rfl (by repeat' first | exact sub_nil | refine sub_cons rfl ?_) ?_)), ⟨.inr (by repeat' first | exact subH_nil | refine subH_same rfl ?_ | (refine subH_blk rfl (by repeat' first | exact sub_nil | refine sub_cons rfl ?_) ?_)), ⟨.inr (by repeat' first | exact subH_nil | refine subH_same rfl ?_ | (refine subH_blk rfl (by repeat' first | exact sub_nil | refine sub_cons rfl ?_) ?_)), trivial⟩⟩⟩ ?_))
         clear hK24
         refine aq_one (i := 5) (by kernel_rfl) rfl fun K25 hK25 => ?_
         refine ol_bs1 68 rfl rfl rw22 rfl rfl rfl fun a68 => ?_
         refine ol_nil (to_k0 (fun _ _ h => h) (hK25 _ _ ⟨.inr (by repeat' first | exact subH_nil | refine subH_same rfl ?_ | (refine subH_blk rfl (by repeat' first | exact sub_nil | refine sub_cons rfl ?_) ?_)), ⟨.inr (by repeat' first | exact subH_nil | refine subH_same rfl ?_ | (refine subH_blk rfl (by repeat' first | exact sub_nil | refine sub_cons rfl ?_) ?_)), ⟨.inr (by repeat' first | exact subH_nil | refine subH_same rfl ?_ | (refine subH_blk rfl (by repeat' first | exact sub_nil | refine sub_cons rfl ?_) ?_)), trivial⟩⟩⟩ ?_))
         clear hK25
         refine aq_one (i := 6) (by kernel_rfl) rfl fun K26 hK26 => ?_
         refine ol_append1 (id := 40) (id2 := 68) rfl rfl rfl rfl rfl rw22 (by omega) rfl fun a69 c69 => ?_
         refine ol_nil (to_k0 (fun _ _ h => h) (hK26 _ _ ⟨.inr (by repeat' first | exact subH_nil | refine subH_same rfl ?_ | (refine subH_blk rfl (by repeat' first | exact sub_nil | refine sub_cons rfl ?_) ?_)), ⟨.inr (by repeat' first | exact subH_nil | refine subH_same rfl ?_ | (refine subH_blk rfl (by repeat' first | exact sub_nil | refine sub_cons rfl ?_) ?_)), ⟨.inl (by kernel_rfl), trivial⟩⟩⟩ ?_))
         clear hK26
         refine aq_one (i := 8) (by kernel_rfl) rfl fun K27 hK27 => ?_
         refine ol_call rfl rfl cb66 rfl (fun w1 hb1 hs1 hB1 => ?_)
         have hke : A.ss.length ≤ k := by omega
         have hcl := cut_len (f := f) (t := t) hke
         refine Calls.mono (ref3_moved A _ _ _ (cutL A.ss f t) f _ (hA.at hb1 hB1) (Sat.rd hs1 (E := encSmp) (id := 40) (xs := cutL A.ss f t) (by rw [← cut_end hke]; rfl) rfl) hg (by omega) hcb.1 (by omega)) ?_
         rintro e w2 ⟨sa, sn, sc, la, ln, lc, ta, tn, tc, rfl, hb2, hs2⟩
         refine After.more rfl hb1 hs1 hB1 hb2 hs2 ?_
         clear hs2 hb2 hB1 hs1 hb1 w2 w1
         refine ol_nil (to_k0 (fun _ _ h => h) (hK27 _ _ ⟨.inr (by repeat' first | exact subH_nil | refine subH_same rfl ?_ | (refine subH_blk rfl (by repeat' first | exact sub_nil | refine sub_cons rfl ?_) ?_)), ⟨.inr (by repeat' first | exact subH_nil | refine subH_same rfl ?_ | (refine subH_blk rfl (by repeat' first | exact sub_nil | refine sub_cons rfl ?_) ?_)), ⟨.inl (by kernel_rfl), trivial⟩⟩⟩ ?_))
         clear hK27
         refine aq_one (i := 9) (by kernel_rfl) rfl fun K28 hK28 => ?_
         refine ol_call rfl rfl cb65 rfl (fun w1 hb1 hs1 hB1 => ?_)
         refine Calls.mono (ref3_checked ⟨A.name, A.sport, A.start + f, sa, sn, sc, la, ln, lc, ta, tn, tc, backS f (cutL A.ss f t), backL f (spanL (backS f (cutL A.ss f t))) A.ls, A.ts⟩ _ ⟨Sat.rd hs1 (id := 1001) rfl rfl, Sat.rd hs1 (id := 1002) rfl rfl, Sat.rd hs1 (id := 1003) rfl rfl, hA.nm, back_lm hA.lm, hA.tm, back_lo hcb.1 (by omega)⟩) ?_
         rintro e w2 ⟨⟨nm, sp, st, za, zn, zc, ma, mn, mc, ua, un, uc, rfl, hC⟩, hb2⟩
         refine After.below rfl hb1 hs1 hB1 hb2 ?_
         clear hb2 hB1 hs1 hb1 w2 w1
         refine ol_nil (to_k0 (fun _ _ h => h) (hK28 _ _ ⟨.inr (by repeat' first | exact subH_nil | refine subH_same rfl ?_ | (refine subH_blk rfl (by repeat' first | exact sub_nil | refine sub_cons rfl ?_) ?_)), ⟨.inr (by repeat' first | exact subH_nil | refine subH_same rfl ?_ | (refine subH_blk rfl (by repeat' first | exact sub_nil | refine sub_cons rfl ?_) ?_)), ⟨.inl (by kernel_rfl), trivial⟩⟩⟩ ?_))
         clear hK28
         refine aq_r 10 999 rfl (by kernel_rfl) (by kernel_rfl) (by kernel_rfl) (.head _) (by kernel_rfl) (by kernel_rfl) rfl (r_extract rfl rfl) ?_
         refine aq_r 11 999 rfl (by kernel_rfl) (by kernel_rfl) (by kernel_rfl) (.head _) (by kernel_rfl) (by kernel_rfl) rfl (r_extract rfl rfl) ?_
         refine aq_one (i := 12) (by kernel_rfl) rfl fun K29 hK29 => ?_
         refine ol_store (id := 6) rfl rfl rfl rfl sz26 rfl rfl (by first | decide | exact Nat.zero_lt_succ _ | simp) ?_
         refine ol_nil (to_k0 (fun _ _ h => h) (hK29 _ _ ⟨.inr (by repeat' first | exact subH_nil | refine subH_same rfl ?_ | (refine subH_blk rfl (by repeat' first | exact sub_nil | refine sub_cons rfl ?_) ?_)), ⟨.inl (by kernel_rfl), ⟨.inl (by kernel_rfl), trivial⟩⟩⟩ ?_))
         clear hK29
         refine aq_r 13 999 rfl (by kernel_rfl) (by kernel_rfl) (by kernel_rfl) (.head _) (by kernel_rfl) (by kernel_rfl) rfl (r_assign rfl) ?_
         refine aq_done (by kernel_rfl) ?_
         refine (to_k0 (fun _ _ h => h) (hK23 _ _ _ _ _ ?_))
         clear hK23
         refine hQ.ret (rvs2 (rv_c (id := 6) (n := 6) rfl rfl ag26 rfl) (rv_t rfl)) (fun _ _ h => h) fun w hb hs hB hkd => ?_
         have h := cutR_0 h0 (a := A.d) (f := f) (t := t) (by show A.ss.length ≠ 0; omega) (fun h => by rcases h with h | h | h <;> first | exact phs25 h | exact phs30 h | exact hc35 h)
         change cutR A.d f t = partR A.d (cutL A.ss f t) f at h
         rcases hC with ⟨hne, rfl, rfl, rfl, ⟨rfl, rfl, rfl⟩, ⟨rfl, rfl, rfl⟩, ⟨rfl, rfl, rfl⟩⟩ | ⟨h00, rfl, rfl, rfl, ⟨rfl, rfl, rfl⟩, ⟨rfl, rfl, rfl⟩, ⟨rfl, rfl, rfl⟩⟩
         · have h2 := partR_e (a := A.d) (l := cutL A.ss f t) (b := f) hne
           exact ⟨outA_no (h.trans h2), hb⟩
         · have h2 := partR_0 (a := A.d) (l := cutL A.ss f t) (b := f) (fun h3 => h3 h00)
           refine ⟨?_, hb⟩
           rw [h, h2]
           exact ⟨za, zn, zc, ma, mn, mc, ua, un, uc, by rw [h00]; rfl, hs.three 1001 1002 1003 1001 1002 1003 (by decide) (by decide) (by decide) rfl rfl rfl (Ent.le_refl _) (Ent.le_refl _) (Ent.le_refl _)⟩
theorem law_cut (A : ActV) (f t : Int) (w : World) (hA : A.Ok w.heap.size w) :
    Calls Try.prog 5 #[.agg #[.string A.name, .int .i64 A.sport, .int .i64 A.start, .slice A.sa A.sn A.sc, .slice A.la A.ln A.lc, .slice A.ta A.tn A.tc], .int .i64 f, .int .i64 t] w fun e w' => e = .returned (.bool true) ∧ Below w.heap.size w w' := by
  refine enterQ (N := 36) (C := fun _ => True) (H := []) (B := w.heap.size) (args := [_, _, _]) Try.func5 rfl rfl rfl (Nat.le_refl _) (Sat.nil _ _) fun Q hQ => ?_
  refine wp_seq' fun K1 hK1 => ?_
  refine wp_reg ?_
  refine ol_box 3 rfl rfl rfl fun b3 => ?_
  refine ol_r (r_assign rfl) rfl ?_
  refine ol_nil (to_k0 (fun _ _ h => h) (hK1 _ _ _ _ _ ?_))
  clear hK1
  refine wp_seq' fun K2 hK2 => ?_
  refine wp_reg ?_
  refine ol_r (r_lda (id := 3) (n := 6) rfl rfl rfl ag26) rfl ?_
  refine ol_r (r_move rfl) rfl ?_
  refine ol_r (r_move rfl) rfl ?_
  refine ol_call rfl rfl cb22 rfl (fun w1 hb1 hs1 hB1 => ?_)
  refine Calls.mono (track_Cut A f t _ (hA.at hb1 hB1)) ?_
  rintro e w2 ⟨⟨sa1, sn1, sc1, la1, ln1, lc1, ta1, tn1, tc1, rfl, hs2⟩, hb2⟩
  refine After.more rfl hb1 hs1 hB1 hb2 (hs2.three 1001 1002 1003 1011 1012 1013 (by decide) (by decide) (by decide) rfl rfl rfl (Ent.le_refl _) (Ent.le_refl _) (Ent.le_refl _)) ?_
  clear hs2 hb2 hB1 hs1 hb1 w2 w1
  refine ol_r (r_move rfl) rfl ?_
  refine ol_r (r_extract rfl rfl) rfl ?_
  refine ol_r (r_extract rfl rfl) rfl ?_
  refine ol_alloc 7 z26 rfl fun b7 => ?_
  refine ol_store (id := 7) rfl rfl rfl rfl sz26 rfl rfl (by first | decide | exact Nat.zero_lt_succ _ | simp) ?_
  refine ol_r (r_assign rfl) rfl ?_
  refine ol_nil (to_k0 (fun _ _ h => h) (hK2 _ _ _ _ _ ?_))
  clear hK2
  refine wp_seq' fun K3 hK3 => ?_
  refine wp_reg ?_
  refine ol_r (r_lda (id := 3) (n := 6) rfl rfl rfl ag26) rfl ?_
  refine ol_r (r_move rfl) rfl ?_
  refine ol_r (r_move rfl) rfl ?_
  refine ol_call rfl rfl cb23 rfl (fun w1 hb1 hs1 hB1 => ?_)
  refine Calls.mono (ref3_Cut A f t _ (hA.at hb1 hB1)) ?_
  rintro e w2 ⟨⟨sa2, sn2, sc2, la2, ln2, lc2, ta2, tn2, tc2, rfl, hs2⟩, hb2⟩
  refine After.more rfl hb1 hs1 hB1 hb2 (hs2.three 1001 1002 1003 1021 1022 1023 (by decide) (by decide) (by decide) rfl rfl rfl (Ent.le_refl _) (Ent.le_refl _) (Ent.le_refl _)) ?_
  clear hs2 hb2 hB1 hs1 hb1 w2 w1
  refine ol_r (r_move rfl) rfl ?_
  refine ol_r (r_extract rfl rfl) rfl ?_
  refine ol_r (r_extract rfl rfl) rfl ?_
  refine ol_alloc 9 z26 rfl fun b9 => ?_
  refine ol_store (id := 9) rfl rfl rfl rfl sz26 rfl rfl (by first | decide | exact Nat.zero_lt_succ _ | simp) ?_
  refine ol_r (r_assign rfl) rfl ?_
  refine ol_nil (to_k0 (fun _ _ h => h) (hK3 _ _ _ _ _ ?_))
  clear hK3
  refine wp_seq' fun K4 hK4 => ?_
  refine wp_reg ?_
  refine ol_r (r_lda (id := 7) (n := 6) rfl rfl rfl ag26) rfl ?_
  refine ol_r (r_lda (id := 9) (n := 6) rfl rfl rfl ag26) rfl ?_
  refine ol_call rfl rfl cb15 rfl (fun w1 hb1 hs1 hB1 => Calls.mono (record_Same (cutR A.d f t).1 _ _ _ _ _ _ _ _ _ _ _ _ _ _ _ _ _ _ _ (Sat.rd hs1 (id := 1011) rfl rfl) (Sat.rd hs1 (id := 1012) rfl rfl) (Sat.rd hs1 (id := 1013) rfl rfl) (Sat.rd hs1 (id := 1021) rfl rfl) (Sat.rd hs1 (id := 1022) rfl rfl) (Sat.rd hs1 (id := 1023) rfl rfl)) ?_)
  rintro e w2 ⟨rfl, hb2⟩
  refine After.below rfl hb1 hs1 hB1 hb2 ?_
  clear hb2 hB1 hs1 hb1 w2 w1
  refine ol_r (r_move rfl) rfl ?_
  refine ol_split (d := 28) rfl (fun hs28 => ?_) (fun hs28 => ?_)
  ·have phs28 := hs28; try simp only [decide_eq_true_eq, decide_eq_false_iff_not, Bool.not_eq_true', Bool.not_eq_false', Bool.not_true, Bool.not_false] at phs28
   refine ol_g rfl rfl hs28 ?_
   refine ol_r (r_move rfl) rfl ?_
   refine ol_g rfl rfl hs28 ?_
   refine ol_r (r_move rfl) rfl ?_
   refine ol_g rfl rfl hs28 ?_
   refine ol_r (r_eql rfl rfl) rfl ?_
   refine ol_r (r_pickT rfl hs28 rfl) rfl ?_
   refine ol_r (r_move rfl) rfl ?_
   refine ol_split (d := 33) rfl (fun hs33 => ?_) (fun hs33 => ?_)
   ·have phs33 := hs33; try simp only [decide_eq_true_eq, decide_eq_false_iff_not, Bool.not_eq_true', Bool.not_eq_false', Bool.not_true, Bool.not_false] at phs33
    refine ol_g rfl rfl hs33 ?_
    refine ol_call rfl rfl cb16 rfl (fun w1 hb1 hs1 hB1 => Calls.mono (law3_told _) ?_)
    rintro e w2 ⟨rfl, hb2⟩
    refine After.below rfl hb1 hs1 hB1 hb2 ?_
    clear hb2 hB1 hs1 hb1 w2 w1
    refine ol_r (r_pickT rfl hs33 rfl) rfl ?_
    refine ol_r (r_assign rfl) rfl ?_
    refine ol_nil (to_k0 (fun _ _ h => h) (hK4 _ _ _ _ _ ?_))
    clear hK4
    refine hQ.ret (rvs1 (rv_t rfl)) (fun _ _ h => h) fun w hb hs hB hkd => ?_
    first
      | exact ⟨rfl, hb⟩
   ·have phs33 := hs33; try simp only [decide_eq_true_eq, decide_eq_false_iff_not, Bool.not_eq_true', Bool.not_eq_false', Bool.not_true, Bool.not_false] at phs33
    refine ol_s rfl rfl hs33 rfl ?_
    refine ol_r (r_pickF rfl hs33 rfl) rfl ?_
    refine ol_r (r_assign rfl) rfl ?_
    refine ol_nil (to_k0 (fun _ _ h => h) (hK4 _ _ _ _ _ ?_))
    clear hK4
    refine hQ.ret (rvs1 (rv_t rfl)) (fun _ _ h => h) fun w hb hs hB hkd => ?_
    first
      | (exfalso; exact phs33 trivial)
  ·have phs28 := hs28; try simp only [decide_eq_true_eq, decide_eq_false_iff_not, Bool.not_eq_true', Bool.not_eq_false', Bool.not_true, Bool.not_false] at phs28
   refine ol_s rfl rfl hs28 rfl ?_
   refine ol_s rfl rfl hs28 rfl ?_
   refine ol_s rfl rfl hs28 rfl ?_
   refine ol_r (r_pickF rfl hs28 rfl) rfl ?_
   refine ol_r (r_move rfl) rfl ?_
   refine ol_s rfl rfl rfl rfl ?_
   refine ol_r (r_pickF rfl rfl rfl) rfl ?_
   refine ol_r (r_assign rfl) rfl ?_
   refine ol_nil (to_k0 (fun _ _ h => h) (hK4 _ _ _ _ _ ?_))
   clear hK4
   refine hQ.ret (rvs1 (rv_t rfl)) (fun _ _ h => h) fun w hb hs hB hkd => ?_
   first
     | (exfalso; cases phs28; done)
end Go.Proofs.Ytogcclagmobkiaa
