/-
  EffortStreamsMatchSpec: the walk of the law.
-/
import Derived.Test.YtafkojlccknicaaEffRef
namespace Go.Proofs.Ytafkojlccknicaa
open Go Go.RowKit Hx
set_option linter.unusedVariables false
set_option linter.unusedSimpArgs false
set_option maxRecDepth 8000
theorem law_streams (A : ActV) (kind : Int) (w : World) (hA : A.Ok w.heap.size w) :
    Calls Try.prog 7 #[.agg #[.string A.name, .int .i64 A.sport, .int .i64 A.start, .slice A.sa A.sn A.sc, .slice A.la A.ln A.lc, .slice A.ta A.tn A.tc], .int .i64 kind] w fun e w' => e = .returned (.bool true) ∧ Below w.heap.size w w' := by
  refine enterQ (N := 41) (C := fun _ => True) (H := []) (B := w.heap.size) (args := [_, _]) Try.func7 rfl rfl rfl (Nat.le_refl _) (Sat.nil _ _) fun Q hQ => ?_
  refine wp_seq' fun K1 hK1 => ?_
  refine wp_reg ?_
  refine ol_box 2 rfl rfl rfl fun b2 => ?_
  refine ol_r (r_assign rfl) rfl ?_
  refine ol_nil (to_k0 (fun _ _ h => h) (hK1 _ _ _ _ _ ?_))
  clear hK1
  refine wp_seq' fun K2 hK2 => ?_
  refine wp_reg ?_
  refine ol_r (r_lda (id := 2) (n := 6) rfl rfl rfl ag51) rfl ?_
  refine ol_r (r_move rfl) rfl ?_
  refine ol_call rfl rfl cb36 rfl (fun w1 hb1 hs1 hB1 => Calls.mono (effort_Stream A kind _ (hA.at hb1 hB1)) ?_)
  rintro e w2 ⟨a12, n12, c12, rfl, hf12⟩
  refine After.fresh (id := 12) rfl hb1 hs1 hB1 hf12 ?_
  have hl12 := hf12.len; clear hf12 hB1 hs1 hb1 w2 w1
  refine ol_r (r_move rfl) rfl ?_
  refine ol_r (r_extract rfl rfl) rfl ?_
  refine ol_r (r_extract rfl rfl) rfl ?_
  refine ol_r (r_assign rfl) rfl ?_
  refine ol_r (r_assign rfl) rfl ?_
  refine ol_nil (to_k0 (fun _ _ h => h) (hK2 _ _ _ _ _ ?_))
  clear hK2
  refine wp_seq' fun K3 hK3 => ?_
  refine wp_reg ?_
  refine ol_r (r_lda (id := 2) (n := 6) rfl rfl rfl ag51) rfl ?_
  refine ol_r (r_move rfl) rfl ?_
  refine ol_call rfl rfl cb37 rfl (fun w1 hb1 hs1 hB1 => Calls.mono (ref4_Stream A kind _ (hA.at hb1 hB1)) ?_)
  rintro e w2 ⟨a18, n18, c18, rfl, hf18⟩
  refine After.fresh (id := 18) rfl hb1 hs1 hB1 hf18 ?_
  have hl18 := hf18.len; clear hf18 hB1 hs1 hb1 w2 w1
  refine ol_r (r_move rfl) rfl ?_
  refine ol_r (r_extract rfl rfl) rfl ?_
  refine ol_r (r_extract rfl rfl) rfl ?_
  refine ol_r (r_assign rfl) rfl ?_
  refine ol_r (r_assign rfl) rfl ?_
  refine ol_nil (to_k0 (fun _ _ h => h) (hK3 _ _ _ _ _ ?_))
  clear hK3
  refine wp_seq' fun K4 hK4 => ?_
  refine wp_reg ?_
  refine ol_r (r_move rfl) rfl ?_
  refine ol_r (r_move rfl) rfl ?_
  refine ol_call rfl rfl cb26 rfl (fun w1 hb1 hs1 hB1 => Calls.mono (equal_int _ _ _ _ _ _ (streamsR A.d kind).1 (streamsR A.d kind).1 _ (Sat.rd hs1 (id := 12) rfl rfl) (Sat.rd hs1 (id := 18) rfl rfl)) ?_)
  rintro e w2 ⟨rfl, hb2⟩
  refine After.below rfl hb1 hs1 hB1 hb2 ?_
  clear hb2 hB1 hs1 hb1 w2 w1
  refine ol_r (r_move rfl) rfl ?_
  refine ol_split (d := 24) rfl (fun hs24 => ?_) (fun hs24 => ?_)
  · have phs24 := hs24; try simp only [decide_eq_true_eq, decide_eq_false_iff_not, Bool.not_eq_true', Bool.not_eq_false', Bool.not_true, Bool.not_false] at phs24
    refine ol_g rfl rfl hs24 ?_
    refine ol_r (r_move rfl) rfl ?_
    refine ol_g rfl rfl hs24 ?_
    refine ol_r (r_move rfl) rfl ?_
    refine ol_g rfl rfl hs24 ?_
    refine ol_r (r_eql rfl rfl) rfl ?_
    refine ol_r (r_pickT rfl hs24 rfl) rfl ?_
    refine ol_r (r_move rfl) rfl ?_
    refine ol_split (d := 29) rfl (fun hs29 => ?_) (fun hs29 => ?_)
    · have phs29 := hs29; try simp only [decide_eq_true_eq, decide_eq_false_iff_not, Bool.not_eq_true', Bool.not_eq_false', Bool.not_true, Bool.not_false] at phs29
      refine ol_g rfl rfl hs29 ?_
      refine ol_r (r_move rfl) rfl ?_
      refine ol_g rfl rfl hs29 ?_
      refine ol_r (r_neq rfl rfl) rfl ?_
      refine ol_g rfl rfl hs29 ?_
      refine ol_r (r_move rfl) rfl ?_
      refine ol_split (d := 32) rfl (fun hs32 => ?_) (fun hs32 => ?_)
      · have phs32 := hs32; try simp only [decide_eq_true_eq, decide_eq_false_iff_not, Bool.not_eq_true', Bool.not_eq_false', Bool.not_true, Bool.not_false] at phs32
        refine ol_s rfl rfl hs32 rfl ?_
        refine ol_s rfl rfl hs32 rfl ?_
        refine ol_s rfl rfl hs32 rfl ?_
        refine ol_g rfl rfl hs29 ?_
        refine ol_r (r_pickT rfl hs32 rfl) rfl ?_
        refine ol_r (r_pickT rfl hs29 rfl) rfl ?_
        refine ol_r (r_move rfl) rfl ?_
        refine ol_g rfl rfl rfl ?_
        refine ol_call rfl rfl cb16 rfl (fun w1 hb1 hs1 hB1 => Calls.mono (effort_told _) ?_)
        rintro e w2 ⟨rfl, hb2⟩
        refine After.below rfl hb1 hs1 hB1 hb2 ?_
        clear hb2 hB1 hs1 hb1 w2 w1
        refine ol_r (r_pickT rfl rfl rfl) rfl ?_
        refine ol_r (r_assign rfl) rfl ?_
        refine ol_nil (to_k0 (fun _ _ h => h) (hK4 _ _ _ _ _ ?_))
        clear hK4
        refine hQ.ret (rvs1 (rv_t rfl)) (fun _ _ h => h) fun w hb hs hB hkd => ?_
        first
          | exact ⟨rfl, hb⟩
          | (exfalso; simp at phs24; done)
          | (exfalso; simp at phs29; done)
          | (exfalso
             have h1 : (streamsR A.d kind).2 = 0 := by simpa using hs32
             rw [streamsR_ok A.d kind h1] at hs38
             simp at hs38
             done)
          | (exfalso; simp at hs38; done)
      · have phs32 := hs32; try simp only [decide_eq_true_eq, decide_eq_false_iff_not, Bool.not_eq_true', Bool.not_eq_false', Bool.not_true, Bool.not_false] at phs32
        refine ol_g rfl rfl hs32 ?_
        refine ol_r (r_move rfl) rfl ?_
        refine ol_g rfl rfl hs32 ?_
        refine ol_call rfl rfl cb20 rfl (fun w1 hb1 hs1 hB1 => Calls.mono (effort_CheckStream _ _ _ (streamsR A.d kind).1 _ (Sat.rd hs1 (E := encI) (id := 12) rfl rfl)) ?_)
        rintro e w2 ⟨rfl, hb2⟩
        refine After.below rfl hb1 hs1 hB1 hb2 ?_
        clear hb2 hB1 hs1 hb1 w2 w1
        refine ol_g rfl rfl hs32 ?_
        refine ol_r (r_eql rfl rfl) rfl ?_
        refine ol_g rfl rfl hs29 ?_
        refine ol_r (r_pickF rfl hs32 rfl) rfl ?_
        refine ol_r (r_pickT rfl hs29 rfl) rfl ?_
        refine ol_r (r_move rfl) rfl ?_
        refine ol_split (d := 38) rfl (fun hs38 => ?_) (fun hs38 => ?_)
        · have phs38 := hs38; try simp only [decide_eq_true_eq, decide_eq_false_iff_not, Bool.not_eq_true', Bool.not_eq_false', Bool.not_true, Bool.not_false] at phs38
          refine ol_g rfl rfl hs38 ?_
          refine ol_call rfl rfl cb16 rfl (fun w1 hb1 hs1 hB1 => Calls.mono (effort_told _) ?_)
          rintro e w2 ⟨rfl, hb2⟩
          refine After.below rfl hb1 hs1 hB1 hb2 ?_
          clear hb2 hB1 hs1 hb1 w2 w1
          refine ol_r (r_pickT rfl hs38 rfl) rfl ?_
          refine ol_r (r_assign rfl) rfl ?_
          refine ol_nil (to_k0 (fun _ _ h => h) (hK4 _ _ _ _ _ ?_))
          clear hK4
          refine hQ.ret (rvs1 (rv_t rfl)) (fun _ _ h => h) fun w hb hs hB hkd => ?_
          first
            | exact ⟨rfl, hb⟩
            | (exfalso; simp at phs24; done)
            | (exfalso; simp at phs29; done)
            | (exfalso
               have h1 : (streamsR A.d kind).2 = 0 := by simpa using hs32
               rw [streamsR_ok A.d kind h1] at hs38
               simp at hs38
               done)
            | (exfalso; simp at hs38; done)
        · have phs38 := hs38; try simp only [decide_eq_true_eq, decide_eq_false_iff_not, Bool.not_eq_true', Bool.not_eq_false', Bool.not_true, Bool.not_false] at phs38
          refine ol_s rfl rfl hs38 rfl ?_
          refine ol_r (r_pickF rfl hs38 rfl) rfl ?_
          refine ol_r (r_assign rfl) rfl ?_
          refine ol_nil (to_k0 (fun _ _ h => h) (hK4 _ _ _ _ _ ?_))
          clear hK4
          refine hQ.ret (rvs1 (rv_t rfl)) (fun _ _ h => h) fun w hb hs hB hkd => ?_
          first
            | exact ⟨rfl, hb⟩
            | (exfalso; simp at phs24; done)
            | (exfalso; simp at phs29; done)
            | (exfalso
               have h1 : (streamsR A.d kind).2 = 0 := by simpa using hs32
               rw [streamsR_ok A.d kind h1] at hs38
               simp at hs38
               done)
            | (exfalso; simp at hs38; done)
    · have phs29 := hs29; try simp only [decide_eq_true_eq, decide_eq_false_iff_not, Bool.not_eq_true', Bool.not_eq_false', Bool.not_true, Bool.not_false] at phs29
      refine ol_s rfl rfl hs29 rfl ?_
      refine ol_s rfl rfl hs29 rfl ?_
      refine ol_s rfl rfl hs29 rfl ?_
      refine ol_u rfl rfl rfl ?_
      refine ol_u rfl rfl rfl ?_
      refine ol_u rfl rfl rfl ?_
      refine ol_s rfl rfl hs29 rfl ?_
      refine ol_r (r_pickF rfl hs29 rfl) rfl ?_
      refine ol_r (r_move rfl) rfl ?_
      refine ol_s rfl rfl rfl rfl ?_
      refine ol_r (r_pickF rfl rfl rfl) rfl ?_
      refine ol_r (r_assign rfl) rfl ?_
      refine ol_nil (to_k0 (fun _ _ h => h) (hK4 _ _ _ _ _ ?_))
      clear hK4
      refine hQ.ret (rvs1 (rv_t rfl)) (fun _ _ h => h) fun w hb hs hB hkd => ?_
      first
        | exact ⟨rfl, hb⟩
        | (exfalso; simp at phs24; done)
        | (exfalso; simp at phs29; done)
        | (exfalso
           have h1 : (streamsR A.d kind).2 = 0 := by simpa using hs32
           rw [streamsR_ok A.d kind h1] at hs38
           simp at hs38
           done)
        | (exfalso; simp at hs38; done)
  · have phs24 := hs24; try simp only [decide_eq_true_eq, decide_eq_false_iff_not, Bool.not_eq_true', Bool.not_eq_false', Bool.not_true, Bool.not_false] at phs24
    refine ol_s rfl rfl hs24 rfl ?_
    refine ol_s rfl rfl hs24 rfl ?_
    refine ol_s rfl rfl hs24 rfl ?_
    refine ol_r (r_pickF rfl hs24 rfl) rfl ?_
    refine ol_r (r_move rfl) rfl ?_
    refine ol_s rfl rfl rfl rfl ?_
    refine ol_s rfl rfl rfl rfl ?_
    refine ol_s rfl rfl rfl rfl ?_
    refine ol_u rfl rfl rfl ?_
    refine ol_u rfl rfl rfl ?_
    refine ol_u rfl rfl rfl ?_
    refine ol_s rfl rfl rfl rfl ?_
    refine ol_r (r_pickF rfl rfl rfl) rfl ?_
    refine ol_r (r_move rfl) rfl ?_
    refine ol_s rfl rfl rfl rfl ?_
    refine ol_r (r_pickF rfl rfl rfl) rfl ?_
    refine ol_r (r_assign rfl) rfl ?_
    refine ol_nil (to_k0 (fun _ _ h => h) (hK4 _ _ _ _ _ ?_))
    clear hK4
    refine hQ.ret (rvs1 (rv_t rfl)) (fun _ _ h => h) fun w hb hs hB hkd => ?_
    first
      | exact ⟨rfl, hb⟩
      | (exfalso; simp at phs24; done)
      | (exfalso; simp at phs29; done)
      | (exfalso
         have h1 : (streamsR A.d kind).2 = 0 := by simpa using hs32
         rw [streamsR_ok A.d kind h1] at hs38
         simp at hs38
         done)
      | (exfalso; simp at hs38; done)
end Go.Proofs.Ytafkojlccknicaa
