/-
  Efforts of program and reference.
-/
import Derived.Test.YtbbhcffkleplnaaEftM
import Derived.Test.YtbbhcffkleplnaaCross3
import Derived.Test.YtbbhcffkleplnaaHr
namespace Go.Proofs.Ytbbhcffkleplnaa
open Go Go.RowKit Hx
set_option linter.unusedVariables false
set_option linter.unusedSimpArgs false
set_option maxRecDepth 8000
theorem eff_prog (nm : ByteArray) (ga : Option Addr) (gn gc : Nat) (gs : List GateR) (A : ActV) (w : World) (hS : Rd encGate w.heap.size w ga gn gc gs) (hA : A.Ok w.heap.size w) (hseg : SegOk nm gs) (hok : SmpOk A.start A.ss) :
    Calls Try.prog 51 #[.agg #[.string nm, .slice ga gn gc], .agg #[.string A.name, .int .i64 A.sport, .int .i64 A.start, .slice A.sa A.sn A.sc, .slice A.la A.ln A.lc, .slice A.ta A.tn A.tc]] w fun e w' => ∃ a c L, e = .returned (.slice a L.length c) ∧ Below w.heap.size w w' ∧ OwnE w.heap.size w' 49 3 5 10000000 a L.length c L ∧ L.map (·.2) = effL gs.length (crossS gs (stepsL A.ss) (stepsL A.ss).length) := by
  have hgn := hS.len
  have hgl := hseg.len
  have hlen := stepsL_len A.ss
  have hl20 := hok.len
  have hcl := crossS_len gs (stepsL A.ss) (stepsL A.ss).length
  have hcb : gs.length * (stepsL A.ss).length ≤ 50 * 20000 := Nat.mul_le_mul hgl.2 (by omega)
  obtain ⟨cs, hcs⟩ : ∃ cs, cs = crossS gs (stepsL A.ss) (stepsL A.ss).length := ⟨_, rfl⟩
  rw [← hcs] at hcl ⊢
  refine enterQ (N := 53) (C := fun _ => True) (H := []) (B := w.heap.size) (args := [_, _]) Try.func51 rfl rfl rfl (Nat.le_refl _) (Sat.nil _ _) fun Q hQ => ?_
  refine wp_seq' fun K1 hK1 => ?_
  refine wp_reg ?_
  refine ol_box 2 rfl rfl rfl fun b2 => ?_
  refine ol_box 3 rfl rfl rfl fun b3 => ?_
  refine ol_r (r_assign rfl) rfl ?_
  refine ol_nil (to_k0 (fun _ _ h => h) (hK1 _ _ _ _ _ ?_))
  clear hK1
  refine wp_seq' fun K2 hK2 => ?_
  refine wp_reg ?_
  first
    | (refine ol_rekeyT 6 (10000000 + m) rfl (by omega) ?_ ?_
       · repeat' refine (look_cons_ne _ _ (by omega)).trans ?_
         exact look_inn_none (.inr (by omega)))
    | skip
  refine ol_nilrow 5 49 1 ?_
  refine ol_r (r_assign rfl) rfl ?_
  refine ol_nil (to_k0 (fun _ _ h => h) (hK2 _ _ _ _ _ ?_))
  clear hK2
  refine wp_seq' fun K3 hK3 => ?_
  refine wp_reg ?_
  first
    | refine ol_rekey 23 6 rfl (by decide) (ol_r (r_assign rfl) rfl ?_)
    | refine ol_nilrow 6 3 1 (ol_r (r_assign (v := .slice none 0 0) rfl) rfl ?_)
    | refine ol_r (r_assign rfl) rfl ?_
  refine ol_nil (to_k0 (fun _ _ h => h) (hK3 _ _ _ _ _ ?_))
  clear hK3
  refine wp_seq' fun K4 hK4 => ?_
  refine wp_seq' fun K5 hK5 => ?_
  refine wp_reg ?_
  refine ol_r (r_lda (id := 2) (n := 2) rfl rfl rfl ag24) rfl ?_
  refine ol_r (r_lda (id := 3) (n := 6) rfl rfl rfl ag29) rfl ?_
  refine ol_call rfl rfl cb36 rfl (fun w1 hb1 hs1 hB1 => Calls.mono (hcs ▸ cross_gen nm _ _ _ gs A _ (hS.at hb1 hB1) (hA.at hb1 hB1) hseg hok) ?_)
  rintro e w2 ⟨a11, n11, c11, rfl, hf11⟩
  refine After.fresh (id := 11) rfl hb1 hs1 hB1 hf11 ?_
  have hl11 := hf11.len; clear hf11 hB1 hs1 hb1 w2 w1
  refine ol_r (r_len rfl sl30) rfl ?_
  first
    | (have hno : ¬(0 < (effN gs.length cs k).2.length ∧ ((effN gs.length cs k).2.length : Int) = x15.gate) := by rw [hnn]; omega
       skip)
    | (have hfull : ¬(effN gs.length cs k).2.length + 1 = gs.length := by rw [hnn]; omega
       skip)
    | skip
  refine ol_r (r_move rfl) rfl ?_
  refine ol_nil (to_k0 (fun _ _ h => h) (hK5 _ _ _ _ _ ?_))
  clear hK5
  refine wp_block' ?_
  apply wp_loopT (σ := Nat × Nat × List (Sl × List Int) × Option Addr × Nat × Option Addr × Nat × Nat) (fun s => s.1 ≤ cs.length ∧ s.2.2.1.map (·.2) = (effN gs.length cs s.1).1 ∧ (effN gs.length cs s.1).2.length = s.2.2.2.2.2.2.1 ∧ s.2.2.1.length = s.2.1) (fun s => [(13, .int .i64 s.1), (5, .slice s.2.2.2.1 s.2.1 s.2.2.2.2.1), (6, .slice s.2.2.2.2.2.1 s.2.2.2.2.2.2.1 s.2.2.2.2.2.2.2)]) [(2, _), (4, _), (11, _), (12, _)] (fun s => [(5, .row s.2.2.2.1 s.2.1 s.2.2.2.2.1 (encSl.enc (s.2.2.1.map (·.1))) 49 1), (6, .row s.2.2.2.2.2.1 s.2.2.2.2.2.2.1 s.2.2.2.2.2.2.2 (encI.enc (effN gs.length cs s.1).2) 3 1)]) [(2, _), (3, _), (11, _)] (fun s => innH 3 10000000 s.2.2.1) (fun s => cs.length - s.1) ((0, 0, [], none, 0, none, 0, 0))
  ·try dsimp only
   exact ⟨Nat.zero_le _, rfl, rfl, rfl⟩
  ·exact (sub_cons rfl (sub_cons rfl (sub_cons rfl sub_nil)))
  ·exact (sub_cons rfl (sub_cons rfl (sub_cons rfl (sub_cons rfl sub_nil))))
  ·exact (subH_row rfl (by dsimp only; rfl) (subH_row rfl (by dsimp only; rfl) subH_nil))
  ·exact (subH_same rfl (subH_same rfl (subH_same rfl subH_nil)))
  ·exact subH_nil
  ·rintro ⟨k, m, L, oa, oc, na, nn, nc⟩ ⟨hk, hL, hnn, hm⟩
   dsimp only at hk hL hnn hm ⊢
   have hLl : m ≤ k := by
     have h1 := effN_cnt gs.length cs k
     rw [← hL, List.length_map] at h1; omega
   have hlt := effN_lt hgl.1 cs k
   intro K6 hK6
   refine wp_seq' fun K7 hK7 => ?_
   refine wp_reg ?_
   refine ol_r (r_lss rfl rfl) rfl ?_
   refine ol_nil (to_k0 (fun _ _ h => h) (hK7 _ _ _ _ _ ?_))
   clear hK7
   refine wp_seq' fun K8 hK8 => ?_
   refine wp_condD rfl (fun hc14 => ?_) (fun hc14 => ?_)
   ·refine wp_skip' (to_k0 (fun _ _ h => h) (hK8 _ _ _ _ _ ?_))
    clear hK8
    refine wp_seq' fun K9 hK9 => ?_
    refine wp_block' ?_
    refine wp_seq' fun K10 hK10 => ?_
    refine wp_reg ?_
    refine ol_ixo (id := 11) encCr _ rfl rfl rfl rfl sl30 (by omega) rfl fun x15 hx15 => ?_
    try simp only [Int.toNat_natCast] at hx15
    try simp only [Int.toNat_natCast] at hx15
    refine ol_r (r_ldw rfl (fun w1 hb1 hs1 hB1 => ld_own (id := 11) hs1 rfl rfl ty36 hx15)) rfl ?_
    refine ol_alloc 8 z36 rfl fun b8 => ?_
    refine ol_store (id := 8) rfl rfl rfl rfl sz36 rfl rfl (by first | decide | exact Nat.zero_lt_succ _ | simp) ?_
    refine ol_nil (to_k0 (fun _ _ h => h) (hK10 _ _ _ _ _ ?_))
    clear hK10
    refine wp_block' ?_
    refine wp_seq' fun K11 hK11 => ?_
    refine wp_reg ?_
    refine ol_r (r_fa (o' := 0) rfl fl36_0 rfl) rfl ?_
    refine ol_r (r_ld (id := 8) rfl rfl rfl sc3) rfl ?_
    refine ol_r (r_eql rfl rfl) rfl ?_
    refine ol_r (r_assign rfl) rfl ?_
    refine ol_nil (to_k0 (fun _ _ h => h) (hK11 _ _ _ _ _ ?_))
    clear hK11
    refine wp_condD rfl (fun hc17 => ?_) (fun hc17 => ?_)
    ·refine wp_reg ?_
     refine ol_r (r_fa (o' := 2) rfl fl36_2 rfl) rfl ?_
     refine ol_r (r_ld (id := 8) rfl rfl rfl sc3) rfl ?_
     refine ol_bs1 23 rfl rfl rw47 rfl rfl rfl fun a23 => ?_
     first
       | refine ol_rekey 23 6 rfl (by decide) (ol_r (r_assign rfl) rfl ?_)
       | refine ol_nilrow 6 3 1 (ol_r (r_assign (v := .slice none 0 0) rfl) rfl ?_)
       | refine ol_r (r_assign rfl) rfl ?_
     refine ol_nil (to_k0 (fun _ _ h => h) (hK9 _ _ _ _ _ ?_))
     clear hK9
     refine wp_reg ?_
     refine ol_r (r_add rfl rfl (by omega)) rfl ?_
     first
       | (have hno : ¬(0 < (effN gs.length cs k).2.length ∧ ((effN gs.length cs k).2.length : Int) = x15.gate) := by rw [hnn]; omega
          skip)
       | (have hfull : ¬(effN gs.length cs k).2.length + 1 = gs.length := by rw [hnn]; omega
          skip)
       | skip
     refine ol_r (r_move rfl) rfl ?_
     refine ol_nil (to_k0 (fun _ _ h => h) (hK6 ((k + 1, m, L, _, _, _, _, _)) _ _ ?_ ?_ (sub_cons rfl (sub_cons rfl (sub_cons rfl sub_nil))) (sub_cons rfl (sub_cons rfl (sub_cons rfl (sub_cons rfl sub_nil)))) (by exact (subH_row rfl (by first | (dsimp only; first | rfl | (rw [effN_a hx15 hc17]; rfl) | (rw [effN_c hx15 hc17 hin hfull]; rfl) | (rw [effN_d hx15 hc17 hin hfull, encI_snoc]) | (rw [effN_b hx15 hc17 hno]) | (rw [encSl_snoc]); done) | (first | rfl | (rw [effN_a hx15 hc17]; rfl) | (rw [effN_c hx15 hc17 hin hfull]; rfl) | (rw [effN_d hx15 hc17 hin hfull, encI_snoc]) | (rw [effN_b hx15 hc17 hno]) | (rw [encSl_snoc]); done) | (dsimp only; done)) (subH_row rfl (by first | (dsimp only; first | rfl | (rw [effN_a hx15 hc17]; rfl) | (rw [effN_c hx15 hc17 hin hfull]; rfl) | (rw [effN_d hx15 hc17 hin hfull, encI_snoc]) | (rw [effN_b hx15 hc17 hno]) | (rw [encSl_snoc]); done) | (first | rfl | (rw [effN_a hx15 hc17]; rfl) | (rw [effN_c hx15 hc17 hin hfull]; rfl) | (rw [effN_d hx15 hc17 hin hfull, encI_snoc]) | (rw [effN_b hx15 hc17 hno]) | (rw [encSl_snoc]); done) | (dsimp only; done)) subH_nil))) (subH_same rfl (subH_same rfl (subH_same rfl subH_nil))) ?_))
     ·try dsimp only
      exact ⟨by omega, by rw [effN_a hx15 hc17]; exact hL, by rw [effN_a hx15 hc17]; rfl, hm⟩
     ·try dsimp only
      omega
     ·try dsimp only
      refine subH_inn fun j x hj => ?_
      repeat' refine (look_cons_ne _ _ (by omega)).trans ?_
      exact look_inn hj
    ·refine wp_seq' fun K12 hK12 => ?_
     refine wp_reg ?_
     refine ol_r (r_move rfl) rfl ?_
     refine ol_r (r_len rfl sl47) rfl ?_
     refine ol_r (r_gtr rfl rfl) rfl ?_
     refine ol_r (r_move rfl) rfl ?_
     refine ol_split (d := 28) rfl (fun hs28 => ?_) (fun hs28 => ?_)
     ·have phs28 := hs28; try simp only [decide_eq_true_eq, decide_eq_false_iff_not, Bool.not_eq_true', Bool.not_eq_false', Bool.not_true, Bool.not_false] at phs28
      refine ol_g rfl rfl hs28 ?_
      refine ol_r (r_move rfl) rfl ?_
      refine ol_g rfl rfl hs28 ?_
      refine ol_r (r_len rfl sl47) rfl ?_
      refine ol_g rfl rfl hs28 ?_
      refine ol_r (r_fa (o' := 0) rfl fl36_0 rfl) rfl ?_
      refine ol_g rfl rfl hs28 ?_
      refine ol_r (r_ld (id := 8) rfl rfl rfl sc3) rfl ?_
      refine ol_g rfl rfl hs28 ?_
      refine ol_r (r_eql rfl rfl) rfl ?_
      refine ol_r (r_pickT rfl hs28 rfl) rfl ?_
      refine ol_r (r_assign rfl) rfl ?_
      refine ol_nil (to_k0 (fun _ _ h => h) (hK12 _ _ _ _ _ ?_))
      clear hK12
      refine wp_condD rfl (fun hc24 => ?_) (fun hc24 => ?_)
      ·refine wp_seq' fun K13 hK13 => ?_
       refine wp_reg ?_
       refine ol_r (r_move rfl) rfl ?_
       refine ol_r (r_fa (o' := 2) rfl fl36_2 rfl) rfl ?_
       refine ol_r (r_ld (id := 8) rfl rfl rfl sc3) rfl ?_
       refine ol_bs1 38 rfl rfl rw47 rfl rfl rfl fun a38 => ?_
       have hin : 0 < (effN gs.length cs k).2.length ∧ ((effN gs.length cs k).2.length : Int) = x15.gate := by rw [hnn]; exact ⟨by omega, by omega⟩
       refine ol_append1 (id := 6) (id2 := 38) rfl rfl rfl rfl rfl rw47 (by omega) rfl fun a39 c39 => ?_
       first
         | refine ol_rekey 23 6 rfl (by decide) (ol_r (r_assign rfl) rfl ?_)
         | refine ol_nilrow 6 3 1 (ol_r (r_assign (v := .slice none 0 0) rfl) rfl ?_)
         | refine ol_r (r_assign rfl) rfl ?_
       refine ol_nil (to_k0 (fun _ _ h => h) (hK13 _ _ _ _ _ ?_))
       clear hK13
       refine wp_seq' fun K14 hK14 => ?_
       refine wp_reg ?_
       refine ol_r (r_move rfl) rfl ?_
       refine ol_r (r_len rfl sl47) rfl ?_
       refine ol_r (r_fa (o' := 1) rfl fl24_1 rfl) rfl ?_
       refine ol_r (r_ld (id := 2) rfl rfl rfl sc22) rfl ?_
       refine ol_r (r_len rfl sl22) rfl ?_
       refine ol_r (r_eql rfl rfl) rfl ?_
       refine ol_nil (to_k0 (fun _ _ h => h) (hK14 _ _ _ _ _ ?_))
       clear hK14
       refine wp_condD rfl (fun hc45 => ?_) (fun hc45 => ?_)
       ·refine wp_reg ?_
        have hfull : (effN gs.length cs k).2.length + 1 = gs.length := by rw [hnn]; omega
        refine ol_r (r_move rfl) rfl ?_
        refine ol_r (r_move rfl) rfl ?_
        refine ol_r (r_build rfl (fun _ => bd49_0 _ _ _ _)) rfl ?_
        refine ol_bs1 49 rfl rfl rw44 rfl rfl rfl fun a49 => ?_
        refine ol_append1 (id := 5) (id2 := 49) rfl rfl rfl rfl rfl rw44 (by omega) rfl fun a50 c50 => ?_
        first
          | (refine ol_rekeyT 6 (10000000 + m) rfl (by omega) ?_ ?_
             · repeat' refine (look_cons_ne _ _ (by omega)).trans ?_
               exact look_inn_none (.inr (by omega)))
          | skip
        refine ol_r (r_assign rfl) rfl ?_
        first
          | refine ol_rekey 23 6 rfl (by decide) (ol_r (r_assign rfl) rfl ?_)
          | refine ol_nilrow 6 3 1 (ol_r (r_assign (v := .slice none 0 0) rfl) rfl ?_)
          | refine ol_r (r_assign rfl) rfl ?_
        refine ol_nil (to_k0 (fun _ _ h => h) (hK9 _ _ _ _ _ ?_))
        clear hK9
        refine wp_reg ?_
        refine ol_r (r_add rfl rfl (by omega)) rfl ?_
        first
          | (have hno : ¬(0 < (effN gs.length cs k).2.length ∧ ((effN gs.length cs k).2.length : Int) = x15.gate) := by rw [hnn]; omega
             skip)
          | (have hfull : ¬(effN gs.length cs k).2.length + 1 = gs.length := by rw [hnn]; omega
             skip)
          | skip
        refine ol_r (r_move rfl) rfl ?_
        refine ol_nil (to_k0 (fun _ _ h => h) (hK6 ((k + 1, m + 1, L ++ [((a39, nn + 1, c39), (effN gs.length cs k).2 ++ [x15.at_])], _, _, _, _, _)) _ _ ?_ ?_ (sub_cons rfl (sub_cons rfl (sub_cons rfl sub_nil))) (sub_cons rfl (sub_cons rfl (sub_cons rfl (sub_cons rfl sub_nil)))) (by exact (subH_row rfl (by dsimp only; first | rfl | (rw [effN_a hx15 hc17]; rfl) | (rw [effN_c hx15 hc17 hin hfull]; rfl) | (rw [effN_d hx15 hc17 hin hfull, encI_snoc]) | (rw [effN_b hx15 hc17 hno]) | (rw [encSl_snoc])) (subH_row rfl (by first | (dsimp only; first | rfl | (rw [effN_a hx15 hc17]; rfl) | (rw [effN_c hx15 hc17 hin hfull]; rfl) | (rw [effN_d hx15 hc17 hin hfull, encI_snoc]) | (rw [effN_b hx15 hc17 hno]) | (rw [encSl_snoc]); done) | (first | rfl | (rw [effN_a hx15 hc17]; rfl) | (rw [effN_c hx15 hc17 hin hfull]; rfl) | (rw [effN_d hx15 hc17 hin hfull, encI_snoc]) | (rw [effN_b hx15 hc17 hno]) | (rw [encSl_snoc]); done) | (dsimp only; done)) subH_nil))) (subH_same rfl (subH_same rfl (subH_same rfl subH_nil))) ?_))
        ·try dsimp only
         exact ⟨by omega, by rw [effN_c hx15 hc17 hin hfull, List.map_append, hL]; rfl, by rw [effN_c hx15 hc17 hin hfull]; rfl, by rw [List.length_append, hm]; rfl⟩
        ·try dsimp only
         omega
        ·try dsimp only
         refine subH_snoc (fun j x hj => ?_) ?_
         · have hjl := (List.getElem?_eq_some_iff.1 hj).1
           repeat' refine (look_cons_ne _ _ (by omega)).trans ?_
           exact look_inn_app hj
         · rw [hm]
           repeat' refine (look_cons_ne _ _ (by omega)).trans ?_
           exact (look_inn_skip (.inr (by omega))).trans ((look_cons_eq _ _ _).trans (congrArg some (by unfold rowOf; rw [encI_snoc])))
       ·refine wp_skip' (to_k0 (fun _ _ h => h) (hK9 _ _ _ _ _ ?_))
        clear hK9
        refine wp_reg ?_
        refine ol_r (r_add rfl rfl (by omega)) rfl ?_
        first
          | (have hno : ¬(0 < (effN gs.length cs k).2.length ∧ ((effN gs.length cs k).2.length : Int) = x15.gate) := by rw [hnn]; omega
             skip)
          | (have hfull : ¬(effN gs.length cs k).2.length + 1 = gs.length := by rw [hnn]; omega
             skip)
          | skip
        refine ol_r (r_move rfl) rfl ?_
        refine ol_nil (to_k0 (fun _ _ h => h) (hK6 ((k + 1, m, L, _, _, _, _, _)) _ _ ?_ ?_ (sub_cons rfl (sub_cons rfl (sub_cons rfl sub_nil))) (sub_cons rfl (sub_cons rfl (sub_cons rfl (sub_cons rfl sub_nil)))) (by exact (subH_row rfl (by first | (dsimp only; first | rfl | (rw [effN_a hx15 hc17]; rfl) | (rw [effN_c hx15 hc17 hin hfull]; rfl) | (rw [effN_d hx15 hc17 hin hfull, encI_snoc]) | (rw [effN_b hx15 hc17 hno]) | (rw [encSl_snoc]); done) | (first | rfl | (rw [effN_a hx15 hc17]; rfl) | (rw [effN_c hx15 hc17 hin hfull]; rfl) | (rw [effN_d hx15 hc17 hin hfull, encI_snoc]) | (rw [effN_b hx15 hc17 hno]) | (rw [encSl_snoc]); done) | (dsimp only; done)) (subH_row rfl (by first | (dsimp only; first | rfl | (rw [effN_a hx15 hc17]; rfl) | (rw [effN_c hx15 hc17 hin hfull]; rfl) | (rw [effN_d hx15 hc17 hin hfull, encI_snoc]) | (rw [effN_b hx15 hc17 hno]) | (rw [encSl_snoc]); done) | (first | rfl | (rw [effN_a hx15 hc17]; rfl) | (rw [effN_c hx15 hc17 hin hfull]; rfl) | (rw [effN_d hx15 hc17 hin hfull, encI_snoc]) | (rw [effN_b hx15 hc17 hno]) | (rw [encSl_snoc]); done) | (dsimp only; done)) subH_nil))) (subH_same rfl (subH_same rfl (subH_same rfl subH_nil))) ?_))
        ·try dsimp only
         exact ⟨by omega, by rw [effN_d hx15 hc17 hin hfull]; exact hL, by rw [effN_d hx15 hc17 hin hfull, List.length_append, hnn]; rfl, hm⟩
        ·try dsimp only
         omega
        ·try dsimp only
         refine subH_inn fun j x hj => ?_
         repeat' refine (look_cons_ne _ _ (by omega)).trans ?_
         exact look_inn hj
      ·refine wp_skip' (to_k0 (fun _ _ h => h) (hK9 _ _ _ _ _ ?_))
       clear hK9
       refine wp_reg ?_
       refine ol_r (r_add rfl rfl (by omega)) rfl ?_
       first
         | (have hno : ¬(0 < (effN gs.length cs k).2.length ∧ ((effN gs.length cs k).2.length : Int) = x15.gate) := by rw [hnn]; omega
            skip)
         | (have hfull : ¬(effN gs.length cs k).2.length + 1 = gs.length := by rw [hnn]; omega
            skip)
         | skip
       refine ol_r (r_move rfl) rfl ?_
       refine ol_nil (to_k0 (fun _ _ h => h) (hK6 ((k + 1, m, L, _, _, _, _, _)) _ _ ?_ ?_ (sub_cons rfl (sub_cons rfl (sub_cons rfl sub_nil))) (sub_cons rfl (sub_cons rfl (sub_cons rfl (sub_cons rfl sub_nil)))) (by exact (subH_row rfl (by first | (dsimp only; first | rfl | (rw [effN_a hx15 hc17]; rfl) | (rw [effN_c hx15 hc17 hin hfull]; rfl) | (rw [effN_d hx15 hc17 hin hfull, encI_snoc]) | (rw [effN_b hx15 hc17 hno]) | (rw [encSl_snoc]); done) | (first | rfl | (rw [effN_a hx15 hc17]; rfl) | (rw [effN_c hx15 hc17 hin hfull]; rfl) | (rw [effN_d hx15 hc17 hin hfull, encI_snoc]) | (rw [effN_b hx15 hc17 hno]) | (rw [encSl_snoc]); done) | (dsimp only; done)) (subH_row rfl (by first | (dsimp only; first | rfl | (rw [effN_a hx15 hc17]; rfl) | (rw [effN_c hx15 hc17 hin hfull]; rfl) | (rw [effN_d hx15 hc17 hin hfull, encI_snoc]) | (rw [effN_b hx15 hc17 hno]) | (rw [encSl_snoc]); done) | (first | rfl | (rw [effN_a hx15 hc17]; rfl) | (rw [effN_c hx15 hc17 hin hfull]; rfl) | (rw [effN_d hx15 hc17 hin hfull, encI_snoc]) | (rw [effN_b hx15 hc17 hno]) | (rw [encSl_snoc]); done) | (dsimp only; done)) subH_nil))) (subH_same rfl (subH_same rfl (subH_same rfl subH_nil))) ?_))
       ·try dsimp only
        exact ⟨by omega, by rw [effN_b hx15 hc17 hno]; exact hL, by rw [effN_b hx15 hc17 hno]; exact hnn, hm⟩
       ·try dsimp only
        omega
       ·try dsimp only
        refine subH_inn fun j x hj => ?_
        repeat' refine (look_cons_ne _ _ (by omega)).trans ?_
        exact look_inn hj
     ·have phs28 := hs28; try simp only [decide_eq_true_eq, decide_eq_false_iff_not, Bool.not_eq_true', Bool.not_eq_false', Bool.not_true, Bool.not_false] at phs28
      refine ol_s rfl rfl hs28 rfl ?_
      refine ol_s rfl rfl hs28 rfl ?_
      refine ol_s rfl rfl hs28 rfl ?_
      refine ol_s rfl rfl hs28 rfl ?_
      refine ol_s rfl rfl hs28 rfl ?_
      refine ol_r (r_pickF rfl hs28 rfl) rfl ?_
      refine ol_r (r_assign rfl) rfl ?_
      refine ol_nil (to_k0 (fun _ _ h => h) (hK12 _ _ _ _ _ ?_))
      clear hK12
      refine wp_condF rfl ?_
      refine wp_skip' (to_k0 (fun _ _ h => h) (hK9 _ _ _ _ _ ?_))
      clear hK9
      refine wp_reg ?_
      refine ol_r (r_add rfl rfl (by omega)) rfl ?_
      first
        | (have hno : ¬(0 < (effN gs.length cs k).2.length ∧ ((effN gs.length cs k).2.length : Int) = x15.gate) := by rw [hnn]; omega
           skip)
        | (have hfull : ¬(effN gs.length cs k).2.length + 1 = gs.length := by rw [hnn]; omega
           skip)
        | skip
      refine ol_r (r_move rfl) rfl ?_
      refine ol_nil (to_k0 (fun _ _ h => h) (hK6 ((k + 1, m, L, _, _, _, _, _)) _ _ ?_ ?_ (sub_cons rfl (sub_cons rfl (sub_cons rfl sub_nil))) (sub_cons rfl (sub_cons rfl (sub_cons rfl (sub_cons rfl sub_nil)))) (by exact (subH_row rfl (by first | (dsimp only; first | rfl | (rw [effN_a hx15 hc17]; rfl) | (rw [effN_c hx15 hc17 hin hfull]; rfl) | (rw [effN_d hx15 hc17 hin hfull, encI_snoc]) | (rw [effN_b hx15 hc17 hno]) | (rw [encSl_snoc]); done) | (first | rfl | (rw [effN_a hx15 hc17]; rfl) | (rw [effN_c hx15 hc17 hin hfull]; rfl) | (rw [effN_d hx15 hc17 hin hfull, encI_snoc]) | (rw [effN_b hx15 hc17 hno]) | (rw [encSl_snoc]); done) | (dsimp only; done)) (subH_row rfl (by first | (dsimp only; first | rfl | (rw [effN_a hx15 hc17]; rfl) | (rw [effN_c hx15 hc17 hin hfull]; rfl) | (rw [effN_d hx15 hc17 hin hfull, encI_snoc]) | (rw [effN_b hx15 hc17 hno]) | (rw [encSl_snoc]); done) | (first | rfl | (rw [effN_a hx15 hc17]; rfl) | (rw [effN_c hx15 hc17 hin hfull]; rfl) | (rw [effN_d hx15 hc17 hin hfull, encI_snoc]) | (rw [effN_b hx15 hc17 hno]) | (rw [encSl_snoc]); done) | (dsimp only; done)) subH_nil))) (subH_same rfl (subH_same rfl (subH_same rfl subH_nil))) ?_))
      ·try dsimp only
       exact ⟨by omega, by rw [effN_b hx15 hc17 hno]; exact hL, by rw [effN_b hx15 hc17 hno]; exact hnn, hm⟩
      ·try dsimp only
       omega
      ·try dsimp only
       refine subH_inn fun j x hj => ?_
       repeat' refine (look_cons_ne _ _ (by omega)).trans ?_
       exact look_inn hj
   ·refine wp_exit' (to_k0 (fun _ _ h => h) (hK4 _ _ _ _ _ ?_))
    clear hK4
    refine wp_seq' fun K15 hK15 => ?_
    refine wp_reg ?_
    refine ol_r (r_move rfl) rfl ?_
    refine ol_r (r_assign rfl) rfl ?_
    refine ol_nil (to_k0 (fun _ _ h => h) (hK15 _ _ _ _ _ ?_))
    clear hK15
    refine hQ.ret (rvs1 (rv_t rfl)) (fun _ _ h => h) fun w hb hs hB hkd => ?_
    obtain rfl : k = cs.length := by omega
    subst hm
    refine ⟨_, _, L, rfl, hb, hs.sub (subH_row rfl rfl (subH_inn fun j x hj => ?_)), hL⟩
    repeat' refine (look_cons_ne _ _ (by omega)).trans ?_
    exact look_inn hj
def effR (nm : ByteArray) (gs : List GateR) (d : ActD) : List (List Int) × Int := if orL [chkSeg nm gs, chkA d] ≠ 0 then ([], orL [chkSeg nm gs, chkA d]) else (effL gs.length (crossS gs (stepsL d.ss) (stepsL d.ss).length), 0)
theorem ownE_nil (B : Nat) (w : World) (T U : TypeId) (id base : Nat) : OwnE B w T U id base none 0 0 [] := (Sat.nil B w).nilRow id T 1
theorem crossR_e {nm : ByteArray} {gs : List GateR} {d : ActD} (h : (crossR nm gs d).2 ≠ 0) : orL [chkSeg nm gs, chkA d] ≠ 0 := by
  unfold crossR at h
  split at h
  · assumption
  · exact absurd rfl h
theorem crossR_0 {nm : ByteArray} {gs : List GateR} {d : ActD} (h : ¬(crossR nm gs d).2 ≠ 0) : ¬orL [chkSeg nm gs, chkA d] ≠ 0 := by
  unfold crossR at h
  split at h
  · exact absurd ‹_› h
  · assumption
theorem match_Efforts (nm : ByteArray) (ga : Option Addr) (gn gc : Nat) (gs : List GateR) (A : ActV) (w : World) (hn : nm.size ≤ 9223372036854775807) (hS : Rd encGate w.heap.size w ga gn gc gs) (hA : A.Ok w.heap.size w) :
    Calls Try.prog 18 #[.agg #[.string nm, .slice ga gn gc], .agg #[.string A.name, .int .i64 A.sport, .int .i64 A.start, .slice A.sa A.sn A.sc, .slice A.la A.ln A.lc, .slice A.ta A.tn A.tc]] w fun e w' => ∃ a c L, e = .returned (.tuple #[.slice a L.length c, .int .i64 (effR nm gs A.d).2]) ∧ Below w.heap.size w w' ∧ OwnE w.heap.size w' 49 3 5 10000000 a L.length c L ∧ L.map (·.2) = (effR nm gs A.d).1 := by
  refine enterQ (N := 16) (C := fun _ => True) (H := []) (B := w.heap.size) (args := [_, _]) Try.func18 rfl rfl rfl (Nat.le_refl _) (Sat.nil _ _) fun Q hQ => ?_
  refine wp_seq' fun K1 hK1 => ?_
  refine wp_reg ?_
  refine ol_box 2 rfl rfl rfl fun b2 => ?_
  refine ol_box 3 rfl rfl rfl fun b3 => ?_
  refine ol_r (r_assign rfl) rfl ?_
  refine ol_r (r_assign rfl) rfl ?_
  refine ol_nil (to_k0 (fun _ _ h => h) (hK1 _ _ _ _ _ ?_))
  clear hK1
  refine wp_seq' fun K2 hK2 => ?_
  refine wp_seq' fun K3 hK3 => ?_
  refine wp_reg ?_
  refine ol_r (r_lda (id := 2) (n := 2) rfl rfl rfl ag24) rfl ?_
  refine ol_r (r_lda (id := 3) (n := 6) rfl rfl rfl ag29) rfl ?_
  refine ol_call rfl rfl cb35 rfl (fun w1 hb1 hs1 hB1 => Calls.mono (match_checkRun nm _ _ _ gs A _ hn (hS.at hb1 hB1) (hA.at hb1 hB1)) ?_)
  rintro e w2 ⟨rfl, hb2⟩
  refine After.below rfl hb1 hs1 hB1 hb2 ?_
  clear hb2 hB1 hs1 hb1 w2 w1
  refine ol_r (r_assign rfl) rfl ?_
  refine ol_nil (to_k0 (fun _ _ h => h) (hK3 _ _ _ _ _ ?_))
  clear hK3
  refine wp_seq' fun K4 hK4 => ?_
  refine wp_reg ?_
  refine ol_r (r_move rfl) rfl ?_
  refine ol_r (r_neq rfl rfl) rfl ?_
  refine ol_nil (to_k0 (fun _ _ h => h) (hK4 _ _ _ _ _ ?_))
  clear hK4
  refine wp_condD rfl (fun hc11 => ?_) (fun hc11 => ?_)
  ·refine wp_seq' fun K5 hK5 => ?_
   refine wp_reg ?_
   refine ol_r (r_move rfl) rfl ?_
   refine ol_r (r_assign rfl) rfl ?_
   refine ol_r (r_assign rfl) rfl ?_
   refine ol_nil (to_k0 (fun _ _ h => h) (hK5 _ _ _ _ _ ?_))
   clear hK5
   refine hQ.ret (rvs2 (rv_t rfl) (rv_t rfl)) (fun _ _ h => h) fun w hb hs hB hkd => ?_
   exact ⟨none, 0, [], by rw [effR, if_pos hc11]; rfl, hb, ownE_nil _ _ _ _ _ _, by rw [effR, if_pos hc11]; rfl⟩
  ·refine wp_skip' (to_k0 (fun _ _ h => h) (hK2 _ _ _ _ _ ?_))
   clear hK2
   refine wp_seq' fun K6 hK6 => ?_
   refine wp_reg ?_
   refine ol_r (r_lda (id := 2) (n := 2) rfl rfl rfl ag24) rfl ?_
   refine ol_r (r_lda (id := 3) (n := 6) rfl rfl rfl ag29) rfl ?_
   refine ol_call rfl rfl cb51 rfl (fun w1 hb1 hs1 hB1 => ?_)
   refine Calls.mono (eff_prog nm _ _ _ gs A _ (hS.at hb1 hB1) (hA.at hb1 hB1) (or_both hc11).1 (or_both hc11).2) ?_
   rintro e w2 ⟨a5, c5, L, rfl, hb2, hs2, hL⟩
   refine After.moreE rfl hb1 hs1 hB1 hb2 (hs2.num (by decide) 1005 10000000 (by decide)) (by decide) (fun i hi _ => ?_) ?_
   · repeat' refine (look_cons_ne _ _ (by omega)).trans ?_
     rfl
   clear hs2 hb2 hB1 hs1 hb1 w2 w1
   refine ol_r (r_assign rfl) rfl ?_
   refine ol_r (r_assign rfl) rfl ?_
   refine ol_nil (to_k0 (fun _ _ h => h) (hK6 _ _ _ _ _ ?_))
   clear hK6
   refine hQ.ret (rvs2 (rv_t rfl) (rv_t rfl)) (fun _ _ h => h) fun w hb hs hB hkd => ?_
   refine ⟨_, _, L, by rw [effR, if_neg hc11], hb, OwnE.num (id := 1005) (base := 10000000) (hs.sub (subH_row rfl rfl (subH_inn fun j x hj => ?_))) (by decide) 5 10000000 (by decide), by rw [effR, if_neg hc11]; exact hL⟩
   repeat' refine (look_cons_ne _ _ (by omega)).trans ?_
   exact look_inn hj
theorem ref5_Efforts (nm : ByteArray) (ga : Option Addr) (gn gc : Nat) (gs : List GateR) (A : ActV) (w : World) (hn : nm.size ≤ 9223372036854775807) (hS : Rd encGate w.heap.size w ga gn gc gs) (hA : A.Ok w.heap.size w) :
    Calls Try.prog 19 #[.agg #[.string nm, .slice ga gn gc], .agg #[.string A.name, .int .i64 A.sport, .int .i64 A.start, .slice A.sa A.sn A.sc, .slice A.la A.ln A.lc, .slice A.ta A.tn A.tc]] w fun e w' => ∃ a c L, e = .returned (.tuple #[.slice a L.length c, .int .i64 (effR nm gs A.d).2]) ∧ Below w.heap.size w w' ∧ OwnE w.heap.size w' 49 3 5 10000000 a L.length c L ∧ L.map (·.2) = (effR nm gs A.d).1 := by
  have hgn := hS.len
  refine enterQ (N := 61) (C := fun _ => True) (H := []) (B := w.heap.size) (args := [_, _]) Try.func19 rfl rfl rfl (Nat.le_refl _) (Sat.nil _ _) fun Q hQ => ?_
  refine wp_seq' fun K1 hK1 => ?_
  refine wp_reg ?_
  refine ol_box 2 rfl rfl rfl fun b2 => ?_
  refine ol_box 3 rfl rfl rfl fun b3 => ?_
  refine ol_r (r_assign rfl) rfl ?_
  refine ol_r (r_assign rfl) rfl ?_
  refine ol_nil (to_k0 (fun _ _ h => h) (hK1 _ _ _ _ _ ?_))
  clear hK1
  refine wp_seq' fun K2 hK2 => ?_
  refine wp_reg ?_
  refine ol_r (r_lda (id := 2) (n := 2) rfl rfl rfl ag24) rfl ?_
  refine ol_r (r_lda (id := 3) (n := 6) rfl rfl rfl ag29) rfl ?_
  refine ol_call rfl rfl cb10 rfl (fun w1 hb1 hs1 hB1 => Calls.mono (ref5_Crossings nm _ _ _ gs A _ hn (hS.at hb1 hB1) (hA.at hb1 hB1)) ?_)
  rintro e w2 ⟨a15, n15, c15, rfl, hf15⟩
  refine After.fresh (id := 15) rfl hb1 hs1 hB1 hf15 ?_
  have hl15 := hf15.len; clear hf15 hB1 hs1 hb1 w2 w1
  refine ol_r (r_move rfl) rfl ?_
  refine ol_r (r_extract rfl rfl) rfl ?_
  refine ol_r (r_extract rfl rfl) rfl ?_
  refine ol_r (r_assign rfl) rfl ?_
  refine ol_r (r_assign rfl) rfl ?_
  refine ol_nil (to_k0 (fun _ _ h => h) (hK2 _ _ _ _ _ ?_))
  clear hK2
  refine wp_seq' fun K3 hK3 => ?_
  refine wp_seq' fun K4 hK4 => ?_
  refine wp_reg ?_
  refine ol_r (r_move rfl) rfl ?_
  refine ol_r (r_neq rfl rfl) rfl ?_
  refine ol_nil (to_k0 (fun _ _ h => h) (hK4 _ _ _ _ _ ?_))
  clear hK4
  refine wp_condD rfl (fun hc19 => ?_) (fun hc19 => ?_)
  ·refine wp_seq' fun K5 hK5 => ?_
   refine wp_reg ?_
   refine ol_r (r_move rfl) rfl ?_
   refine ol_r (r_assign rfl) rfl ?_
   refine ol_r (r_assign rfl) rfl ?_
   refine ol_nil (to_k0 (fun _ _ h => h) (hK5 _ _ _ _ _ ?_))
   clear hK5
   refine hQ.ret (rvs2 (rv_t rfl) (rv_t rfl)) (fun _ _ h => h) fun w hb hs hB hkd => ?_
   exact ⟨none, 0, [], by rw [effR, if_pos (crossR_e hc19)]; rw [crossR, if_pos (crossR_e hc19)]; rfl, hb, ownE_nil _ _ _ _ _ _, by rw [effR, if_pos (crossR_e hc19)]; rfl⟩
  ·refine wp_skip' (to_k0 (fun _ _ h => h) (hK3 _ _ _ _ _ ?_))
   clear hK3
   refine wp_seq' fun K6 hK6 => ?_
   refine wp_reg ?_
   first
     | (refine ol_rekeyT 9 (10000000 + m) rfl (by omega) ?_ ?_
        · repeat' refine (look_cons_ne _ _ (by omega)).trans ?_
          exact look_inn_none (.inr (by omega)))
     | skip
   refine ol_nilrow 8 49 1 ?_
   refine ol_r (r_assign rfl) rfl ?_
   refine ol_nil (to_k0 (fun _ _ h => h) (hK6 _ _ _ _ _ ?_))
   clear hK6
   refine wp_seq' fun K7 hK7 => ?_
   refine wp_reg ?_
   first
     | refine ol_rekey 32 9 rfl (by decide) (ol_r (r_assign rfl) rfl ?_)
     | refine ol_nilrow 9 3 1 (ol_r (r_assign (v := .slice none 0 0) rfl) rfl ?_)
     | refine ol_r (r_assign rfl) rfl ?_
   refine ol_nil (to_k0 (fun _ _ h => h) (hK7 _ _ _ _ _ ?_))
   clear hK7
   refine wp_seq' fun K8 hK8 => ?_
   refine wp_seq' fun K9 hK9 => ?_
   refine wp_reg ?_
   obtain ⟨cs, hcs⟩ : ∃ cs, cs = (crossR nm gs A.d).1 := ⟨_, rfl⟩
   rw [← hcs] at hl15 ⊢
   have hgl := (or_both (crossR_0 hc19)).1.len
   have hok := (or_both (crossR_0 hc19)).2.len
   have hcl : cs.length ≤ 1000000 := by
     have h1 := crossS_len gs (stepsL A.ss) (stepsL A.ss).length
     have h2 : gs.length * (stepsL A.ss).length ≤ 50 * 20000 := Nat.mul_le_mul hgl.2 (by rw [stepsL_len]; omega)
     have h3 : cs = crossS gs (stepsL A.ss) (stepsL A.ss).length := by rw [hcs, crossR, if_neg (crossR_0 hc19)]; rfl
     rw [h3]; omega
   refine ol_r (r_move rfl) rfl ?_
   refine ol_r (r_len rfl sl30) rfl ?_
   first
     | (have hno : ¬(0 < (effN gs.length cs k).2.length ∧ ((effN gs.length cs k).2.length : Int) = x25.gate) := by rw [hnn]; omega
        skip)
     | (have hfull : ¬(effN gs.length cs k).2.length + 1 = gs.length := by rw [hnn]; omega
        skip)
     | skip
   refine ol_r (r_move rfl) rfl ?_
   refine ol_nil (to_k0 (fun _ _ h => h) (hK9 _ _ _ _ _ ?_))
   clear hK9
   refine wp_block' ?_
   apply wp_loopT (σ := Nat × Nat × List (Sl × List Int) × Option Addr × Nat × Option Addr × Nat × Nat) (fun s => s.1 ≤ cs.length ∧ s.2.2.1.map (·.2) = (effN gs.length cs s.1).1 ∧ (effN gs.length cs s.1).2.length = s.2.2.2.2.2.2.1 ∧ s.2.2.1.length = s.2.1) (fun s => [(23, .int .i64 s.1), (8, .slice s.2.2.2.1 s.2.1 s.2.2.2.2.1), (9, .slice s.2.2.2.2.2.1 s.2.2.2.2.2.2.1 s.2.2.2.2.2.2.2)]) [(2, _), (4, _), (5, _), (21, _), (22, _)] (fun s => [(8, .row s.2.2.2.1 s.2.1 s.2.2.2.2.1 (encSl.enc (s.2.2.1.map (·.1))) 49 1), (9, .row s.2.2.2.2.2.1 s.2.2.2.2.2.2.1 s.2.2.2.2.2.2.2 (encI.enc (effN gs.length cs s.1).2) 3 1)]) [(2, _), (3, _), (15, _)] (fun s => innH 3 10000000 s.2.2.1) (fun s => cs.length - s.1) ((0, 0, [], none, 0, none, 0, 0))
   ·try dsimp only
    exact ⟨Nat.zero_le _, rfl, rfl, rfl⟩
   ·exact (sub_cons rfl (sub_cons rfl (sub_cons rfl sub_nil)))
   ·exact (sub_cons rfl (sub_cons rfl (sub_cons rfl (sub_cons rfl (sub_cons rfl sub_nil)))))
   ·exact (subH_row rfl (by dsimp only; rfl) (subH_row rfl (by dsimp only; rfl) subH_nil))
   ·exact (subH_same rfl (subH_same rfl (subH_same rfl subH_nil)))
   ·exact subH_nil
   ·rintro ⟨k, m, L, oa, oc, na, nn, nc⟩ ⟨hk, hL, hnn, hm⟩
    dsimp only at hk hL hnn hm ⊢
    have hLl : m ≤ k := by
      have h1 := effN_cnt gs.length cs k
      rw [← hL, List.length_map] at h1; omega
    have hlt := effN_lt hgl.1 cs k
    intro K10 hK10
    refine wp_seq' fun K11 hK11 => ?_
    refine wp_reg ?_
    refine ol_r (r_lss rfl rfl) rfl ?_
    refine ol_nil (to_k0 (fun _ _ h => h) (hK11 _ _ _ _ _ ?_))
    clear hK11
    refine wp_seq' fun K12 hK12 => ?_
    refine wp_condD rfl (fun hc24 => ?_) (fun hc24 => ?_)
    ·refine wp_skip' (to_k0 (fun _ _ h => h) (hK12 _ _ _ _ _ ?_))
     clear hK12
     refine wp_seq' fun K13 hK13 => ?_
     refine wp_block' ?_
     refine wp_seq' fun K14 hK14 => ?_
     refine wp_reg ?_
     refine ol_ixo (id := 15) encCr _ rfl rfl rfl rfl sl30 (by omega) rfl fun x25 hx25 => ?_
     try simp only [Int.toNat_natCast] at hx25
     try simp only [Int.toNat_natCast] at hx25
     refine ol_r (r_ldw rfl (fun w1 hb1 hs1 hB1 => ld_own (id := 15) hs1 rfl rfl ty36 hx25)) rfl ?_
     refine ol_alloc 11 z36 rfl fun b11 => ?_
     refine ol_store (id := 11) rfl rfl rfl rfl sz36 rfl rfl (by first | decide | exact Nat.zero_lt_succ _ | simp) ?_
     refine ol_nil (to_k0 (fun _ _ h => h) (hK14 _ _ _ _ _ ?_))
     clear hK14
     refine wp_seq' fun K15 hK15 => ?_
     refine wp_seq' fun K16 hK16 => ?_
     refine wp_reg ?_
     refine ol_r (r_fa (o' := 0) rfl fl36_0 rfl) rfl ?_
     refine ol_r (r_ld (id := 11) rfl rfl rfl sc3) rfl ?_
     refine ol_r (r_eql rfl rfl) rfl ?_
     refine ol_nil (to_k0 (fun _ _ h => h) (hK16 _ _ _ _ _ ?_))
     clear hK16
     refine wp_condD rfl (fun hc29 => ?_) (fun hc29 => ?_)
     ·refine wp_seq' fun K17 hK17 => ?_
      refine wp_reg ?_
      refine ol_r (r_fa (o' := 2) rfl fl36_2 rfl) rfl ?_
      refine ol_r (r_ld (id := 11) rfl rfl rfl sc3) rfl ?_
      refine ol_bs1 32 rfl rfl rw47 rfl rfl rfl fun a32 => ?_
      first
        | refine ol_rekey 32 9 rfl (by decide) (ol_r (r_assign rfl) rfl ?_)
        | refine ol_nilrow 9 3 1 (ol_r (r_assign (v := .slice none 0 0) rfl) rfl ?_)
        | refine ol_r (r_assign rfl) rfl ?_
      refine ol_nil (to_k0 (fun _ _ h => h) (hK17 _ _ _ _ _ ?_))
      clear hK17
      refine wp_exit' (to_k0 (fun _ _ h => h) (hK13 _ _ _ _ _ ?_))
      clear hK13
      refine wp_reg ?_
      refine ol_r (r_add rfl rfl (by omega)) rfl ?_
      first
        | (have hno : ¬(0 < (effN gs.length cs k).2.length ∧ ((effN gs.length cs k).2.length : Int) = x25.gate) := by rw [hnn]; omega
           skip)
        | (have hfull : ¬(effN gs.length cs k).2.length + 1 = gs.length := by rw [hnn]; omega
           skip)
        | skip
      refine ol_r (r_move rfl) rfl ?_
      refine ol_nil (to_k0 (fun _ _ h => h) (hK10 ((k + 1, m, L, _, _, _, _, _)) _ _ ?_ ?_ (sub_cons rfl (sub_cons rfl (sub_cons rfl sub_nil))) (sub_cons rfl (sub_cons rfl (sub_cons rfl (sub_cons rfl (sub_cons rfl sub_nil))))) (by exact (subH_row rfl (by first | (dsimp only; first | rfl | (rw [effN_a hx25 hc29]; rfl) | (rw [effN_c hx25 hc29 hin hfull]; rfl) | (rw [effN_d hx25 hc29 hin hfull, encI_snoc]) | (rw [effN_b hx25 hc29 hno]) | (rw [encSl_snoc]); done) | (first | rfl | (rw [effN_a hx25 hc29]; rfl) | (rw [effN_c hx25 hc29 hin hfull]; rfl) | (rw [effN_d hx25 hc29 hin hfull, encI_snoc]) | (rw [effN_b hx25 hc29 hno]) | (rw [encSl_snoc]); done) | (dsimp only; done)) (subH_row rfl (by first | (dsimp only; first | rfl | (rw [effN_a hx25 hc29]; rfl) | (rw [effN_c hx25 hc29 hin hfull]; rfl) | (rw [effN_d hx25 hc29 hin hfull, encI_snoc]) | (rw [effN_b hx25 hc29 hno]) | (rw [encSl_snoc]); done) | (first | rfl | (rw [effN_a hx25 hc29]; rfl) | (rw [effN_c hx25 hc29 hin hfull]; rfl) | (rw [effN_d hx25 hc29 hin hfull, encI_snoc]) | (rw [effN_b hx25 hc29 hno]) | (rw [encSl_snoc]); done) | (dsimp only; done)) subH_nil))) (subH_same rfl (subH_same rfl (subH_same rfl subH_nil))) ?_))
      ·try dsimp only
       exact ⟨by omega, by rw [effN_a hx25 hc29]; exact hL, by rw [effN_a hx25 hc29]; rfl, hm⟩
      ·try dsimp only
       omega
      ·try dsimp only
       refine subH_inn fun j x hj => ?_
       repeat' refine (look_cons_ne _ _ (by omega)).trans ?_
       exact look_inn hj
     ·refine wp_skip' (to_k0 (fun _ _ h => h) (hK15 _ _ _ _ _ ?_))
      clear hK15
      refine wp_seq' fun K18 hK18 => ?_
      refine wp_seq' fun K19 hK19 => ?_
      refine wp_reg ?_
      refine ol_r (r_move rfl) rfl ?_
      refine ol_r (r_len rfl sl47) rfl ?_
      refine ol_r (r_gtr rfl rfl) rfl ?_
      refine ol_r (r_move rfl) rfl ?_
      refine ol_split (d := 36) rfl (fun hs36 => ?_) (fun hs36 => ?_)
      ·have phs36 := hs36; try simp only [decide_eq_true_eq, decide_eq_false_iff_not, Bool.not_eq_true', Bool.not_eq_false', Bool.not_true, Bool.not_false] at phs36
       refine ol_g rfl rfl hs36 ?_
       refine ol_r (r_fa (o' := 0) rfl fl36_0 rfl) rfl ?_
       refine ol_g rfl rfl hs36 ?_
       refine ol_r (r_ld (id := 11) rfl rfl rfl sc3) rfl ?_
       refine ol_g rfl rfl hs36 ?_
       refine ol_r (r_move rfl) rfl ?_
       refine ol_g rfl rfl hs36 ?_
       refine ol_r (r_len rfl sl47) rfl ?_
       refine ol_g rfl rfl hs36 ?_
       refine ol_r (r_eql rfl rfl) rfl ?_
       refine ol_r (r_pickT rfl hs36 rfl) rfl ?_
       refine ol_nil (to_k0 (fun _ _ h => h) (hK19 _ _ _ _ _ ?_))
       clear hK19
       refine wp_condD rfl (fun hc42 => ?_) (fun hc42 => ?_)
       ·refine wp_reg ?_
        refine ol_r (r_move rfl) rfl ?_
        refine ol_r (r_fa (o' := 2) rfl fl36_2 rfl) rfl ?_
        refine ol_r (r_ld (id := 11) rfl rfl rfl sc3) rfl ?_
        refine ol_bs1 46 rfl rfl rw47 rfl rfl rfl fun a46 => ?_
        have hin : 0 < (effN gs.length cs k).2.length ∧ ((effN gs.length cs k).2.length : Int) = x25.gate := by rw [hnn]; exact ⟨by omega, by omega⟩
        refine ol_append1 (id := 9) (id2 := 46) rfl rfl rfl rfl rfl rw47 (by omega) rfl fun a47 c47 => ?_
        first
          | refine ol_rekey 32 9 rfl (by decide) (ol_r (r_assign rfl) rfl ?_)
          | refine ol_nilrow 9 3 1 (ol_r (r_assign (v := .slice none 0 0) rfl) rfl ?_)
          | refine ol_r (r_assign rfl) rfl ?_
        refine ol_nil (to_k0 (fun _ _ h => h) (hK18 _ _ _ _ _ ?_))
        clear hK18
        refine wp_seq' fun K20 hK20 => ?_
        refine wp_reg ?_
        refine ol_r (r_move rfl) rfl ?_
        refine ol_r (r_len rfl sl47) rfl ?_
        refine ol_r (r_fa (o' := 1) rfl fl24_1 rfl) rfl ?_
        refine ol_r (r_ld (id := 2) rfl rfl rfl sc22) rfl ?_
        refine ol_r (r_len rfl sl22) rfl ?_
        refine ol_r (r_eql rfl rfl) rfl ?_
        refine ol_nil (to_k0 (fun _ _ h => h) (hK20 _ _ _ _ _ ?_))
        clear hK20
        refine wp_condD rfl (fun hc53 => ?_) (fun hc53 => ?_)
        ·refine wp_seq' fun K21 hK21 => ?_
         refine wp_reg ?_
         have hfull : (effN gs.length cs k).2.length + 1 = gs.length := by rw [hnn]; omega
         refine ol_r (r_move rfl) rfl ?_
         refine ol_r (r_move rfl) rfl ?_
         refine ol_r (r_build rfl (fun _ => bd49_0 _ _ _ _)) rfl ?_
         refine ol_bs1 57 rfl rfl rw44 rfl rfl rfl fun a57 => ?_
         refine ol_append1 (id := 8) (id2 := 57) rfl rfl rfl rfl rfl rw44 (by omega) rfl fun a58 c58 => ?_
         first
           | (refine ol_rekeyT 9 (10000000 + m) rfl (by omega) ?_ ?_
              · repeat' refine (look_cons_ne _ _ (by omega)).trans ?_
                exact look_inn_none (.inr (by omega)))
           | skip
         refine ol_r (r_assign rfl) rfl ?_
         refine ol_nil (to_k0 (fun _ _ h => h) (hK21 _ _ _ _ _ ?_))
         clear hK21
         refine wp_reg ?_
         first
           | refine ol_rekey 32 9 rfl (by decide) (ol_r (r_assign rfl) rfl ?_)
           | refine ol_nilrow 9 3 1 (ol_r (r_assign (v := .slice none 0 0) rfl) rfl ?_)
           | refine ol_r (r_assign rfl) rfl ?_
         refine ol_nil (to_k0 (fun _ _ h => h) (hK13 _ _ _ _ _ ?_))
         clear hK13
         refine wp_reg ?_
         refine ol_r (r_add rfl rfl (by omega)) rfl ?_
         first
           | (have hno : ¬(0 < (effN gs.length cs k).2.length ∧ ((effN gs.length cs k).2.length : Int) = x25.gate) := by rw [hnn]; omega
              skip)
           | (have hfull : ¬(effN gs.length cs k).2.length + 1 = gs.length := by rw [hnn]; omega
              skip)
           | skip
         refine ol_r (r_move rfl) rfl ?_
         refine ol_nil (to_k0 (fun _ _ h => h) (hK10 ((k + 1, m + 1, L ++ [((a47, nn + 1, c47), (effN gs.length cs k).2 ++ [x25.at_])], _, _, _, _, _)) _ _ ?_ ?_ (sub_cons rfl (sub_cons rfl (sub_cons rfl sub_nil))) (sub_cons rfl (sub_cons rfl (sub_cons rfl (sub_cons rfl (sub_cons rfl sub_nil))))) (by exact (subH_row rfl (by dsimp only; first | rfl | (rw [effN_a hx25 hc29]; rfl) | (rw [effN_c hx25 hc29 hin hfull]; rfl) | (rw [effN_d hx25 hc29 hin hfull, encI_snoc]) | (rw [effN_b hx25 hc29 hno]) | (rw [encSl_snoc])) (subH_row rfl (by first | (dsimp only; first | rfl | (rw [effN_a hx25 hc29]; rfl) | (rw [effN_c hx25 hc29 hin hfull]; rfl) | (rw [effN_d hx25 hc29 hin hfull, encI_snoc]) | (rw [effN_b hx25 hc29 hno]) | (rw [encSl_snoc]); done) | (first | rfl | (rw [effN_a hx25 hc29]; rfl) | (rw [effN_c hx25 hc29 hin hfull]; rfl) | (rw [effN_d hx25 hc29 hin hfull, encI_snoc]) | (rw [effN_b hx25 hc29 hno]) | (rw [encSl_snoc]); done) | (dsimp only; done)) subH_nil))) (subH_same rfl (subH_same rfl (subH_same rfl subH_nil))) ?_))
         ·try dsimp only
          exact ⟨by omega, by rw [effN_c hx25 hc29 hin hfull, List.map_append, hL]; rfl, by rw [effN_c hx25 hc29 hin hfull]; rfl, by rw [List.length_append, hm]; rfl⟩
         ·try dsimp only
          omega
         ·try dsimp only
          refine subH_snoc (fun j x hj => ?_) ?_
          · have hjl := (List.getElem?_eq_some_iff.1 hj).1
            repeat' refine (look_cons_ne _ _ (by omega)).trans ?_
            exact look_inn_app hj
          · rw [hm]
            repeat' refine (look_cons_ne _ _ (by omega)).trans ?_
            exact (look_inn_skip (.inr (by omega))).trans ((look_cons_eq _ _ _).trans (congrArg some (by unfold rowOf; rw [encI_snoc])))
        ·refine wp_skip' (to_k0 (fun _ _ h => h) (hK13 _ _ _ _ _ ?_))
         clear hK13
         refine wp_reg ?_
         refine ol_r (r_add rfl rfl (by omega)) rfl ?_
         first
           | (have hno : ¬(0 < (effN gs.length cs k).2.length ∧ ((effN gs.length cs k).2.length : Int) = x25.gate) := by rw [hnn]; omega
              skip)
           | (have hfull : ¬(effN gs.length cs k).2.length + 1 = gs.length := by rw [hnn]; omega
              skip)
           | skip
         refine ol_r (r_move rfl) rfl ?_
         refine ol_nil (to_k0 (fun _ _ h => h) (hK10 ((k + 1, m, L, _, _, _, _, _)) _ _ ?_ ?_ (sub_cons rfl (sub_cons rfl (sub_cons rfl sub_nil))) (sub_cons rfl (sub_cons rfl (sub_cons rfl (sub_cons rfl (sub_cons rfl sub_nil))))) (by exact (subH_row rfl (by first | (dsimp only; first | rfl | (rw [effN_a hx25 hc29]; rfl) | (rw [effN_c hx25 hc29 hin hfull]; rfl) | (rw [effN_d hx25 hc29 hin hfull, encI_snoc]) | (rw [effN_b hx25 hc29 hno]) | (rw [encSl_snoc]); done) | (first | rfl | (rw [effN_a hx25 hc29]; rfl) | (rw [effN_c hx25 hc29 hin hfull]; rfl) | (rw [effN_d hx25 hc29 hin hfull, encI_snoc]) | (rw [effN_b hx25 hc29 hno]) | (rw [encSl_snoc]); done) | (dsimp only; done)) (subH_row rfl (by first | (dsimp only; first | rfl | (rw [effN_a hx25 hc29]; rfl) | (rw [effN_c hx25 hc29 hin hfull]; rfl) | (rw [effN_d hx25 hc29 hin hfull, encI_snoc]) | (rw [effN_b hx25 hc29 hno]) | (rw [encSl_snoc]); done) | (first | rfl | (rw [effN_a hx25 hc29]; rfl) | (rw [effN_c hx25 hc29 hin hfull]; rfl) | (rw [effN_d hx25 hc29 hin hfull, encI_snoc]) | (rw [effN_b hx25 hc29 hno]) | (rw [encSl_snoc]); done) | (dsimp only; done)) subH_nil))) (subH_same rfl (subH_same rfl (subH_same rfl subH_nil))) ?_))
         ·try dsimp only
          exact ⟨by omega, by rw [effN_d hx25 hc29 hin hfull]; exact hL, by rw [effN_d hx25 hc29 hin hfull, List.length_append, hnn]; rfl, hm⟩
         ·try dsimp only
          omega
         ·try dsimp only
          refine subH_inn fun j x hj => ?_
          repeat' refine (look_cons_ne _ _ (by omega)).trans ?_
          exact look_inn hj
       ·refine wp_skip' (to_k0 (fun _ _ h => h) (hK18 _ _ _ _ _ ?_))
        clear hK18
        refine wp_seq' fun K22 hK22 => ?_
        refine wp_reg ?_
        refine ol_r (r_move rfl) rfl ?_
        refine ol_r (r_len rfl sl47) rfl ?_
        refine ol_r (r_fa (o' := 1) rfl fl24_1 rfl) rfl ?_
        refine ol_r (r_ld (id := 2) rfl rfl rfl sc22) rfl ?_
        refine ol_r (r_len rfl sl22) rfl ?_
        refine ol_r (r_eql rfl rfl) rfl ?_
        refine ol_nil (to_k0 (fun _ _ h => h) (hK22 _ _ _ _ _ ?_))
        clear hK22
        refine wp_condD rfl (fun hc53 => ?_) (fun hc53 => ?_)
        ·exfalso
         omega
        ·refine wp_skip' (to_k0 (fun _ _ h => h) (hK13 _ _ _ _ _ ?_))
         clear hK13
         refine wp_reg ?_
         refine ol_r (r_add rfl rfl (by omega)) rfl ?_
         first
           | (have hno : ¬(0 < (effN gs.length cs k).2.length ∧ ((effN gs.length cs k).2.length : Int) = x25.gate) := by rw [hnn]; omega
              skip)
           | (have hfull : ¬(effN gs.length cs k).2.length + 1 = gs.length := by rw [hnn]; omega
              skip)
           | skip
         refine ol_r (r_move rfl) rfl ?_
         refine ol_nil (to_k0 (fun _ _ h => h) (hK10 ((k + 1, m, L, _, _, _, _, _)) _ _ ?_ ?_ (sub_cons rfl (sub_cons rfl (sub_cons rfl sub_nil))) (sub_cons rfl (sub_cons rfl (sub_cons rfl (sub_cons rfl (sub_cons rfl sub_nil))))) (by exact (subH_row rfl (by first | (dsimp only; first | rfl | (rw [effN_a hx25 hc29]; rfl) | (rw [effN_c hx25 hc29 hin hfull]; rfl) | (rw [effN_d hx25 hc29 hin hfull, encI_snoc]) | (rw [effN_b hx25 hc29 hno]) | (rw [encSl_snoc]); done) | (first | rfl | (rw [effN_a hx25 hc29]; rfl) | (rw [effN_c hx25 hc29 hin hfull]; rfl) | (rw [effN_d hx25 hc29 hin hfull, encI_snoc]) | (rw [effN_b hx25 hc29 hno]) | (rw [encSl_snoc]); done) | (dsimp only; done)) (subH_row rfl (by first | (dsimp only; first | rfl | (rw [effN_a hx25 hc29]; rfl) | (rw [effN_c hx25 hc29 hin hfull]; rfl) | (rw [effN_d hx25 hc29 hin hfull, encI_snoc]) | (rw [effN_b hx25 hc29 hno]) | (rw [encSl_snoc]); done) | (first | rfl | (rw [effN_a hx25 hc29]; rfl) | (rw [effN_c hx25 hc29 hin hfull]; rfl) | (rw [effN_d hx25 hc29 hin hfull, encI_snoc]) | (rw [effN_b hx25 hc29 hno]) | (rw [encSl_snoc]); done) | (dsimp only; done)) subH_nil))) (subH_same rfl (subH_same rfl (subH_same rfl subH_nil))) ?_))
         ·try dsimp only
          exact ⟨by omega, by rw [effN_b hx25 hc29 hno]; exact hL, by rw [effN_b hx25 hc29 hno]; exact hnn, hm⟩
         ·try dsimp only
          omega
         ·try dsimp only
          refine subH_inn fun j x hj => ?_
          repeat' refine (look_cons_ne _ _ (by omega)).trans ?_
          exact look_inn hj
      ·have phs36 := hs36; try simp only [decide_eq_true_eq, decide_eq_false_iff_not, Bool.not_eq_true', Bool.not_eq_false', Bool.not_true, Bool.not_false] at phs36
       refine ol_s rfl rfl hs36 rfl ?_
       refine ol_s rfl rfl hs36 rfl ?_
       refine ol_s rfl rfl hs36 rfl ?_
       refine ol_s rfl rfl hs36 rfl ?_
       refine ol_s rfl rfl hs36 rfl ?_
       refine ol_r (r_pickF rfl hs36 rfl) rfl ?_
       refine ol_nil (to_k0 (fun _ _ h => h) (hK19 _ _ _ _ _ ?_))
       clear hK19
       refine wp_condF rfl ?_
       refine wp_skip' (to_k0 (fun _ _ h => h) (hK18 _ _ _ _ _ ?_))
       clear hK18
       refine wp_seq' fun K23 hK23 => ?_
       refine wp_reg ?_
       refine ol_r (r_move rfl) rfl ?_
       refine ol_r (r_len rfl sl47) rfl ?_
       refine ol_r (r_fa (o' := 1) rfl fl24_1 rfl) rfl ?_
       refine ol_r (r_ld (id := 2) rfl rfl rfl sc22) rfl ?_
       refine ol_r (r_len rfl sl22) rfl ?_
       refine ol_r (r_eql rfl rfl) rfl ?_
       refine ol_nil (to_k0 (fun _ _ h => h) (hK23 _ _ _ _ _ ?_))
       clear hK23
       refine wp_condD rfl (fun hc53 => ?_) (fun hc53 => ?_)
       ·exfalso
        omega
       ·refine wp_skip' (to_k0 (fun _ _ h => h) (hK13 _ _ _ _ _ ?_))
        clear hK13
        refine wp_reg ?_
        refine ol_r (r_add rfl rfl (by omega)) rfl ?_
        first
          | (have hno : ¬(0 < (effN gs.length cs k).2.length ∧ ((effN gs.length cs k).2.length : Int) = x25.gate) := by rw [hnn]; omega
             skip)
          | (have hfull : ¬(effN gs.length cs k).2.length + 1 = gs.length := by rw [hnn]; omega
             skip)
          | skip
        refine ol_r (r_move rfl) rfl ?_
        refine ol_nil (to_k0 (fun _ _ h => h) (hK10 ((k + 1, m, L, _, _, _, _, _)) _ _ ?_ ?_ (sub_cons rfl (sub_cons rfl (sub_cons rfl sub_nil))) (sub_cons rfl (sub_cons rfl (sub_cons rfl (sub_cons rfl (sub_cons rfl sub_nil))))) (by exact (subH_row rfl (by first | (dsimp only; first | rfl | (rw [effN_a hx25 hc29]; rfl) | (rw [effN_c hx25 hc29 hin hfull]; rfl) | (rw [effN_d hx25 hc29 hin hfull, encI_snoc]) | (rw [effN_b hx25 hc29 hno]) | (rw [encSl_snoc]); done) | (first | rfl | (rw [effN_a hx25 hc29]; rfl) | (rw [effN_c hx25 hc29 hin hfull]; rfl) | (rw [effN_d hx25 hc29 hin hfull, encI_snoc]) | (rw [effN_b hx25 hc29 hno]) | (rw [encSl_snoc]); done) | (dsimp only; done)) (subH_row rfl (by first | (dsimp only; first | rfl | (rw [effN_a hx25 hc29]; rfl) | (rw [effN_c hx25 hc29 hin hfull]; rfl) | (rw [effN_d hx25 hc29 hin hfull, encI_snoc]) | (rw [effN_b hx25 hc29 hno]) | (rw [encSl_snoc]); done) | (first | rfl | (rw [effN_a hx25 hc29]; rfl) | (rw [effN_c hx25 hc29 hin hfull]; rfl) | (rw [effN_d hx25 hc29 hin hfull, encI_snoc]) | (rw [effN_b hx25 hc29 hno]) | (rw [encSl_snoc]); done) | (dsimp only; done)) subH_nil))) (subH_same rfl (subH_same rfl (subH_same rfl subH_nil))) ?_))
        ·try dsimp only
         exact ⟨by omega, by rw [effN_b hx25 hc29 hno]; exact hL, by rw [effN_b hx25 hc29 hno]; exact hnn, hm⟩
        ·try dsimp only
         omega
        ·try dsimp only
         refine subH_inn fun j x hj => ?_
         repeat' refine (look_cons_ne _ _ (by omega)).trans ?_
         exact look_inn hj
    ·refine wp_exit' (to_k0 (fun _ _ h => h) (hK8 _ _ _ _ _ ?_))
     clear hK8
     refine wp_seq' fun K24 hK24 => ?_
     refine wp_reg ?_
     refine ol_r (r_move rfl) rfl ?_
     refine ol_r (r_assign rfl) rfl ?_
     refine ol_r (r_assign rfl) rfl ?_
     refine ol_nil (to_k0 (fun _ _ h => h) (hK24 _ _ _ _ _ ?_))
     clear hK24
     refine hQ.ret (rvs2 (rv_t rfl) (rv_t rfl)) (fun _ _ h => h) fun w hb hs hB hkd => ?_
     obtain rfl : k = cs.length := by omega
     subst hm
     refine ⟨_, _, L, by rw [effR, if_neg (crossR_0 hc19)], hb, OwnE.num (id := 8) (base := 10000000) (hs.sub (subH_row rfl rfl (subH_inn fun j x hj => ?_))) (by decide) 5 10000000 (by decide), ?_⟩
     · repeat' refine (look_cons_ne _ _ (by omega)).trans ?_
       exact look_inn hj
     · rw [effR, if_neg (crossR_0 hc19)]
       show _ = effL gs.length (crossS gs (stepsL A.d.ss) (stepsL A.d.ss).length)
       rw [hL, effL]
       rw [crossR, if_neg (crossR_0 hc19)] at hcs
       rw [hcs]
end Go.Proofs.Ytbbhcffkleplnaa
