/-
  CheckStream, windows, Best: program and reference.
-/
import Derived.Test.YtafkojlccknicaaStream
namespace Go.Proofs.Ytafkojlccknicaa
open Go Go.RowKit Hx
set_option linter.unusedVariables false
set_option linter.unusedSimpArgs false
set_option maxRecDepth 8000

/-! #### windows, for the function of best -/
def bestV (z : Int) (st : BestS) : List Value := [.int .i64 z, .int .i64 st.sum, .int .i64 st.at_, .bool st.found]
def bcells (z : Int) (st : BestS) : List (Nat × Value) := pairs 0 (bestV z st)
theorem best_step (B b : Nat) (z f s : Int) (st : BestS) (e1 : Ent) (w : World) (hB : B ≤ w.heap.size) (hs : Sat B w [(100, .blk b (bcells z st) 24), (101, e1)]) :
    Calls Try.prog 113 #[.int .i64 f, .int .i64 s, .pointer (some ⟨b, 0, none⟩)] w fun e w' => e = .returned (.tuple #[]) ∧ Below B w w' ∧ Sat B w' [(100, .blk b (bcells z (bstep st f s)) 24), (101, e1)] ∧ B ≤ w'.heap.size ∧ Kd (fun _ => False) w w' := by
  refine enterQ (N := 19) (C := fun _ => False) (H := [(100, .blk b (bcells z st) 24), (101, e1)]) (B := B) (args := [_, _, _]) Try.func113 rfl rfl rfl (hB) (hs) fun Q hQ => ?_
  refine wp_seq' fun K1 hK1 => ?_
  refine wp_reg ?_
  refine ol_r (r_fa (o' := 3) rfl fl24_3 rfl) rfl ?_
  refine ol_r (r_ld (id := 100) rfl rfl rfl sc4) rfl ?_
  refine ol_r (r_not rfl) rfl ?_
  refine ol_r (r_move rfl) rfl ?_
  refine ol_split (d := 8) rfl (fun hs8 => ?_) (fun hs8 => ?_)
  ·have phs8 := hs8; try simp only [decide_eq_true_eq, decide_eq_false_iff_not, Bool.not_eq_true', Bool.not_eq_false', Bool.not_true, Bool.not_false] at phs8
   refine ol_s rfl rfl hs8 rfl ?_
   refine ol_s rfl rfl hs8 rfl ?_
   refine ol_s rfl rfl hs8 rfl ?_
   refine ol_s rfl rfl hs8 rfl ?_
   refine ol_r (r_pickT rfl hs8 rfl) rfl ?_
   refine ol_nil (to_k0 (fun _ _ h => h) (hK1 _ _ _ _ _ ?_))
   clear hK1
   refine wp_condT rfl ?_
   refine wp_reg ?_
   refine ol_r (r_move rfl) rfl ?_
   refine ol_r (r_move rfl) rfl ?_
   refine ol_r (r_fa (o' := 3) rfl fl24_3 rfl) rfl ?_
   refine ol_store (id := 100) rfl rfl rfl rfl sz4 rfl rfl (by first | decide | exact Nat.zero_lt_succ _ | simp) ?_
   refine ol_r (r_fa (o' := 1) rfl fl24_1 rfl) rfl ?_
   refine ol_store (id := 100) rfl rfl rfl rfl sz3 rfl rfl (by first | decide | exact Nat.zero_lt_succ _ | simp) ?_
   refine ol_r (r_fa (o' := 2) rfl fl24_2 rfl) rfl ?_
   refine ol_store (id := 100) rfl rfl rfl rfl sz3 rfl rfl (by first | decide | exact Nat.zero_lt_succ _ | simp) ?_
   refine ol_nil (hQ.fall rvs0 (fun _ _ h => h) fun w hb hs hB hkd => ?_)
   have hst : bstep st f s = ⟨s, f, true⟩ ∨ bstep st f s = st := by unfold bstep; split; exact .inl rfl; exact .inr rfl
   first
     | (have h : bstep st f s = ⟨s, f, true⟩ := by unfold bstep; rw [if_pos (by simp_all)]
        rw [h]
        refine ⟨rfl, hb, hs.sub (subH_blk rfl ?_ (subH_same rfl subH_nil)), hB, hkd⟩
        exact sub_cons rfl (sub_cons rfl (sub_cons rfl (sub_cons rfl sub_nil))))
     | (have h : bstep st f s = st := by unfold bstep; rw [if_neg (by simp_all)]
        rw [h]
        refine ⟨rfl, hb, hs.sub (subH_blk rfl ?_ (subH_same rfl subH_nil)), hB, hkd⟩
        exact sub_cons rfl (sub_cons rfl (sub_cons rfl (sub_cons rfl sub_nil))))
  ·have phs8 := hs8; try simp only [decide_eq_true_eq, decide_eq_false_iff_not, Bool.not_eq_true', Bool.not_eq_false', Bool.not_true, Bool.not_false] at phs8
   refine ol_g rfl rfl hs8 ?_
   refine ol_r (r_move rfl) rfl ?_
   refine ol_g rfl rfl hs8 ?_
   refine ol_r (r_fa (o' := 1) rfl fl24_1 rfl) rfl ?_
   refine ol_g rfl rfl hs8 ?_
   refine ol_r (r_ld (id := 100) rfl rfl rfl sc3) rfl ?_
   refine ol_g rfl rfl hs8 ?_
   refine ol_r (r_gtr rfl rfl) rfl ?_
   refine ol_r (r_pickF rfl hs8 rfl) rfl ?_
   refine ol_nil (to_k0 (fun _ _ h => h) (hK1 _ _ _ _ _ ?_))
   clear hK1
   first | refine wp_condD rfl (fun hc13 => ?_) (fun hc13 => ?_) | refine wp_condN rfl (fun hc13 => ?_) (fun hc13 => ?_) | refine wp_condNB rfl (fun hc13 => ?_) (fun hc13 => ?_) | refine wp_cond' rfl (fun hc13 => ?_) (fun hc13 => ?_)
   ·refine wp_reg ?_
    refine ol_r (r_move rfl) rfl ?_
    refine ol_r (r_move rfl) rfl ?_
    refine ol_r (r_fa (o' := 3) rfl fl24_3 rfl) rfl ?_
    refine ol_store (id := 100) rfl rfl rfl rfl sz4 rfl rfl (by first | decide | exact Nat.zero_lt_succ _ | simp) ?_
    refine ol_r (r_fa (o' := 1) rfl fl24_1 rfl) rfl ?_
    refine ol_store (id := 100) rfl rfl rfl rfl sz3 rfl rfl (by first | decide | exact Nat.zero_lt_succ _ | simp) ?_
    refine ol_r (r_fa (o' := 2) rfl fl24_2 rfl) rfl ?_
    refine ol_store (id := 100) rfl rfl rfl rfl sz3 rfl rfl (by first | decide | exact Nat.zero_lt_succ _ | simp) ?_
    refine ol_nil (hQ.fall rvs0 (fun _ _ h => h) fun w hb hs hB hkd => ?_)
    have hst : bstep st f s = ⟨s, f, true⟩ ∨ bstep st f s = st := by unfold bstep; split; exact .inl rfl; exact .inr rfl
    first
      | (have h : bstep st f s = ⟨s, f, true⟩ := by unfold bstep; rw [if_pos (by simp_all)]
         rw [h]
         refine ⟨rfl, hb, hs.sub (subH_blk rfl ?_ (subH_same rfl subH_nil)), hB, hkd⟩
         exact sub_cons rfl (sub_cons rfl (sub_cons rfl (sub_cons rfl sub_nil))))
      | (have h : bstep st f s = st := by unfold bstep; rw [if_neg (by simp_all)]
         rw [h]
         refine ⟨rfl, hb, hs.sub (subH_blk rfl ?_ (subH_same rfl subH_nil)), hB, hkd⟩
         exact sub_cons rfl (sub_cons rfl (sub_cons rfl (sub_cons rfl sub_nil))))
   ·refine wp_skip' (hQ.fall rvs0 (fun _ _ h => h) fun w hb hs hB hkd => ?_)
    have hst : bstep st f s = ⟨s, f, true⟩ ∨ bstep st f s = st := by unfold bstep; split; exact .inl rfl; exact .inr rfl
    first
      | (have h : bstep st f s = ⟨s, f, true⟩ := by unfold bstep; rw [if_pos (by simp_all)]
         rw [h]
         refine ⟨rfl, hb, hs.sub (subH_blk rfl ?_ (subH_same rfl subH_nil)), hB, hkd⟩
         exact sub_cons rfl (sub_cons rfl (sub_cons rfl (sub_cons rfl sub_nil))))
      | (have h : bstep st f s = st := by unfold bstep; rw [if_neg (by simp_all)]
         rw [h]
         refine ⟨rfl, hb, hs.sub (subH_blk rfl ?_ (subH_same rfl subH_nil)), hB, hkd⟩
         exact sub_cons rfl (sub_cons rfl (sub_cons rfl (sub_cons rfl sub_nil))))
theorem windows_best (B b : Nat) (a : Option Addr) (n cap : Nat) (xs : List Int) (z : Nat) (e1 : Ent) (w : World) (hl : Rd encI B w a n cap xs) (hz : 1 ≤ z ∧ z ≤ 1000000) (hx : streamR xs = 0) (hB : B ≤ w.heap.size)
    (hs : Sat B w [(100, .blk b (bcells z (bestK xs z 0)) 24), (101, e1)]) :
    Calls Try.prog 112 #[.slice a n cap, .int .i64 z, .func (.func 113) #[] #[.pointer (some ⟨b, 0, none⟩)]] w fun e w' =>
      e = .returned (.tuple #[]) ∧ Below B w w' ∧ Sat B w' [(100, .blk b (bcells z (bestK xs z n)) 24), (101, e1)] ∧ B ≤ w'.heap.size ∧ Kd (fun _ => False) w w' := by
  have hn := hl.len
  have hfit := hl.fit
  subst hn
  have hok := streamR_ok hx
  refine enterQ (N := 62) (C := fun _ => False) (H := [(100, .blk b (bcells z (bestK xs z 0)) 24), (101, e1)]) (B := B) (args := [_, _, _]) Try.func112 rfl rfl rfl (hB) (hs) fun Q hQ => ?_
  refine wp_seq' fun K1 hK1 => ?_
  refine wp_reg ?_
  refine ol_r (r_assign rfl) rfl ?_
  refine ol_r (r_assign rfl) rfl ?_
  refine ol_nil (to_k0 (fun _ _ h => h) (hK1 _ _ _ _ _ ?_))
  clear hK1
  refine wp_seq' fun K2 hK2 => ?_
  refine wp_reg ?_
  refine ol_r (r_move rfl) rfl ?_
  refine ol_r (r_len rfl sl22) rfl ?_
  refine ol_r (r_move rfl) rfl ?_
  refine ol_nil (to_k0 (fun _ _ h => h) (hK2 _ _ _ _ _ ?_))
  clear hK2
  refine wp_block' ?_
  apply wp_loopM (σ := Nat × Int × Int × BestS) (fun s => s.1 ≤ xs.length ∧ s.2.1 = pS xs s.1 - pS xs (s.1 - z) ∧ s.2.2.1 = pU xs s.1 - pU xs (s.1 - z) ∧ s.2.2.2 = bestK xs z s.1) (fun s => [(12, .int .i64 s.1), (6, .int .i64 s.2.1), (7, .int .i64 s.2.2.1)]) [(0, _), (1, _), (2, _), (10, _), (11, _)] (fun s => [(100, (.blk b (bcells z s.2.2.2) 24))]) [(101, _)] (fun s => xs.length - s.1) ((0, 0, 0, bestK xs z 0))
  ·try dsimp only
   exact ⟨Nat.zero_le _, by simp [pS_zero], by simp [pU_zero], rfl⟩
  ·exact (sub_cons rfl (sub_cons rfl (sub_cons rfl sub_nil)))
  ·exact (sub_cons rfl (sub_cons rfl (sub_cons rfl (sub_cons rfl (sub_cons rfl sub_nil)))))
  ·exact (subH_same rfl subH_nil)
  ·exact (subH_same rfl subH_nil)
  ·rintro ⟨k, sum, unk, st⟩ ⟨hk, hsum, hunk, hst⟩
   dsimp only at hk hsum hunk hst ⊢
   intro K3 hK3
   refine wp_seq' fun K4 hK4 => ?_
   refine wp_reg ?_
   refine ol_r (r_lss rfl rfl) rfl ?_
   refine ol_nil (to_k0 (fun _ _ h => h) (hK4 _ _ _ _ _ ?_))
   clear hK4
   refine wp_seq' fun K5 hK5 => ?_
   first | refine wp_condD rfl (fun hc13 => ?_) (fun hc13 => ?_) | refine wp_condN rfl (fun hc13 => ?_) (fun hc13 => ?_) | refine wp_condNB rfl (fun hc13 => ?_) (fun hc13 => ?_) | refine wp_cond' rfl (fun hc13 => ?_) (fun hc13 => ?_)
   ·refine wp_skip' (to_k0 (fun _ _ h => h) (hK5 _ _ _ _ _ ?_))
    clear hK5
    refine wp_seq' fun K6 hK6 => ?_
    refine wp_block' ?_
    refine wp_seq' fun K7 hK7 => ?_
    refine wp_reg ?_
    refine ol_r (r_move rfl) rfl ?_
    refine ol_ixr hl rfl rfl sl22 (by omega) rfl fun x15 hx15 => ?_
    try simp only [Int.toNat_natCast] at hx15
    refine ol_r (r_ldw rfl (fun w1 hb1 hs1 hB1 => show Loads _ _ _ _ (.int .i64 x15) from Rd.loads hl ty3 hx15 hb1)) rfl ?_
    refine ol_r (r_assign rfl) rfl ?_
    refine ol_r (r_assign rfl) rfl ?_
    refine ol_nil (to_k0 (fun _ _ h => h) (hK7 _ _ _ _ _ ?_))
    clear hK7
    refine wp_seq' fun K8 hK8 => ?_
    refine wp_reg ?_
    refine ol_r (r_move rfl) rfl ?_
    have q1 := pS_bd hok.1 hok.2 k
    have q2 := pS_bd hok.1 hok.2 (k - z)
    have q3 := pU_bd hok.1 k (xs := xs)
    have q4 := pU_bd hok.1 (k - z) (xs := xs)
    have qx := hok.2 _ (List.mem_of_getElem? hx15)
    have qs := pS_succ hx15
    have qu := pU_succ hx15
    have ep1 := pv_bd qx.2
    have ep2 := nv_bd x15
    refine ol_r (r_move rfl) rfl ?_
    refine ol_r (r_max rfl rfl) rfl ?_
    refine ol_r (r_add rfl rfl (by omega)) rfl ?_
    refine ol_r (r_assign rfl) rfl ?_
    refine ol_nil (to_k0 (fun _ _ h => h) (hK8 _ _ _ _ _ ?_))
    clear hK8
    refine wp_seq' fun K9 hK9 => ?_
    refine wp_seq' fun K10 hK10 => ?_
    refine wp_reg ?_
    refine ol_r (r_move rfl) rfl ?_
    refine ol_r (r_lss rfl rfl) rfl ?_
    refine ol_nil (to_k0 (fun _ _ h => h) (hK10 _ _ _ _ _ ?_))
    clear hK10
    first | refine wp_condD rfl (fun hc22 => ?_) (fun hc22 => ?_) | refine wp_condN rfl (fun hc22 => ?_) (fun hc22 => ?_) | refine wp_condNB rfl (fun hc22 => ?_) (fun hc22 => ?_) | refine wp_cond' rfl (fun hc22 => ?_) (fun hc22 => ?_)
    ·refine wp_reg ?_
     refine ol_r (r_move rfl) rfl ?_
     refine ol_r (r_add rfl rfl (by omega)) rfl ?_
     refine ol_r (r_assign rfl) rfl ?_
     refine ol_nil (to_k0 (fun _ _ h => h) (hK9 _ _ _ _ _ ?_))
     clear hK9
     refine wp_seq' fun K11 hK11 => ?_
     refine wp_seq' fun K12 hK12 => ?_
     refine wp_reg ?_
     refine ol_r (r_move rfl) rfl ?_
     refine ol_r (r_move rfl) rfl ?_
     refine ol_r (r_geq rfl rfl) rfl ?_
     refine ol_nil (to_k0 (fun _ _ h => h) (hK12 _ _ _ _ _ ?_))
     clear hK12
     first | refine wp_condD rfl (fun hc27 => ?_) (fun hc27 => ?_) | refine wp_condN rfl (fun hc27 => ?_) (fun hc27 => ?_) | refine wp_condNB rfl (fun hc27 => ?_) (fun hc27 => ?_) | refine wp_cond' rfl (fun hc27 => ?_) (fun hc27 => ?_)
     ·refine wp_seq' fun K13 hK13 => ?_
      refine wp_reg ?_
      refine ol_r (r_move rfl) rfl ?_
      refine ol_r (r_move rfl) rfl ?_
      refine ol_r (r_move rfl) rfl ?_
      refine ol_r (r_move rfl) rfl ?_
      refine ol_r (r_sub rfl rfl (by omega)) rfl ?_
      refine ol_ixr hl rfl rfl sl22 (by omega) rfl fun x33 hx33 => ?_
      try simp only [Int.toNat_natCast] at hx33
      have hk33 : xs[k - z]? = some x33 := by rw [← hx33]; congr 1; omega
      have r1 := pS_succ hk33
      have r2 := pU_succ hk33
      have r3 := hok.2 _ (List.mem_of_getElem? hk33)
      have r4 := pv_bd r3.2
      refine ol_r (r_ldw rfl (fun w1 hb1 hs1 hB1 => show Loads _ _ _ _ (.int .i64 x33) from Rd.loads hl ty3 hx33 hb1)) rfl ?_
      refine ol_r (r_max rfl rfl) rfl ?_
      refine ol_r (r_sub rfl rfl (by omega)) rfl ?_
      refine ol_r (r_assign rfl) rfl ?_
      refine ol_nil (to_k0 (fun _ _ h => h) (hK13 _ _ _ _ _ ?_))
      clear hK13
      refine wp_seq' fun K14 hK14 => ?_
      refine wp_reg ?_
      refine ol_r (r_move rfl) rfl ?_
      refine ol_r (r_move rfl) rfl ?_
      refine ol_r (r_move rfl) rfl ?_
      refine ol_r (r_sub rfl rfl (by omega)) rfl ?_
      refine ol_ixr hl rfl rfl sl22 (by omega) rfl fun x41 hx41 => ?_
      try simp only [Int.toNat_natCast] at hx41
      have h41 : x41 = x33 := by rw [hx33] at hx41; cases hx41; rfl
      subst h41
      refine ol_r (r_ldw rfl (fun w1 hb1 hs1 hB1 => show Loads _ _ _ _ (.int .i64 x41) from Rd.loads hl ty3 hx41 hb1)) rfl ?_
      refine ol_r (r_lss rfl rfl) rfl ?_
      refine ol_nil (to_k0 (fun _ _ h => h) (hK14 _ _ _ _ _ ?_))
      clear hK14
      first | refine wp_condD rfl (fun hc43 => ?_) (fun hc43 => ?_) | refine wp_condN rfl (fun hc43 => ?_) (fun hc43 => ?_) | refine wp_condNB rfl (fun hc43 => ?_) (fun hc43 => ?_) | refine wp_cond' rfl (fun hc43 => ?_) (fun hc43 => ?_)
      ·refine wp_reg ?_
       refine ol_r (r_move rfl) rfl ?_
       refine ol_r (r_sub rfl rfl (by omega)) rfl ?_
       refine ol_r (r_assign rfl) rfl ?_
       refine ol_nil (to_k0 (fun _ _ h => h) (hK11 _ _ _ _ _ ?_))
       clear hK11
       refine wp_seq' fun K15 hK15 => ?_
       refine wp_reg ?_
       refine ol_r (r_move rfl) rfl ?_
       refine ol_r (r_move rfl) rfl ?_
       refine ol_r (r_sub rfl rfl (by omega)) rfl ?_
       refine ol_r (r_geq rfl rfl) rfl ?_
       refine ol_r (r_move rfl) rfl ?_
       refine ol_split (d := 50) rfl (fun hs50 => ?_) (fun hs50 => ?_)
       ·have phs50 := hs50; try simp only [decide_eq_true_eq, decide_eq_false_iff_not, Bool.not_eq_true', Bool.not_eq_false', Bool.not_true, Bool.not_false] at phs50
        refine ol_g rfl rfl hs50 ?_
        refine ol_r (r_move rfl) rfl ?_
        refine ol_g rfl rfl hs50 ?_
        refine ol_r (r_eql rfl rfl) rfl ?_
        refine ol_r (r_pickT rfl hs50 rfl) rfl ?_
        refine ol_nil (to_k0 (fun _ _ h => h) (hK15 _ _ _ _ _ ?_))
        clear hK15
        first | refine wp_condD rfl (fun hc53 => ?_) (fun hc53 => ?_) | refine wp_condN rfl (fun hc53 => ?_) (fun hc53 => ?_) | refine wp_condNB rfl (fun hc53 => ?_) (fun hc53 => ?_) | refine wp_cond' rfl (fun hc53 => ?_) (fun hc53 => ?_)
        ·refine wp_reg ?_
         refine ol_r (r_move rfl) rfl ?_
         refine ol_r (r_move rfl) rfl ?_
         refine ol_r (r_move rfl) rfl ?_
         refine ol_r (r_sub rfl rfl (by omega)) rfl ?_
         refine ol_r (r_add rfl rfl (by omega)) rfl ?_
         refine ol_r (r_move rfl) rfl ?_
         refine ol_call rfl rfl cb113 rfl (fun w1 hb1 hs1 hB1 => ?_)
         refine Calls.mono (best_step B b z _ _ _ e1 _ hB1 (hs1.sub (subH_same rfl (subH_same rfl subH_nil)))) ?_
         rintro e w2 ⟨rfl, hb2, hs2, hB2, hk2⟩
         refine After.sat rfl hb1 hb2 hs2 hB2 (hk2.imp fun _ h => h.elim) ?_
         clear hk2 hs2 hb2 hB2 hB1 hs1 hb1 w2 w1
         refine ol_nil (to_k0 (fun _ _ h => h) (hK6 _ _ _ _ _ ?_))
         clear hK6
         refine wp_reg ?_
         refine ol_r (r_add rfl rfl (by omega)) rfl ?_
         refine ol_r (r_move rfl) rfl ?_
         refine ol_nil (to_k0 (fun _ _ h => h) (hK3 ((k + 1, _, _, _)) _ _ ?_ ?_ (sub_cons rfl (sub_cons rfl (sub_cons rfl sub_nil))) (sub_cons rfl (sub_cons rfl (sub_cons rfl (sub_cons rfl (sub_cons rfl sub_nil))))) (by exact (subH_same rfl subH_nil)) (subH_same rfl subH_nil)))
         ·try dsimp only
          have p15 : pv x15 = max x15 0 := by unfold pv; split <;> omega
          have n15 : nv x15 = (if x15 < 0 then 1 else 0) := rfl
          first
            | (have n15' := nv_neg hc22; clear n15)
            | (have n15' := nv_nn hc22; clear n15)
          first
            | (exfalso; omega)
            | (have hk1 : k + 1 - z = k - z + 1 := by omega
               have p33 : pv x41 = max x41 0 := by unfold pv; split <;> omega
               skip
               first | have n33' := nv_neg hc43 | have n33' := nv_nn hc43
               refine ⟨by omega, by rw [hk1]; omega, by rw [hk1]; omega, ?_⟩
               first
                 | (rw [bestK_known (by omega) (by rw [hk1]; omega)]; refine congr (congr (congrArg bstep hst) ?_) ?_ <;> first | omega | (rw [hk1]; omega))
                 | (rw [bestK_unknown (by omega) (by rw [hk1]; omega)]; exact hst))
            | (have hk1 : k + 1 - z = k - z := by omega
               refine ⟨by omega, by rw [hk1]; omega, by rw [hk1]; omega, ?_⟩
               first
                 | (rw [bestK_known (by omega) (by rw [hk1]; omega)]; refine congr (congr (congrArg bstep hst) ?_) ?_ <;> first | omega | (rw [hk1]; omega))
                 | (rw [bestK_less (by omega)]; exact hst)
                 | (rw [bestK_unknown (by omega) (by rw [hk1]; omega)]; exact hst))
         ·try dsimp only
          omega
        ·refine wp_skip' (to_k0 (fun _ _ h => h) (hK6 _ _ _ _ _ ?_))
         clear hK6
         refine wp_reg ?_
         refine ol_r (r_add rfl rfl (by omega)) rfl ?_
         refine ol_r (r_move rfl) rfl ?_
         refine ol_nil (to_k0 (fun _ _ h => h) (hK3 ((k + 1, _, _, _)) _ _ ?_ ?_ (sub_cons rfl (sub_cons rfl (sub_cons rfl sub_nil))) (sub_cons rfl (sub_cons rfl (sub_cons rfl (sub_cons rfl (sub_cons rfl sub_nil))))) (by exact (subH_same rfl subH_nil)) (subH_same rfl subH_nil)))
         ·try dsimp only
          have p15 : pv x15 = max x15 0 := by unfold pv; split <;> omega
          have n15 : nv x15 = (if x15 < 0 then 1 else 0) := rfl
          first
            | (have n15' := nv_neg hc22; clear n15)
            | (have n15' := nv_nn hc22; clear n15)
          first
            | (exfalso; omega)
            | (have hk1 : k + 1 - z = k - z + 1 := by omega
               have p33 : pv x41 = max x41 0 := by unfold pv; split <;> omega
               skip
               first | have n33' := nv_neg hc43 | have n33' := nv_nn hc43
               refine ⟨by omega, by rw [hk1]; omega, by rw [hk1]; omega, ?_⟩
               first
                 | (rw [bestK_known (by omega) (by rw [hk1]; omega)]; refine congr (congr (congrArg bstep hst) ?_) ?_ <;> first | omega | (rw [hk1]; omega))
                 | (rw [bestK_unknown (by omega) (by rw [hk1]; omega)]; exact hst))
            | (have hk1 : k + 1 - z = k - z := by omega
               refine ⟨by omega, by rw [hk1]; omega, by rw [hk1]; omega, ?_⟩
               first
                 | (rw [bestK_known (by omega) (by rw [hk1]; omega)]; refine congr (congr (congrArg bstep hst) ?_) ?_ <;> first | omega | (rw [hk1]; omega))
                 | (rw [bestK_less (by omega)]; exact hst)
                 | (rw [bestK_unknown (by omega) (by rw [hk1]; omega)]; exact hst))
         ·try dsimp only
          omega
       ·have phs50 := hs50; try simp only [decide_eq_true_eq, decide_eq_false_iff_not, Bool.not_eq_true', Bool.not_eq_false', Bool.not_true, Bool.not_false] at phs50
        refine ol_s rfl rfl hs50 rfl ?_
        refine ol_s rfl rfl hs50 rfl ?_
        refine ol_r (r_pickF rfl hs50 rfl) rfl ?_
        refine ol_nil (to_k0 (fun _ _ h => h) (hK15 _ _ _ _ _ ?_))
        clear hK15
        refine wp_condF rfl ?_
        refine wp_skip' (to_k0 (fun _ _ h => h) (hK6 _ _ _ _ _ ?_))
        clear hK6
        refine wp_reg ?_
        refine ol_r (r_add rfl rfl (by omega)) rfl ?_
        refine ol_r (r_move rfl) rfl ?_
        refine ol_nil (to_k0 (fun _ _ h => h) (hK3 ((k + 1, _, _, _)) _ _ ?_ ?_ (sub_cons rfl (sub_cons rfl (sub_cons rfl sub_nil))) (sub_cons rfl (sub_cons rfl (sub_cons rfl (sub_cons rfl (sub_cons rfl sub_nil))))) (by exact (subH_same rfl subH_nil)) (subH_same rfl subH_nil)))
        ·try dsimp only
         have p15 : pv x15 = max x15 0 := by unfold pv; split <;> omega
         have n15 : nv x15 = (if x15 < 0 then 1 else 0) := rfl
         first
           | (have n15' := nv_neg hc22; clear n15)
           | (have n15' := nv_nn hc22; clear n15)
         first
           | (exfalso; omega)
           | (have hk1 : k + 1 - z = k - z + 1 := by omega
              have p33 : pv x41 = max x41 0 := by unfold pv; split <;> omega
              skip
              first | have n33' := nv_neg hc43 | have n33' := nv_nn hc43
              refine ⟨by omega, by rw [hk1]; omega, by rw [hk1]; omega, ?_⟩
              first
                | (rw [bestK_known (by omega) (by rw [hk1]; omega)]; refine congr (congr (congrArg bstep hst) ?_) ?_ <;> first | omega | (rw [hk1]; omega))
                | (rw [bestK_unknown (by omega) (by rw [hk1]; omega)]; exact hst))
           | (have hk1 : k + 1 - z = k - z := by omega
              refine ⟨by omega, by rw [hk1]; omega, by rw [hk1]; omega, ?_⟩
              first
                | (rw [bestK_known (by omega) (by rw [hk1]; omega)]; refine congr (congr (congrArg bstep hst) ?_) ?_ <;> first | omega | (rw [hk1]; omega))
                | (rw [bestK_less (by omega)]; exact hst)
                | (rw [bestK_unknown (by omega) (by rw [hk1]; omega)]; exact hst))
        ·try dsimp only
         omega
      ·refine wp_skip' (to_k0 (fun _ _ h => h) (hK11 _ _ _ _ _ ?_))
       clear hK11
       refine wp_seq' fun K16 hK16 => ?_
       refine wp_reg ?_
       refine ol_r (r_move rfl) rfl ?_
       refine ol_r (r_move rfl) rfl ?_
       refine ol_r (r_sub rfl rfl (by omega)) rfl ?_
       refine ol_r (r_geq rfl rfl) rfl ?_
       refine ol_r (r_move rfl) rfl ?_
       refine ol_split (d := 50) rfl (fun hs50 => ?_) (fun hs50 => ?_)
       ·have phs50 := hs50; try simp only [decide_eq_true_eq, decide_eq_false_iff_not, Bool.not_eq_true', Bool.not_eq_false', Bool.not_true, Bool.not_false] at phs50
        refine ol_g rfl rfl hs50 ?_
        refine ol_r (r_move rfl) rfl ?_
        refine ol_g rfl rfl hs50 ?_
        refine ol_r (r_eql rfl rfl) rfl ?_
        refine ol_r (r_pickT rfl hs50 rfl) rfl ?_
        refine ol_nil (to_k0 (fun _ _ h => h) (hK16 _ _ _ _ _ ?_))
        clear hK16
        first | refine wp_condD rfl (fun hc53 => ?_) (fun hc53 => ?_) | refine wp_condN rfl (fun hc53 => ?_) (fun hc53 => ?_) | refine wp_condNB rfl (fun hc53 => ?_) (fun hc53 => ?_) | refine wp_cond' rfl (fun hc53 => ?_) (fun hc53 => ?_)
        ·refine wp_reg ?_
         refine ol_r (r_move rfl) rfl ?_
         refine ol_r (r_move rfl) rfl ?_
         refine ol_r (r_move rfl) rfl ?_
         refine ol_r (r_sub rfl rfl (by omega)) rfl ?_
         refine ol_r (r_add rfl rfl (by omega)) rfl ?_
         refine ol_r (r_move rfl) rfl ?_
         refine ol_call rfl rfl cb113 rfl (fun w1 hb1 hs1 hB1 => ?_)
         refine Calls.mono (best_step B b z _ _ _ e1 _ hB1 (hs1.sub (subH_same rfl (subH_same rfl subH_nil)))) ?_
         rintro e w2 ⟨rfl, hb2, hs2, hB2, hk2⟩
         refine After.sat rfl hb1 hb2 hs2 hB2 (hk2.imp fun _ h => h.elim) ?_
         clear hk2 hs2 hb2 hB2 hB1 hs1 hb1 w2 w1
         refine ol_nil (to_k0 (fun _ _ h => h) (hK6 _ _ _ _ _ ?_))
         clear hK6
         refine wp_reg ?_
         refine ol_r (r_add rfl rfl (by omega)) rfl ?_
         refine ol_r (r_move rfl) rfl ?_
         refine ol_nil (to_k0 (fun _ _ h => h) (hK3 ((k + 1, _, _, _)) _ _ ?_ ?_ (sub_cons rfl (sub_cons rfl (sub_cons rfl sub_nil))) (sub_cons rfl (sub_cons rfl (sub_cons rfl (sub_cons rfl (sub_cons rfl sub_nil))))) (by exact (subH_same rfl subH_nil)) (subH_same rfl subH_nil)))
         ·try dsimp only
          have p15 : pv x15 = max x15 0 := by unfold pv; split <;> omega
          have n15 : nv x15 = (if x15 < 0 then 1 else 0) := rfl
          first
            | (have n15' := nv_neg hc22; clear n15)
            | (have n15' := nv_nn hc22; clear n15)
          first
            | (exfalso; omega)
            | (have hk1 : k + 1 - z = k - z + 1 := by omega
               have p33 : pv x41 = max x41 0 := by unfold pv; split <;> omega
               skip
               first | have n33' := nv_neg hc43 | have n33' := nv_nn hc43
               refine ⟨by omega, by rw [hk1]; omega, by rw [hk1]; omega, ?_⟩
               first
                 | (rw [bestK_known (by omega) (by rw [hk1]; omega)]; refine congr (congr (congrArg bstep hst) ?_) ?_ <;> first | omega | (rw [hk1]; omega))
                 | (rw [bestK_unknown (by omega) (by rw [hk1]; omega)]; exact hst))
            | (have hk1 : k + 1 - z = k - z := by omega
               refine ⟨by omega, by rw [hk1]; omega, by rw [hk1]; omega, ?_⟩
               first
                 | (rw [bestK_known (by omega) (by rw [hk1]; omega)]; refine congr (congr (congrArg bstep hst) ?_) ?_ <;> first | omega | (rw [hk1]; omega))
                 | (rw [bestK_less (by omega)]; exact hst)
                 | (rw [bestK_unknown (by omega) (by rw [hk1]; omega)]; exact hst))
         ·try dsimp only
          omega
        ·refine wp_skip' (to_k0 (fun _ _ h => h) (hK6 _ _ _ _ _ ?_))
         clear hK6
         refine wp_reg ?_
         refine ol_r (r_add rfl rfl (by omega)) rfl ?_
         refine ol_r (r_move rfl) rfl ?_
         refine ol_nil (to_k0 (fun _ _ h => h) (hK3 ((k + 1, _, _, _)) _ _ ?_ ?_ (sub_cons rfl (sub_cons rfl (sub_cons rfl sub_nil))) (sub_cons rfl (sub_cons rfl (sub_cons rfl (sub_cons rfl (sub_cons rfl sub_nil))))) (by exact (subH_same rfl subH_nil)) (subH_same rfl subH_nil)))
         ·try dsimp only
          have p15 : pv x15 = max x15 0 := by unfold pv; split <;> omega
          have n15 : nv x15 = (if x15 < 0 then 1 else 0) := rfl
          first
            | (have n15' := nv_neg hc22; clear n15)
            | (have n15' := nv_nn hc22; clear n15)
          first
            | (exfalso; omega)
            | (have hk1 : k + 1 - z = k - z + 1 := by omega
               have p33 : pv x41 = max x41 0 := by unfold pv; split <;> omega
               skip
               first | have n33' := nv_neg hc43 | have n33' := nv_nn hc43
               refine ⟨by omega, by rw [hk1]; omega, by rw [hk1]; omega, ?_⟩
               first
                 | (rw [bestK_known (by omega) (by rw [hk1]; omega)]; refine congr (congr (congrArg bstep hst) ?_) ?_ <;> first | omega | (rw [hk1]; omega))
                 | (rw [bestK_unknown (by omega) (by rw [hk1]; omega)]; exact hst))
            | (have hk1 : k + 1 - z = k - z := by omega
               refine ⟨by omega, by rw [hk1]; omega, by rw [hk1]; omega, ?_⟩
               first
                 | (rw [bestK_known (by omega) (by rw [hk1]; omega)]; refine congr (congr (congrArg bstep hst) ?_) ?_ <;> first | omega | (rw [hk1]; omega))
                 | (rw [bestK_less (by omega)]; exact hst)
                 | (rw [bestK_unknown (by omega) (by rw [hk1]; omega)]; exact hst))
         ·try dsimp only
          omega
       ·have phs50 := hs50; try simp only [decide_eq_true_eq, decide_eq_false_iff_not, Bool.not_eq_true', Bool.not_eq_false', Bool.not_true, Bool.not_false] at phs50
        refine ol_s rfl rfl hs50 rfl ?_
        refine ol_s rfl rfl hs50 rfl ?_
        refine ol_r (r_pickF rfl hs50 rfl) rfl ?_
        refine ol_nil (to_k0 (fun _ _ h => h) (hK16 _ _ _ _ _ ?_))
        clear hK16
        refine wp_condF rfl ?_
        refine wp_skip' (to_k0 (fun _ _ h => h) (hK6 _ _ _ _ _ ?_))
        clear hK6
        refine wp_reg ?_
        refine ol_r (r_add rfl rfl (by omega)) rfl ?_
        refine ol_r (r_move rfl) rfl ?_
        refine ol_nil (to_k0 (fun _ _ h => h) (hK3 ((k + 1, _, _, _)) _ _ ?_ ?_ (sub_cons rfl (sub_cons rfl (sub_cons rfl sub_nil))) (sub_cons rfl (sub_cons rfl (sub_cons rfl (sub_cons rfl (sub_cons rfl sub_nil))))) (by exact (subH_same rfl subH_nil)) (subH_same rfl subH_nil)))
        ·try dsimp only
         have p15 : pv x15 = max x15 0 := by unfold pv; split <;> omega
         have n15 : nv x15 = (if x15 < 0 then 1 else 0) := rfl
         first
           | (have n15' := nv_neg hc22; clear n15)
           | (have n15' := nv_nn hc22; clear n15)
         first
           | (exfalso; omega)
           | (have hk1 : k + 1 - z = k - z + 1 := by omega
              have p33 : pv x41 = max x41 0 := by unfold pv; split <;> omega
              skip
              first | have n33' := nv_neg hc43 | have n33' := nv_nn hc43
              refine ⟨by omega, by rw [hk1]; omega, by rw [hk1]; omega, ?_⟩
              first
                | (rw [bestK_known (by omega) (by rw [hk1]; omega)]; refine congr (congr (congrArg bstep hst) ?_) ?_ <;> first | omega | (rw [hk1]; omega))
                | (rw [bestK_unknown (by omega) (by rw [hk1]; omega)]; exact hst))
           | (have hk1 : k + 1 - z = k - z := by omega
              refine ⟨by omega, by rw [hk1]; omega, by rw [hk1]; omega, ?_⟩
              first
                | (rw [bestK_known (by omega) (by rw [hk1]; omega)]; refine congr (congr (congrArg bstep hst) ?_) ?_ <;> first | omega | (rw [hk1]; omega))
                | (rw [bestK_less (by omega)]; exact hst)
                | (rw [bestK_unknown (by omega) (by rw [hk1]; omega)]; exact hst))
        ·try dsimp only
         omega
     ·refine wp_skip' (to_k0 (fun _ _ h => h) (hK11 _ _ _ _ _ ?_))
      clear hK11
      refine wp_seq' fun K17 hK17 => ?_
      refine wp_reg ?_
      refine ol_r (r_move rfl) rfl ?_
      refine ol_r (r_move rfl) rfl ?_
      refine ol_r (r_sub rfl rfl (by omega)) rfl ?_
      refine ol_r (r_geq rfl rfl) rfl ?_
      refine ol_r (r_move rfl) rfl ?_
      refine ol_split (d := 50) rfl (fun hs50 => ?_) (fun hs50 => ?_)
      ·have phs50 := hs50; try simp only [decide_eq_true_eq, decide_eq_false_iff_not, Bool.not_eq_true', Bool.not_eq_false', Bool.not_true, Bool.not_false] at phs50
       refine ol_g rfl rfl hs50 ?_
       refine ol_r (r_move rfl) rfl ?_
       refine ol_g rfl rfl hs50 ?_
       refine ol_r (r_eql rfl rfl) rfl ?_
       refine ol_r (r_pickT rfl hs50 rfl) rfl ?_
       refine ol_nil (to_k0 (fun _ _ h => h) (hK17 _ _ _ _ _ ?_))
       clear hK17
       first | refine wp_condD rfl (fun hc53 => ?_) (fun hc53 => ?_) | refine wp_condN rfl (fun hc53 => ?_) (fun hc53 => ?_) | refine wp_condNB rfl (fun hc53 => ?_) (fun hc53 => ?_) | refine wp_cond' rfl (fun hc53 => ?_) (fun hc53 => ?_)
       ·refine wp_reg ?_
        refine ol_r (r_move rfl) rfl ?_
        refine ol_r (r_move rfl) rfl ?_
        refine ol_r (r_move rfl) rfl ?_
        refine ol_r (r_sub rfl rfl (by omega)) rfl ?_
        refine ol_r (r_add rfl rfl (by omega)) rfl ?_
        refine ol_r (r_move rfl) rfl ?_
        refine ol_call rfl rfl cb113 rfl (fun w1 hb1 hs1 hB1 => ?_)
        refine Calls.mono (best_step B b z _ _ _ e1 _ hB1 (hs1.sub (subH_same rfl (subH_same rfl subH_nil)))) ?_
        rintro e w2 ⟨rfl, hb2, hs2, hB2, hk2⟩
        refine After.sat rfl hb1 hb2 hs2 hB2 (hk2.imp fun _ h => h.elim) ?_
        clear hk2 hs2 hb2 hB2 hB1 hs1 hb1 w2 w1
        refine ol_nil (to_k0 (fun _ _ h => h) (hK6 _ _ _ _ _ ?_))
        clear hK6
        refine wp_reg ?_
        refine ol_r (r_add rfl rfl (by omega)) rfl ?_
        refine ol_r (r_move rfl) rfl ?_
        refine ol_nil (to_k0 (fun _ _ h => h) (hK3 ((k + 1, _, _, _)) _ _ ?_ ?_ (sub_cons rfl (sub_cons rfl (sub_cons rfl sub_nil))) (sub_cons rfl (sub_cons rfl (sub_cons rfl (sub_cons rfl (sub_cons rfl sub_nil))))) (by exact (subH_same rfl subH_nil)) (subH_same rfl subH_nil)))
        ·try dsimp only
         have p15 : pv x15 = max x15 0 := by unfold pv; split <;> omega
         have n15 : nv x15 = (if x15 < 0 then 1 else 0) := rfl
         first
           | (have n15' := nv_neg hc22; clear n15)
           | (have n15' := nv_nn hc22; clear n15)
         first
           | (exfalso; omega)
           | (have hk1 : k + 1 - z = k - z + 1 := by omega
              have p33 : pv x41 = max x41 0 := by unfold pv; split <;> omega
              skip
              first | have n33' := nv_neg hc43 | have n33' := nv_nn hc43
              refine ⟨by omega, by rw [hk1]; omega, by rw [hk1]; omega, ?_⟩
              first
                | (rw [bestK_known (by omega) (by rw [hk1]; omega)]; refine congr (congr (congrArg bstep hst) ?_) ?_ <;> first | omega | (rw [hk1]; omega))
                | (rw [bestK_unknown (by omega) (by rw [hk1]; omega)]; exact hst))
           | (have hk1 : k + 1 - z = k - z := by omega
              refine ⟨by omega, by rw [hk1]; omega, by rw [hk1]; omega, ?_⟩
              first
                | (rw [bestK_known (by omega) (by rw [hk1]; omega)]; refine congr (congr (congrArg bstep hst) ?_) ?_ <;> first | omega | (rw [hk1]; omega))
                | (rw [bestK_less (by omega)]; exact hst)
                | (rw [bestK_unknown (by omega) (by rw [hk1]; omega)]; exact hst))
        ·try dsimp only
         omega
       ·refine wp_skip' (to_k0 (fun _ _ h => h) (hK6 _ _ _ _ _ ?_))
        clear hK6
        refine wp_reg ?_
        refine ol_r (r_add rfl rfl (by omega)) rfl ?_
        refine ol_r (r_move rfl) rfl ?_
        refine ol_nil (to_k0 (fun _ _ h => h) (hK3 ((k + 1, _, _, _)) _ _ ?_ ?_ (sub_cons rfl (sub_cons rfl (sub_cons rfl sub_nil))) (sub_cons rfl (sub_cons rfl (sub_cons rfl (sub_cons rfl (sub_cons rfl sub_nil))))) (by exact (subH_same rfl subH_nil)) (subH_same rfl subH_nil)))
        ·try dsimp only
         have p15 : pv x15 = max x15 0 := by unfold pv; split <;> omega
         have n15 : nv x15 = (if x15 < 0 then 1 else 0) := rfl
         first
           | (have n15' := nv_neg hc22; clear n15)
           | (have n15' := nv_nn hc22; clear n15)
         first
           | (exfalso; omega)
           | (have hk1 : k + 1 - z = k - z + 1 := by omega
              have p33 : pv x41 = max x41 0 := by unfold pv; split <;> omega
              skip
              first | have n33' := nv_neg hc43 | have n33' := nv_nn hc43
              refine ⟨by omega, by rw [hk1]; omega, by rw [hk1]; omega, ?_⟩
              first
                | (rw [bestK_known (by omega) (by rw [hk1]; omega)]; refine congr (congr (congrArg bstep hst) ?_) ?_ <;> first | omega | (rw [hk1]; omega))
                | (rw [bestK_unknown (by omega) (by rw [hk1]; omega)]; exact hst))
           | (have hk1 : k + 1 - z = k - z := by omega
              refine ⟨by omega, by rw [hk1]; omega, by rw [hk1]; omega, ?_⟩
              first
                | (rw [bestK_known (by omega) (by rw [hk1]; omega)]; refine congr (congr (congrArg bstep hst) ?_) ?_ <;> first | omega | (rw [hk1]; omega))
                | (rw [bestK_less (by omega)]; exact hst)
                | (rw [bestK_unknown (by omega) (by rw [hk1]; omega)]; exact hst))
        ·try dsimp only
         omega
      ·have phs50 := hs50; try simp only [decide_eq_true_eq, decide_eq_false_iff_not, Bool.not_eq_true', Bool.not_eq_false', Bool.not_true, Bool.not_false] at phs50
       refine ol_s rfl rfl hs50 rfl ?_
       refine ol_s rfl rfl hs50 rfl ?_
       refine ol_r (r_pickF rfl hs50 rfl) rfl ?_
       refine ol_nil (to_k0 (fun _ _ h => h) (hK17 _ _ _ _ _ ?_))
       clear hK17
       refine wp_condF rfl ?_
       refine wp_skip' (to_k0 (fun _ _ h => h) (hK6 _ _ _ _ _ ?_))
       clear hK6
       refine wp_reg ?_
       refine ol_r (r_add rfl rfl (by omega)) rfl ?_
       refine ol_r (r_move rfl) rfl ?_
       refine ol_nil (to_k0 (fun _ _ h => h) (hK3 ((k + 1, _, _, _)) _ _ ?_ ?_ (sub_cons rfl (sub_cons rfl (sub_cons rfl sub_nil))) (sub_cons rfl (sub_cons rfl (sub_cons rfl (sub_cons rfl (sub_cons rfl sub_nil))))) (by exact (subH_same rfl subH_nil)) (subH_same rfl subH_nil)))
       ·try dsimp only
        have p15 : pv x15 = max x15 0 := by unfold pv; split <;> omega
        have n15 : nv x15 = (if x15 < 0 then 1 else 0) := rfl
        first
          | (have n15' := nv_neg hc22; clear n15)
          | (have n15' := nv_nn hc22; clear n15)
        first
          | (exfalso; omega)
          | (have hk1 : k + 1 - z = k - z + 1 := by omega
             have p33 : pv x41 = max x41 0 := by unfold pv; split <;> omega
             skip
             first | have n33' := nv_neg hc43 | have n33' := nv_nn hc43
             refine ⟨by omega, by rw [hk1]; omega, by rw [hk1]; omega, ?_⟩
             first
               | (rw [bestK_known (by omega) (by rw [hk1]; omega)]; refine congr (congr (congrArg bstep hst) ?_) ?_ <;> first | omega | (rw [hk1]; omega))
               | (rw [bestK_unknown (by omega) (by rw [hk1]; omega)]; exact hst))
          | (have hk1 : k + 1 - z = k - z := by omega
             refine ⟨by omega, by rw [hk1]; omega, by rw [hk1]; omega, ?_⟩
             first
               | (rw [bestK_known (by omega) (by rw [hk1]; omega)]; refine congr (congr (congrArg bstep hst) ?_) ?_ <;> first | omega | (rw [hk1]; omega))
               | (rw [bestK_less (by omega)]; exact hst)
               | (rw [bestK_unknown (by omega) (by rw [hk1]; omega)]; exact hst))
       ·try dsimp only
        omega
    ·refine wp_skip' (to_k0 (fun _ _ h => h) (hK9 _ _ _ _ _ ?_))
     clear hK9
     refine wp_seq' fun K18 hK18 => ?_
     refine wp_seq' fun K19 hK19 => ?_
     refine wp_reg ?_
     refine ol_r (r_move rfl) rfl ?_
     refine ol_r (r_move rfl) rfl ?_
     refine ol_r (r_geq rfl rfl) rfl ?_
     refine ol_nil (to_k0 (fun _ _ h => h) (hK19 _ _ _ _ _ ?_))
     clear hK19
     first | refine wp_condD rfl (fun hc27 => ?_) (fun hc27 => ?_) | refine wp_condN rfl (fun hc27 => ?_) (fun hc27 => ?_) | refine wp_condNB rfl (fun hc27 => ?_) (fun hc27 => ?_) | refine wp_cond' rfl (fun hc27 => ?_) (fun hc27 => ?_)
     ·refine wp_seq' fun K20 hK20 => ?_
      refine wp_reg ?_
      refine ol_r (r_move rfl) rfl ?_
      refine ol_r (r_move rfl) rfl ?_
      refine ol_r (r_move rfl) rfl ?_
      refine ol_r (r_move rfl) rfl ?_
      refine ol_r (r_sub rfl rfl (by omega)) rfl ?_
      refine ol_ixr hl rfl rfl sl22 (by omega) rfl fun x33 hx33 => ?_
      try simp only [Int.toNat_natCast] at hx33
      have hk33 : xs[k - z]? = some x33 := by rw [← hx33]; congr 1; omega
      have r1 := pS_succ hk33
      have r2 := pU_succ hk33
      have r3 := hok.2 _ (List.mem_of_getElem? hk33)
      have r4 := pv_bd r3.2
      refine ol_r (r_ldw rfl (fun w1 hb1 hs1 hB1 => show Loads _ _ _ _ (.int .i64 x33) from Rd.loads hl ty3 hx33 hb1)) rfl ?_
      refine ol_r (r_max rfl rfl) rfl ?_
      refine ol_r (r_sub rfl rfl (by omega)) rfl ?_
      refine ol_r (r_assign rfl) rfl ?_
      refine ol_nil (to_k0 (fun _ _ h => h) (hK20 _ _ _ _ _ ?_))
      clear hK20
      refine wp_seq' fun K21 hK21 => ?_
      refine wp_reg ?_
      refine ol_r (r_move rfl) rfl ?_
      refine ol_r (r_move rfl) rfl ?_
      refine ol_r (r_move rfl) rfl ?_
      refine ol_r (r_sub rfl rfl (by omega)) rfl ?_
      refine ol_ixr hl rfl rfl sl22 (by omega) rfl fun x41 hx41 => ?_
      try simp only [Int.toNat_natCast] at hx41
      have h41 : x41 = x33 := by rw [hx33] at hx41; cases hx41; rfl
      subst h41
      refine ol_r (r_ldw rfl (fun w1 hb1 hs1 hB1 => show Loads _ _ _ _ (.int .i64 x41) from Rd.loads hl ty3 hx41 hb1)) rfl ?_
      refine ol_r (r_lss rfl rfl) rfl ?_
      refine ol_nil (to_k0 (fun _ _ h => h) (hK21 _ _ _ _ _ ?_))
      clear hK21
      first | refine wp_condD rfl (fun hc43 => ?_) (fun hc43 => ?_) | refine wp_condN rfl (fun hc43 => ?_) (fun hc43 => ?_) | refine wp_condNB rfl (fun hc43 => ?_) (fun hc43 => ?_) | refine wp_cond' rfl (fun hc43 => ?_) (fun hc43 => ?_)
      ·refine wp_reg ?_
       refine ol_r (r_move rfl) rfl ?_
       refine ol_r (r_sub rfl rfl (by omega)) rfl ?_
       refine ol_r (r_assign rfl) rfl ?_
       refine ol_nil (to_k0 (fun _ _ h => h) (hK18 _ _ _ _ _ ?_))
       clear hK18
       refine wp_seq' fun K22 hK22 => ?_
       refine wp_reg ?_
       refine ol_r (r_move rfl) rfl ?_
       refine ol_r (r_move rfl) rfl ?_
       refine ol_r (r_sub rfl rfl (by omega)) rfl ?_
       refine ol_r (r_geq rfl rfl) rfl ?_
       refine ol_r (r_move rfl) rfl ?_
       refine ol_split (d := 50) rfl (fun hs50 => ?_) (fun hs50 => ?_)
       ·have phs50 := hs50; try simp only [decide_eq_true_eq, decide_eq_false_iff_not, Bool.not_eq_true', Bool.not_eq_false', Bool.not_true, Bool.not_false] at phs50
        refine ol_g rfl rfl hs50 ?_
        refine ol_r (r_move rfl) rfl ?_
        refine ol_g rfl rfl hs50 ?_
        refine ol_r (r_eql rfl rfl) rfl ?_
        refine ol_r (r_pickT rfl hs50 rfl) rfl ?_
        refine ol_nil (to_k0 (fun _ _ h => h) (hK22 _ _ _ _ _ ?_))
        clear hK22
        first | refine wp_condD rfl (fun hc53 => ?_) (fun hc53 => ?_) | refine wp_condN rfl (fun hc53 => ?_) (fun hc53 => ?_) | refine wp_condNB rfl (fun hc53 => ?_) (fun hc53 => ?_) | refine wp_cond' rfl (fun hc53 => ?_) (fun hc53 => ?_)
        ·refine wp_reg ?_
         refine ol_r (r_move rfl) rfl ?_
         refine ol_r (r_move rfl) rfl ?_
         refine ol_r (r_move rfl) rfl ?_
         refine ol_r (r_sub rfl rfl (by omega)) rfl ?_
         refine ol_r (r_add rfl rfl (by omega)) rfl ?_
         refine ol_r (r_move rfl) rfl ?_
         refine ol_call rfl rfl cb113 rfl (fun w1 hb1 hs1 hB1 => ?_)
         refine Calls.mono (best_step B b z _ _ _ e1 _ hB1 (hs1.sub (subH_same rfl (subH_same rfl subH_nil)))) ?_
         rintro e w2 ⟨rfl, hb2, hs2, hB2, hk2⟩
         refine After.sat rfl hb1 hb2 hs2 hB2 (hk2.imp fun _ h => h.elim) ?_
         clear hk2 hs2 hb2 hB2 hB1 hs1 hb1 w2 w1
         refine ol_nil (to_k0 (fun _ _ h => h) (hK6 _ _ _ _ _ ?_))
         clear hK6
         refine wp_reg ?_
         refine ol_r (r_add rfl rfl (by omega)) rfl ?_
         refine ol_r (r_move rfl) rfl ?_
         refine ol_nil (to_k0 (fun _ _ h => h) (hK3 ((k + 1, _, _, _)) _ _ ?_ ?_ (sub_cons rfl (sub_cons rfl (sub_cons rfl sub_nil))) (sub_cons rfl (sub_cons rfl (sub_cons rfl (sub_cons rfl (sub_cons rfl sub_nil))))) (by exact (subH_same rfl subH_nil)) (subH_same rfl subH_nil)))
         ·try dsimp only
          have p15 : pv x15 = max x15 0 := by unfold pv; split <;> omega
          have n15 : nv x15 = (if x15 < 0 then 1 else 0) := rfl
          first
            | (have n15' := nv_neg hc22; clear n15)
            | (have n15' := nv_nn hc22; clear n15)
          first
            | (exfalso; omega)
            | (have hk1 : k + 1 - z = k - z + 1 := by omega
               have p33 : pv x41 = max x41 0 := by unfold pv; split <;> omega
               skip
               first | have n33' := nv_neg hc43 | have n33' := nv_nn hc43
               refine ⟨by omega, by rw [hk1]; omega, by rw [hk1]; omega, ?_⟩
               first
                 | (rw [bestK_known (by omega) (by rw [hk1]; omega)]; refine congr (congr (congrArg bstep hst) ?_) ?_ <;> first | omega | (rw [hk1]; omega))
                 | (rw [bestK_unknown (by omega) (by rw [hk1]; omega)]; exact hst))
            | (have hk1 : k + 1 - z = k - z := by omega
               refine ⟨by omega, by rw [hk1]; omega, by rw [hk1]; omega, ?_⟩
               first
                 | (rw [bestK_known (by omega) (by rw [hk1]; omega)]; refine congr (congr (congrArg bstep hst) ?_) ?_ <;> first | omega | (rw [hk1]; omega))
                 | (rw [bestK_less (by omega)]; exact hst)
                 | (rw [bestK_unknown (by omega) (by rw [hk1]; omega)]; exact hst))
         ·try dsimp only
          omega
        ·refine wp_skip' (to_k0 (fun _ _ h => h) (hK6 _ _ _ _ _ ?_))
         clear hK6
         refine wp_reg ?_
         refine ol_r (r_add rfl rfl (by omega)) rfl ?_
         refine ol_r (r_move rfl) rfl ?_
         refine ol_nil (to_k0 (fun _ _ h => h) (hK3 ((k + 1, _, _, _)) _ _ ?_ ?_ (sub_cons rfl (sub_cons rfl (sub_cons rfl sub_nil))) (sub_cons rfl (sub_cons rfl (sub_cons rfl (sub_cons rfl (sub_cons rfl sub_nil))))) (by exact (subH_same rfl subH_nil)) (subH_same rfl subH_nil)))
         ·try dsimp only
          have p15 : pv x15 = max x15 0 := by unfold pv; split <;> omega
          have n15 : nv x15 = (if x15 < 0 then 1 else 0) := rfl
          first
            | (have n15' := nv_neg hc22; clear n15)
            | (have n15' := nv_nn hc22; clear n15)
          first
            | (exfalso; omega)
            | (have hk1 : k + 1 - z = k - z + 1 := by omega
               have p33 : pv x41 = max x41 0 := by unfold pv; split <;> omega
               skip
               first | have n33' := nv_neg hc43 | have n33' := nv_nn hc43
               refine ⟨by omega, by rw [hk1]; omega, by rw [hk1]; omega, ?_⟩
               first
                 | (rw [bestK_known (by omega) (by rw [hk1]; omega)]; refine congr (congr (congrArg bstep hst) ?_) ?_ <;> first | omega | (rw [hk1]; omega))
                 | (rw [bestK_unknown (by omega) (by rw [hk1]; omega)]; exact hst))
            | (have hk1 : k + 1 - z = k - z := by omega
               refine ⟨by omega, by rw [hk1]; omega, by rw [hk1]; omega, ?_⟩
               first
                 | (rw [bestK_known (by omega) (by rw [hk1]; omega)]; refine congr (congr (congrArg bstep hst) ?_) ?_ <;> first | omega | (rw [hk1]; omega))
                 | (rw [bestK_less (by omega)]; exact hst)
                 | (rw [bestK_unknown (by omega) (by rw [hk1]; omega)]; exact hst))
         ·try dsimp only
          omega
       ·have phs50 := hs50; try simp only [decide_eq_true_eq, decide_eq_false_iff_not, Bool.not_eq_true', Bool.not_eq_false', Bool.not_true, Bool.not_false] at phs50
        refine ol_s rfl rfl hs50 rfl ?_
        refine ol_s rfl rfl hs50 rfl ?_
        refine ol_r (r_pickF rfl hs50 rfl) rfl ?_
        refine ol_nil (to_k0 (fun _ _ h => h) (hK22 _ _ _ _ _ ?_))
        clear hK22
        refine wp_condF rfl ?_
        refine wp_skip' (to_k0 (fun _ _ h => h) (hK6 _ _ _ _ _ ?_))
        clear hK6
        refine wp_reg ?_
        refine ol_r (r_add rfl rfl (by omega)) rfl ?_
        refine ol_r (r_move rfl) rfl ?_
        refine ol_nil (to_k0 (fun _ _ h => h) (hK3 ((k + 1, _, _, _)) _ _ ?_ ?_ (sub_cons rfl (sub_cons rfl (sub_cons rfl sub_nil))) (sub_cons rfl (sub_cons rfl (sub_cons rfl (sub_cons rfl (sub_cons rfl sub_nil))))) (by exact (subH_same rfl subH_nil)) (subH_same rfl subH_nil)))
        ·try dsimp only
         have p15 : pv x15 = max x15 0 := by unfold pv; split <;> omega
         have n15 : nv x15 = (if x15 < 0 then 1 else 0) := rfl
         first
           | (have n15' := nv_neg hc22; clear n15)
           | (have n15' := nv_nn hc22; clear n15)
         first
           | (exfalso; omega)
           | (have hk1 : k + 1 - z = k - z + 1 := by omega
              have p33 : pv x41 = max x41 0 := by unfold pv; split <;> omega
              skip
              first | have n33' := nv_neg hc43 | have n33' := nv_nn hc43
              refine ⟨by omega, by rw [hk1]; omega, by rw [hk1]; omega, ?_⟩
              first
                | (rw [bestK_known (by omega) (by rw [hk1]; omega)]; refine congr (congr (congrArg bstep hst) ?_) ?_ <;> first | omega | (rw [hk1]; omega))
                | (rw [bestK_unknown (by omega) (by rw [hk1]; omega)]; exact hst))
           | (have hk1 : k + 1 - z = k - z := by omega
              refine ⟨by omega, by rw [hk1]; omega, by rw [hk1]; omega, ?_⟩
              first
                | (rw [bestK_known (by omega) (by rw [hk1]; omega)]; refine congr (congr (congrArg bstep hst) ?_) ?_ <;> first | omega | (rw [hk1]; omega))
                | (rw [bestK_less (by omega)]; exact hst)
                | (rw [bestK_unknown (by omega) (by rw [hk1]; omega)]; exact hst))
        ·try dsimp only
         omega
      ·refine wp_skip' (to_k0 (fun _ _ h => h) (hK18 _ _ _ _ _ ?_))
       clear hK18
       refine wp_seq' fun K23 hK23 => ?_
       refine wp_reg ?_
       refine ol_r (r_move rfl) rfl ?_
       refine ol_r (r_move rfl) rfl ?_
       refine ol_r (r_sub rfl rfl (by omega)) rfl ?_
       refine ol_r (r_geq rfl rfl) rfl ?_
       refine ol_r (r_move rfl) rfl ?_
       refine ol_split (d := 50) rfl (fun hs50 => ?_) (fun hs50 => ?_)
       ·have phs50 := hs50; try simp only [decide_eq_true_eq, decide_eq_false_iff_not, Bool.not_eq_true', Bool.not_eq_false', Bool.not_true, Bool.not_false] at phs50
        refine ol_g rfl rfl hs50 ?_
        refine ol_r (r_move rfl) rfl ?_
        refine ol_g rfl rfl hs50 ?_
        refine ol_r (r_eql rfl rfl) rfl ?_
        refine ol_r (r_pickT rfl hs50 rfl) rfl ?_
        refine ol_nil (to_k0 (fun _ _ h => h) (hK23 _ _ _ _ _ ?_))
        clear hK23
        first | refine wp_condD rfl (fun hc53 => ?_) (fun hc53 => ?_) | refine wp_condN rfl (fun hc53 => ?_) (fun hc53 => ?_) | refine wp_condNB rfl (fun hc53 => ?_) (fun hc53 => ?_) | refine wp_cond' rfl (fun hc53 => ?_) (fun hc53 => ?_)
        ·refine wp_reg ?_
         refine ol_r (r_move rfl) rfl ?_
         refine ol_r (r_move rfl) rfl ?_
         refine ol_r (r_move rfl) rfl ?_
         refine ol_r (r_sub rfl rfl (by omega)) rfl ?_
         refine ol_r (r_add rfl rfl (by omega)) rfl ?_
         refine ol_r (r_move rfl) rfl ?_
         refine ol_call rfl rfl cb113 rfl (fun w1 hb1 hs1 hB1 => ?_)
         refine Calls.mono (best_step B b z _ _ _ e1 _ hB1 (hs1.sub (subH_same rfl (subH_same rfl subH_nil)))) ?_
         rintro e w2 ⟨rfl, hb2, hs2, hB2, hk2⟩
         refine After.sat rfl hb1 hb2 hs2 hB2 (hk2.imp fun _ h => h.elim) ?_
         clear hk2 hs2 hb2 hB2 hB1 hs1 hb1 w2 w1
         refine ol_nil (to_k0 (fun _ _ h => h) (hK6 _ _ _ _ _ ?_))
         clear hK6
         refine wp_reg ?_
         refine ol_r (r_add rfl rfl (by omega)) rfl ?_
         refine ol_r (r_move rfl) rfl ?_
         refine ol_nil (to_k0 (fun _ _ h => h) (hK3 ((k + 1, _, _, _)) _ _ ?_ ?_ (sub_cons rfl (sub_cons rfl (sub_cons rfl sub_nil))) (sub_cons rfl (sub_cons rfl (sub_cons rfl (sub_cons rfl (sub_cons rfl sub_nil))))) (by exact (subH_same rfl subH_nil)) (subH_same rfl subH_nil)))
         ·try dsimp only
          have p15 : pv x15 = max x15 0 := by unfold pv; split <;> omega
          have n15 : nv x15 = (if x15 < 0 then 1 else 0) := rfl
          first
            | (have n15' := nv_neg hc22; clear n15)
            | (have n15' := nv_nn hc22; clear n15)
          first
            | (exfalso; omega)
            | (have hk1 : k + 1 - z = k - z + 1 := by omega
               have p33 : pv x41 = max x41 0 := by unfold pv; split <;> omega
               skip
               first | have n33' := nv_neg hc43 | have n33' := nv_nn hc43
               refine ⟨by omega, by rw [hk1]; omega, by rw [hk1]; omega, ?_⟩
               first
                 | (rw [bestK_known (by omega) (by rw [hk1]; omega)]; refine congr (congr (congrArg bstep hst) ?_) ?_ <;> first | omega | (rw [hk1]; omega))
                 | (rw [bestK_unknown (by omega) (by rw [hk1]; omega)]; exact hst))
            | (have hk1 : k + 1 - z = k - z := by omega
               refine ⟨by omega, by rw [hk1]; omega, by rw [hk1]; omega, ?_⟩
               first
                 | (rw [bestK_known (by omega) (by rw [hk1]; omega)]; refine congr (congr (congrArg bstep hst) ?_) ?_ <;> first | omega | (rw [hk1]; omega))
                 | (rw [bestK_less (by omega)]; exact hst)
                 | (rw [bestK_unknown (by omega) (by rw [hk1]; omega)]; exact hst))
         ·try dsimp only
          omega
        ·refine wp_skip' (to_k0 (fun _ _ h => h) (hK6 _ _ _ _ _ ?_))
         clear hK6
         refine wp_reg ?_
         refine ol_r (r_add rfl rfl (by omega)) rfl ?_
         refine ol_r (r_move rfl) rfl ?_
         refine ol_nil (to_k0 (fun _ _ h => h) (hK3 ((k + 1, _, _, _)) _ _ ?_ ?_ (sub_cons rfl (sub_cons rfl (sub_cons rfl sub_nil))) (sub_cons rfl (sub_cons rfl (sub_cons rfl (sub_cons rfl (sub_cons rfl sub_nil))))) (by exact (subH_same rfl subH_nil)) (subH_same rfl subH_nil)))
         ·try dsimp only
          have p15 : pv x15 = max x15 0 := by unfold pv; split <;> omega
          have n15 : nv x15 = (if x15 < 0 then 1 else 0) := rfl
          first
            | (have n15' := nv_neg hc22; clear n15)
            | (have n15' := nv_nn hc22; clear n15)
          first
            | (exfalso; omega)
            | (have hk1 : k + 1 - z = k - z + 1 := by omega
               have p33 : pv x41 = max x41 0 := by unfold pv; split <;> omega
               skip
               first | have n33' := nv_neg hc43 | have n33' := nv_nn hc43
               refine ⟨by omega, by rw [hk1]; omega, by rw [hk1]; omega, ?_⟩
               first
                 | (rw [bestK_known (by omega) (by rw [hk1]; omega)]; refine congr (congr (congrArg bstep hst) ?_) ?_ <;> first | omega | (rw [hk1]; omega))
                 | (rw [bestK_unknown (by omega) (by rw [hk1]; omega)]; exact hst))
            | (have hk1 : k + 1 - z = k - z := by omega
               refine ⟨by omega, by rw [hk1]; omega, by rw [hk1]; omega, ?_⟩
               first
                 | (rw [bestK_known (by omega) (by rw [hk1]; omega)]; refine congr (congr (congrArg bstep hst) ?_) ?_ <;> first | omega | (rw [hk1]; omega))
                 | (rw [bestK_less (by omega)]; exact hst)
                 | (rw [bestK_unknown (by omega) (by rw [hk1]; omega)]; exact hst))
         ·try dsimp only
          omega
       ·have phs50 := hs50; try simp only [decide_eq_true_eq, decide_eq_false_iff_not, Bool.not_eq_true', Bool.not_eq_false', Bool.not_true, Bool.not_false] at phs50
        refine ol_s rfl rfl hs50 rfl ?_
        refine ol_s rfl rfl hs50 rfl ?_
        refine ol_r (r_pickF rfl hs50 rfl) rfl ?_
        refine ol_nil (to_k0 (fun _ _ h => h) (hK23 _ _ _ _ _ ?_))
        clear hK23
        refine wp_condF rfl ?_
        refine wp_skip' (to_k0 (fun _ _ h => h) (hK6 _ _ _ _ _ ?_))
        clear hK6
        refine wp_reg ?_
        refine ol_r (r_add rfl rfl (by omega)) rfl ?_
        refine ol_r (r_move rfl) rfl ?_
        refine ol_nil (to_k0 (fun _ _ h => h) (hK3 ((k + 1, _, _, _)) _ _ ?_ ?_ (sub_cons rfl (sub_cons rfl (sub_cons rfl sub_nil))) (sub_cons rfl (sub_cons rfl (sub_cons rfl (sub_cons rfl (sub_cons rfl sub_nil))))) (by exact (subH_same rfl subH_nil)) (subH_same rfl subH_nil)))
        ·try dsimp only
         have p15 : pv x15 = max x15 0 := by unfold pv; split <;> omega
         have n15 : nv x15 = (if x15 < 0 then 1 else 0) := rfl
         first
           | (have n15' := nv_neg hc22; clear n15)
           | (have n15' := nv_nn hc22; clear n15)
         first
           | (exfalso; omega)
           | (have hk1 : k + 1 - z = k - z + 1 := by omega
              have p33 : pv x41 = max x41 0 := by unfold pv; split <;> omega
              skip
              first | have n33' := nv_neg hc43 | have n33' := nv_nn hc43
              refine ⟨by omega, by rw [hk1]; omega, by rw [hk1]; omega, ?_⟩
              first
                | (rw [bestK_known (by omega) (by rw [hk1]; omega)]; refine congr (congr (congrArg bstep hst) ?_) ?_ <;> first | omega | (rw [hk1]; omega))
                | (rw [bestK_unknown (by omega) (by rw [hk1]; omega)]; exact hst))
           | (have hk1 : k + 1 - z = k - z := by omega
              refine ⟨by omega, by rw [hk1]; omega, by rw [hk1]; omega, ?_⟩
              first
                | (rw [bestK_known (by omega) (by rw [hk1]; omega)]; refine congr (congr (congrArg bstep hst) ?_) ?_ <;> first | omega | (rw [hk1]; omega))
                | (rw [bestK_less (by omega)]; exact hst)
                | (rw [bestK_unknown (by omega) (by rw [hk1]; omega)]; exact hst))
        ·try dsimp only
         omega
     ·refine wp_skip' (to_k0 (fun _ _ h => h) (hK18 _ _ _ _ _ ?_))
      clear hK18
      refine wp_seq' fun K24 hK24 => ?_
      refine wp_reg ?_
      refine ol_r (r_move rfl) rfl ?_
      refine ol_r (r_move rfl) rfl ?_
      refine ol_r (r_sub rfl rfl (by omega)) rfl ?_
      refine ol_r (r_geq rfl rfl) rfl ?_
      refine ol_r (r_move rfl) rfl ?_
      refine ol_split (d := 50) rfl (fun hs50 => ?_) (fun hs50 => ?_)
      ·have phs50 := hs50; try simp only [decide_eq_true_eq, decide_eq_false_iff_not, Bool.not_eq_true', Bool.not_eq_false', Bool.not_true, Bool.not_false] at phs50
       refine ol_g rfl rfl hs50 ?_
       refine ol_r (r_move rfl) rfl ?_
       refine ol_g rfl rfl hs50 ?_
       refine ol_r (r_eql rfl rfl) rfl ?_
       refine ol_r (r_pickT rfl hs50 rfl) rfl ?_
       refine ol_nil (to_k0 (fun _ _ h => h) (hK24 _ _ _ _ _ ?_))
       clear hK24
       first | refine wp_condD rfl (fun hc53 => ?_) (fun hc53 => ?_) | refine wp_condN rfl (fun hc53 => ?_) (fun hc53 => ?_) | refine wp_condNB rfl (fun hc53 => ?_) (fun hc53 => ?_) | refine wp_cond' rfl (fun hc53 => ?_) (fun hc53 => ?_)
       ·refine wp_reg ?_
        refine ol_r (r_move rfl) rfl ?_
        refine ol_r (r_move rfl) rfl ?_
        refine ol_r (r_move rfl) rfl ?_
        refine ol_r (r_sub rfl rfl (by omega)) rfl ?_
        refine ol_r (r_add rfl rfl (by omega)) rfl ?_
        refine ol_r (r_move rfl) rfl ?_
        refine ol_call rfl rfl cb113 rfl (fun w1 hb1 hs1 hB1 => ?_)
        refine Calls.mono (best_step B b z _ _ _ e1 _ hB1 (hs1.sub (subH_same rfl (subH_same rfl subH_nil)))) ?_
        rintro e w2 ⟨rfl, hb2, hs2, hB2, hk2⟩
        refine After.sat rfl hb1 hb2 hs2 hB2 (hk2.imp fun _ h => h.elim) ?_
        clear hk2 hs2 hb2 hB2 hB1 hs1 hb1 w2 w1
        refine ol_nil (to_k0 (fun _ _ h => h) (hK6 _ _ _ _ _ ?_))
        clear hK6
        refine wp_reg ?_
        refine ol_r (r_add rfl rfl (by omega)) rfl ?_
        refine ol_r (r_move rfl) rfl ?_
        refine ol_nil (to_k0 (fun _ _ h => h) (hK3 ((k + 1, _, _, _)) _ _ ?_ ?_ (sub_cons rfl (sub_cons rfl (sub_cons rfl sub_nil))) (sub_cons rfl (sub_cons rfl (sub_cons rfl (sub_cons rfl (sub_cons rfl sub_nil))))) (by exact (subH_same rfl subH_nil)) (subH_same rfl subH_nil)))
        ·try dsimp only
         have p15 : pv x15 = max x15 0 := by unfold pv; split <;> omega
         have n15 : nv x15 = (if x15 < 0 then 1 else 0) := rfl
         first
           | (have n15' := nv_neg hc22; clear n15)
           | (have n15' := nv_nn hc22; clear n15)
         first
           | (exfalso; omega)
           | (have hk1 : k + 1 - z = k - z + 1 := by omega
              have p33 : pv x41 = max x41 0 := by unfold pv; split <;> omega
              skip
              first | have n33' := nv_neg hc43 | have n33' := nv_nn hc43
              refine ⟨by omega, by rw [hk1]; omega, by rw [hk1]; omega, ?_⟩
              first
                | (rw [bestK_known (by omega) (by rw [hk1]; omega)]; refine congr (congr (congrArg bstep hst) ?_) ?_ <;> first | omega | (rw [hk1]; omega))
                | (rw [bestK_unknown (by omega) (by rw [hk1]; omega)]; exact hst))
           | (have hk1 : k + 1 - z = k - z := by omega
              refine ⟨by omega, by rw [hk1]; omega, by rw [hk1]; omega, ?_⟩
              first
                | (rw [bestK_known (by omega) (by rw [hk1]; omega)]; refine congr (congr (congrArg bstep hst) ?_) ?_ <;> first | omega | (rw [hk1]; omega))
                | (rw [bestK_less (by omega)]; exact hst)
                | (rw [bestK_unknown (by omega) (by rw [hk1]; omega)]; exact hst))
        ·try dsimp only
         omega
       ·refine wp_skip' (to_k0 (fun _ _ h => h) (hK6 _ _ _ _ _ ?_))
        clear hK6
        refine wp_reg ?_
        refine ol_r (r_add rfl rfl (by omega)) rfl ?_
        refine ol_r (r_move rfl) rfl ?_
        refine ol_nil (to_k0 (fun _ _ h => h) (hK3 ((k + 1, _, _, _)) _ _ ?_ ?_ (sub_cons rfl (sub_cons rfl (sub_cons rfl sub_nil))) (sub_cons rfl (sub_cons rfl (sub_cons rfl (sub_cons rfl (sub_cons rfl sub_nil))))) (by exact (subH_same rfl subH_nil)) (subH_same rfl subH_nil)))
        ·try dsimp only
         have p15 : pv x15 = max x15 0 := by unfold pv; split <;> omega
         have n15 : nv x15 = (if x15 < 0 then 1 else 0) := rfl
         first
           | (have n15' := nv_neg hc22; clear n15)
           | (have n15' := nv_nn hc22; clear n15)
         first
           | (exfalso; omega)
           | (have hk1 : k + 1 - z = k - z + 1 := by omega
              have p33 : pv x41 = max x41 0 := by unfold pv; split <;> omega
              skip
              first | have n33' := nv_neg hc43 | have n33' := nv_nn hc43
              refine ⟨by omega, by rw [hk1]; omega, by rw [hk1]; omega, ?_⟩
              first
                | (rw [bestK_known (by omega) (by rw [hk1]; omega)]; refine congr (congr (congrArg bstep hst) ?_) ?_ <;> first | omega | (rw [hk1]; omega))
                | (rw [bestK_unknown (by omega) (by rw [hk1]; omega)]; exact hst))
           | (have hk1 : k + 1 - z = k - z := by omega
              refine ⟨by omega, by rw [hk1]; omega, by rw [hk1]; omega, ?_⟩
              first
                | (rw [bestK_known (by omega) (by rw [hk1]; omega)]; refine congr (congr (congrArg bstep hst) ?_) ?_ <;> first | omega | (rw [hk1]; omega))
                | (rw [bestK_less (by omega)]; exact hst)
                | (rw [bestK_unknown (by omega) (by rw [hk1]; omega)]; exact hst))
        ·try dsimp only
         omega
      ·have phs50 := hs50; try simp only [decide_eq_true_eq, decide_eq_false_iff_not, Bool.not_eq_true', Bool.not_eq_false', Bool.not_true, Bool.not_false] at phs50
       refine ol_s rfl rfl hs50 rfl ?_
       refine ol_s rfl rfl hs50 rfl ?_
       refine ol_r (r_pickF rfl hs50 rfl) rfl ?_
       refine ol_nil (to_k0 (fun _ _ h => h) (hK24 _ _ _ _ _ ?_))
       clear hK24
       refine wp_condF rfl ?_
       refine wp_skip' (to_k0 (fun _ _ h => h) (hK6 _ _ _ _ _ ?_))
       clear hK6
       refine wp_reg ?_
       refine ol_r (r_add rfl rfl (by omega)) rfl ?_
       refine ol_r (r_move rfl) rfl ?_
       refine ol_nil (to_k0 (fun _ _ h => h) (hK3 ((k + 1, _, _, _)) _ _ ?_ ?_ (sub_cons rfl (sub_cons rfl (sub_cons rfl sub_nil))) (sub_cons rfl (sub_cons rfl (sub_cons rfl (sub_cons rfl (sub_cons rfl sub_nil))))) (by exact (subH_same rfl subH_nil)) (subH_same rfl subH_nil)))
       ·try dsimp only
        have p15 : pv x15 = max x15 0 := by unfold pv; split <;> omega
        have n15 : nv x15 = (if x15 < 0 then 1 else 0) := rfl
        first
          | (have n15' := nv_neg hc22; clear n15)
          | (have n15' := nv_nn hc22; clear n15)
        first
          | (exfalso; omega)
          | (have hk1 : k + 1 - z = k - z + 1 := by omega
             have p33 : pv x41 = max x41 0 := by unfold pv; split <;> omega
             skip
             first | have n33' := nv_neg hc43 | have n33' := nv_nn hc43
             refine ⟨by omega, by rw [hk1]; omega, by rw [hk1]; omega, ?_⟩
             first
               | (rw [bestK_known (by omega) (by rw [hk1]; omega)]; refine congr (congr (congrArg bstep hst) ?_) ?_ <;> first | omega | (rw [hk1]; omega))
               | (rw [bestK_unknown (by omega) (by rw [hk1]; omega)]; exact hst))
          | (have hk1 : k + 1 - z = k - z := by omega
             refine ⟨by omega, by rw [hk1]; omega, by rw [hk1]; omega, ?_⟩
             first
               | (rw [bestK_known (by omega) (by rw [hk1]; omega)]; refine congr (congr (congrArg bstep hst) ?_) ?_ <;> first | omega | (rw [hk1]; omega))
               | (rw [bestK_less (by omega)]; exact hst)
               | (rw [bestK_unknown (by omega) (by rw [hk1]; omega)]; exact hst))
       ·try dsimp only
        omega
   ·refine wp_exit' (hQ.fall rvs0 (fun _ _ h => h) fun w hb hs hB hkd => ?_)
    refine ⟨rfl, hb, hs.sub ?_, hB, hkd⟩
    have hkn : k = xs.length := by omega
    subst hkn
    rw [← hst]
    exact subH_same rfl (subH_same rfl subH_nil)
theorem effort_best (a : Option Addr) (n cap : Nat) (xs : List Int) (z : Nat) (w : World) (hl : Rd encI w.heap.size w a n cap xs) (hz : 1 ≤ z ∧ z ≤ 1000000) (hx : streamR xs = 0) :
    Calls Try.prog 70 #[.slice a n cap, .int .i64 z] w fun e w' => e = .returned (.agg (bestV z (bestK xs z n)).toArray) ∧ Below w.heap.size w w' := by
  have h0 : bestK xs z 0 = ⟨0, 0, false⟩ := by unfold bestK; rw [show 0 + 1 - z = 0 by omega]; rfl
  refine enterQ (N := 13) (C := fun _ => True) (H := []) (B := w.heap.size) (args := [_, _]) Try.func70 rfl rfl rfl (Nat.le_refl _) (Sat.nil _ _) fun Q hQ => ?_
  refine wp_seq' fun K1 hK1 => ?_
  refine wp_reg ?_
  refine ol_alloc 4 z24 rfl fun b4 => ?_
  refine ol_nil (to_k0 (fun _ _ h => h) (hK1 _ _ _ _ _ ?_))
  clear hK1
  refine wp_seq' fun K2 hK2 => ?_
  refine wp_reg ?_
  refine ol_r (r_move rfl) rfl ?_
  refine ol_r (r_build rfl (fun _ => bd24_0 _ _)) rfl ?_
  refine ol_alloc 5 z24 rfl fun b5 => ?_
  refine ol_store (id := 5) rfl rfl rfl rfl sz24 rfl rfl (by first | decide | exact Nat.zero_lt_succ _ | simp) ?_
  refine ol_nil (to_k0 (fun _ _ h => h) (hK2 _ _ _ _ _ ?_))
  clear hK2
  refine wp_seq' fun K3 hK3 => ?_
  refine wp_reg ?_
  refine ol_r (r_move rfl) rfl ?_
  refine ol_r (r_move rfl) rfl ?_
  refine ol_r (r_func rfl) rfl ?_
  refine ol_call rfl rfl cb112 rfl (fun w1 hb1 hs1 hB1 => ?_)
  refine Calls.mono (windows_best w.heap.size b5 a n cap xs z (.blk b4 (bcells 0 ⟨0, 0, false⟩) 24) _ (hl.below hb1) hz hx hB1 (hs1.two 5 4 100 101 (by decide) rfl rfl ⟨rfl, rfl, by rw [h0]; exact Sub.out (sub_cons rfl (sub_cons rfl (sub_cons rfl (sub_cons rfl sub_nil))))⟩ ⟨rfl, rfl, Sub.out (sub_cons rfl (sub_cons rfl (sub_cons rfl (sub_cons rfl sub_nil))))⟩)) ?_
  rintro e w2 ⟨rfl, hb2, hs2, hB2, hk2⟩
  refine After.sat rfl hb1 hb2 (hs2.two 100 101 5 4 (by decide) rfl rfl (Ent.le_refl _) (Ent.le_refl _)) hB2 (hk2.imp fun _ h => h.elim) ?_
  clear hk2 hs2 hb2 hB2 hB1 hs1 hb1 w2 w1
  refine ol_nil (to_k0 (fun _ _ h => h) (hK3 _ _ _ _ _ ?_))
  clear hK3
  refine wp_seq' fun K4 hK4 => ?_
  refine wp_reg ?_
  refine ol_r (r_lda (id := 5) (n := 4) rfl rfl rfl ag24) rfl ?_
  refine ol_store (id := 4) rfl rfl rfl rfl sz24 rfl rfl (by first | decide | exact Nat.zero_lt_succ _ | simp) ?_
  refine ol_nil (to_k0 (fun _ _ h => h) (hK4 _ _ _ _ _ ?_))
  clear hK4
  refine hQ.ret (rvs1 (rv_c (id := 4) (n := 4) rfl rfl ag24 rfl)) (fun _ _ h => h) fun w hb hs hB hkd => ?_
  exact ⟨rfl, hb⟩
def bestR (xs : List Int) (size : Int) : BestS × Int × Int :=
  if streamR xs ≠ 0 then (⟨0, 0, false⟩, 0, streamR xs) else if inB size 1 1000000 = true then (bestK xs size.toNat xs.length, size, 0) else (⟨0, 0, false⟩, 0, 9)
theorem effort_Best (a : Option Addr) (n cap : Nat) (xs : List Int) (size : Int) (w : World) (hl : Rd encI w.heap.size w a n cap xs) :
    Calls Try.prog 14 #[.slice a n cap, .int .i64 size] w fun e w' => e = .returned (.tuple #[.agg (bestV (bestR xs size).2.1 (bestR xs size).1).toArray, .int .i64 (bestR xs size).2.2]) ∧ Below w.heap.size w w' := by
  have hn := hl.len
  subst hn
  refine enterQ (N := 20) (C := fun _ => True) (H := []) (B := w.heap.size) (args := [_, _]) Try.func14 rfl rfl rfl (Nat.le_refl _) (Sat.nil _ _) fun Q hQ => ?_
  refine wp_seq' fun K1 hK1 => ?_
  refine wp_reg ?_
  refine ol_alloc 4 z24 rfl fun b4 => ?_
  refine ol_r (r_assign rfl) rfl ?_
  refine ol_nil (to_k0 (fun _ _ h => h) (hK1 _ _ _ _ _ ?_))
  clear hK1
  refine wp_seq' fun K2 hK2 => ?_
  refine wp_seq' fun K3 hK3 => ?_
  refine wp_reg ?_
  refine ol_r (r_move rfl) rfl ?_
  refine ol_call rfl rfl cb20 rfl (fun w1 hb1 hs1 hB1 => Calls.mono (effort_CheckStream _ _ _ xs _ (hl.at hb1 hB1)) ?_)
  rintro e w2 ⟨rfl, hb2⟩
  refine After.below rfl hb1 hs1 hB1 hb2 ?_
  clear hb2 hB1 hs1 hb1 w2 w1
  refine ol_r (r_assign rfl) rfl ?_
  refine ol_nil (to_k0 (fun _ _ h => h) (hK3 _ _ _ _ _ ?_))
  clear hK3
  refine wp_seq' fun K4 hK4 => ?_
  refine wp_reg ?_
  refine ol_r (r_move rfl) rfl ?_
  refine ol_r (r_neq rfl rfl) rfl ?_
  refine ol_nil (to_k0 (fun _ _ h => h) (hK4 _ _ _ _ _ ?_))
  clear hK4
  first | refine wp_condD rfl (fun hc10 => ?_) (fun hc10 => ?_) | refine wp_condN rfl (fun hc10 => ?_) (fun hc10 => ?_) | refine wp_condNB rfl (fun hc10 => ?_) (fun hc10 => ?_) | refine wp_cond' rfl (fun hc10 => ?_) (fun hc10 => ?_)
  ·refine wp_seq' fun K5 hK5 => ?_
   refine wp_reg ?_
   refine ol_r (r_build rfl (fun _ => bd24 _)) rfl ?_
   refine ol_r (r_move rfl) rfl ?_
   refine ol_store (id := 4) rfl rfl rfl rfl sz24 rfl rfl (by first | decide | exact Nat.zero_lt_succ _ | simp) ?_
   refine ol_r (r_assign rfl) rfl ?_
   refine ol_nil (to_k0 (fun _ _ h => h) (hK5 _ _ _ _ _ ?_))
   clear hK5
   refine hQ.ret (rvs2 (rv_c (id := 4) (n := 4) rfl rfl ag24 rfl) (rv_t rfl)) (fun _ _ h => h) fun w hb hs hB hkd => ?_
   first
     | (refine ⟨?_, hb⟩; unfold bestR; rw [if_pos hc10]; rfl; done)
     | (refine ⟨?_, hb⟩; unfold bestR; rw [if_neg hc10, if_neg (by simpa using hc15)]; rfl; done)
     | (refine ⟨?_, hb⟩; unfold bestR; rw [if_neg hc10, if_pos (by simpa using hc15)]; rfl; done)
  ·refine wp_skip' (to_k0 (fun _ _ h => h) (hK2 _ _ _ _ _ ?_))
   clear hK2
   refine wp_seq' fun K6 hK6 => ?_
   refine wp_seq' fun K7 hK7 => ?_
   refine wp_reg ?_
   refine ol_r (r_move rfl) rfl ?_
   refine ol_call rfl rfl cb69 rfl (fun w1 hb1 hs1 hB1 => Calls.mono (effort_in _ _ _ _) ?_)
   rintro e w2 ⟨rfl, hb2⟩
   refine After.below rfl hb1 hs1 hB1 hb2 ?_
   clear hb2 hB1 hs1 hb1 w2 w1
   refine ol_r (r_not rfl) rfl ?_
   refine ol_nil (to_k0 (fun _ _ h => h) (hK7 _ _ _ _ _ ?_))
   clear hK7
   first | refine wp_condD rfl (fun hc15 => ?_) (fun hc15 => ?_) | refine wp_condN rfl (fun hc15 => ?_) (fun hc15 => ?_) | refine wp_condNB rfl (fun hc15 => ?_) (fun hc15 => ?_) | refine wp_cond' rfl (fun hc15 => ?_) (fun hc15 => ?_)
   ·refine wp_seq' fun K8 hK8 => ?_
    refine wp_reg ?_
    refine ol_r (r_build rfl (fun _ => bd24 _)) rfl ?_
    refine ol_store (id := 4) rfl rfl rfl rfl sz24 rfl rfl (by first | decide | exact Nat.zero_lt_succ _ | simp) ?_
    refine ol_r (r_assign rfl) rfl ?_
    refine ol_nil (to_k0 (fun _ _ h => h) (hK8 _ _ _ _ _ ?_))
    clear hK8
    refine hQ.ret (rvs2 (rv_c (id := 4) (n := 4) rfl rfl ag24 rfl) (rv_t rfl)) (fun _ _ h => h) fun w hb hs hB hkd => ?_
    first
      | (refine ⟨?_, hb⟩; unfold bestR; rw [if_pos hc10]; rfl; done)
      | (refine ⟨?_, hb⟩; unfold bestR; rw [if_neg hc10, if_neg (by simpa using hc15)]; rfl; done)
      | (refine ⟨?_, hb⟩; unfold bestR; rw [if_neg hc10, if_pos (by simpa using hc15)]; rfl; done)
   ·refine wp_skip' (to_k0 (fun _ _ h => h) (hK6 _ _ _ _ _ ?_))
    clear hK6
    refine wp_seq' fun K9 hK9 => ?_
    refine wp_reg ?_
    refine ol_r (r_move rfl) rfl ?_
    refine ol_r (r_move rfl) rfl ?_
    have hr := inB_iff.1 (by simpa using hc15 : inB size 1 1000000 = true)
    obtain ⟨z, rfl⟩ := Int.eq_ofNat_of_zero_le (show 0 ≤ size by omega)
    refine ol_call rfl rfl cb70 rfl (fun w1 hb1 hs1 hB1 => Calls.mono (effort_best _ _ _ xs z _ (hl.at hb1 hB1) (by omega) (Decidable.not_not.1 hc10)) ?_)
    rintro e w2 ⟨rfl, hb2⟩
    refine After.below rfl hb1 hs1 hB1 hb2 ?_
    clear hb2 hB1 hs1 hb1 w2 w1
    refine ol_store (id := 4) rfl rfl rfl rfl sz24 rfl rfl (by first | decide | exact Nat.zero_lt_succ _ | simp) ?_
    refine ol_r (r_assign rfl) rfl ?_
    refine ol_nil (to_k0 (fun _ _ h => h) (hK9 _ _ _ _ _ ?_))
    clear hK9
    refine hQ.ret (rvs2 (rv_c (id := 4) (n := 4) rfl rfl ag24 rfl) (rv_t rfl)) (fun _ _ h => h) fun w hb hs hB hkd => ?_
    first
      | (refine ⟨?_, hb⟩; unfold bestR; rw [if_pos hc10]; rfl; done)
      | (refine ⟨?_, hb⟩; unfold bestR; rw [if_neg hc10, if_neg (by simpa using hc15)]; rfl; done)
      | (refine ⟨?_, hb⟩; unfold bestR; rw [if_neg hc10, if_pos (by simpa using hc15)]; rfl; done)

theorem ref_best (a : Option Addr) (n cap : Nat) (xs : List Int) (z : Nat) (w : World) (hl : Rd encI w.heap.size w a n cap xs) (hz : 1 ≤ z ∧ z ≤ 1000000) (hx : streamR xs = 0) :
    Calls Try.prog 71 #[.slice a n cap, .int .i64 z] w fun e w' => e = .returned (.agg (bestV z (bestK xs z n)).toArray) ∧ Below w.heap.size w w' := by
  have hn := hl.len
  have hfit := hl.fit
  subst hn
  have hok := streamR_ok hx
  refine enterQ (N := 48) (C := fun _ => True) (H := []) (B := w.heap.size) (args := [_, _]) Try.func71 rfl rfl rfl (Nat.le_refl _) (Sat.nil _ _) fun Q hQ => ?_
  refine wp_seq' fun K1 hK1 => ?_
  refine wp_reg ?_
  refine ol_alloc 4 z24 rfl fun b4 => ?_
  refine ol_nil (to_k0 (fun _ _ h => h) (hK1 _ _ _ _ _ ?_))
  clear hK1
  refine wp_seq' fun K2 hK2 => ?_
  refine wp_reg ?_
  refine ol_r (r_move rfl) rfl ?_
  refine ol_r (r_build rfl (fun _ => bd24_0 _ _)) rfl ?_
  refine ol_alloc 5 z24 rfl fun b5 => ?_
  refine ol_store (id := 5) rfl rfl rfl rfl sz24 rfl rfl (by first | decide | exact Nat.zero_lt_succ _ | simp) ?_
  refine ol_nil (to_k0 (fun _ _ h => h) (hK2 _ _ _ _ _ ?_))
  clear hK2
  refine wp_seq' fun K3 hK3 => ?_
  refine wp_reg ?_
  refine ol_r (r_move rfl) rfl ?_
  refine ol_call rfl rfl cb72 rfl (fun w1 hb1 hs1 hB1 => ?_)
  refine Calls.mono (ref_sumsOf a _ cap xs _ (hl.at hb1 hB1) hx) ?_
  rintro e w2 ⟨a1, c1, a2, c2, rfl, hb2, hs2⟩
  refine After.more rfl hb1 hs1 hB1 hb2 hs2 ?_
  clear hs2 hb2 hB1 hs1 hb1 w2 w1
  refine ol_alloc 6 z99 rfl fun b6 => ?_
  refine ol_store (id := 6) rfl rfl rfl rfl sz99 rfl rfl (by first | decide | exact Nat.zero_lt_succ _ | simp) ?_
  refine ol_nil (to_k0 (fun _ _ h => h) (hK3 _ _ _ _ _ ?_))
  clear hK3
  refine wp_seq' fun K4 hK4 => ?_
  refine wp_seq' fun K5 hK5 => ?_
  refine wp_reg ?_
  refine ol_r (r_assign rfl) rfl ?_
  refine ol_nil (to_k0 (fun _ _ h => h) (hK5 _ _ _ _ _ ?_))
  clear hK5
  refine wp_block' ?_
  apply wp_loopM (σ := Nat × Int × Int × Bool) (fun s => s.1 ≤ xs.length + 1 - z ∧ (⟨s.2.1, s.2.2.1, s.2.2.2⟩ : BestS) = bestN xs z s.1) (fun s => [(7, .int .i64 s.1)]) [(0, _), (1, _), (4, _), (5, _), (6, _)] (fun s => [(5, .blk b5 (bcells z ⟨s.2.1, s.2.2.1, s.2.2.2⟩) 24)]) [(4, _), (6, _), (1001, _), (1002, _)] (fun s => xs.length + 1 - s.1) ((0, 0, 0, false))
  ·try dsimp only
   exact ⟨Nat.zero_le _, rfl⟩
  ·exact (sub_cons rfl sub_nil)
  ·exact (sub_cons rfl (sub_cons rfl (sub_cons rfl (sub_cons rfl (sub_cons rfl sub_nil)))))
  ·exact (subH_blk rfl (by repeat' first | exact sub_nil | refine sub_cons rfl ?_) subH_nil)
  ·exact (subH_same rfl (subH_same rfl (subH_same rfl (subH_same rfl subH_nil))))
  ·rintro ⟨s1, sm, sa, sf⟩ ⟨hk, hst⟩
   dsimp only at hk hst ⊢
   intro K6 hK6
   refine wp_seq' fun K7 hK7 => ?_
   refine wp_seq' fun K8 hK8 => ?_
   refine wp_reg ?_
   refine ol_r (r_move rfl) rfl ?_
   refine ol_r (r_move rfl) rfl ?_
   refine ol_r (r_add rfl rfl (by omega)) rfl ?_
   refine ol_r (r_move rfl) rfl ?_
   refine ol_r (r_len rfl sl22) rfl ?_
   refine ol_r (r_leq rfl rfl) rfl ?_
   refine ol_nil (to_k0 (fun _ _ h => h) (hK8 _ _ _ _ _ ?_))
   clear hK8
   first | refine wp_condD rfl (fun hc19 => ?_) (fun hc19 => ?_) | refine wp_condN rfl (fun hc19 => ?_) (fun hc19 => ?_) | refine wp_condNB rfl (fun hc19 => ?_) (fun hc19 => ?_) | refine wp_cond' rfl (fun hc19 => ?_) (fun hc19 => ?_)
   ·refine wp_skip' (to_k0 (fun _ _ h => h) (hK7 _ _ _ _ _ ?_))
    clear hK7
    refine wp_seq' fun K9 hK9 => ?_
    refine wp_block' ?_
    refine wp_seq' fun K10 hK10 => ?_
    refine wp_reg ?_
    refine ol_r (r_lda (id := 6) (n := 2) rfl rfl rfl ag99) rfl ?_
    refine ol_r (r_move rfl) rfl ?_
    refine ol_r (r_move rfl) rfl ?_
    refine ol_r (r_move rfl) rfl ?_
    refine ol_r (r_add rfl rfl (by omega)) rfl ?_
    refine ol_call rfl rfl cb73 rfl (fun w1 hb1 hs1 hB1 => Calls.mono (ref_window _ _ _ _ _ xs xs.length s1 (s1 + z) _ (Sat.rd hs1 (id := 1001) rfl rfl) (Sat.rd hs1 (id := 1002) rfl rfl) rfl (by omega) (by omega) hok.1 hok.2) ?_)
    rintro e w2 ⟨rfl, hb2⟩
    refine After.below rfl hb1 hs1 hB1 hb2 ?_
    clear hb2 hB1 hs1 hb1 w2 w1
    refine ol_r (r_move rfl) rfl ?_
    refine ol_r (r_extract rfl rfl) rfl ?_
    refine ol_r (r_extract rfl rfl) rfl ?_
    refine ol_r (r_assign rfl) rfl ?_
    refine ol_r (r_assign rfl) rfl ?_
    refine ol_nil (to_k0 (fun _ _ h => h) (hK10 _ _ _ _ _ ?_))
    clear hK10
    refine wp_seq' fun K11 hK11 => ?_
    refine wp_reg ?_
    refine ol_r (r_move rfl) rfl ?_
    refine ol_r (r_move rfl) rfl ?_
    refine ol_split (d := 32) rfl (fun hs32 => ?_) (fun hs32 => ?_)
    ·have phs32 := hs32; try simp only [decide_eq_true_eq, decide_eq_false_iff_not, Bool.not_eq_true', Bool.not_eq_false', Bool.not_true, Bool.not_false] at phs32
     refine ol_g rfl rfl hs32 ?_
     refine ol_r (r_fa (o' := 3) rfl fl24_3 rfl) rfl ?_
     refine ol_g rfl rfl hs32 ?_
     refine ol_r (r_ld (id := 5) rfl rfl rfl sc4) rfl ?_
     refine ol_g rfl rfl hs32 ?_
     refine ol_r (r_not rfl) rfl ?_
     refine ol_g rfl rfl hs32 ?_
     refine ol_r (r_move rfl) rfl ?_
     refine ol_split (d := 36) rfl (fun hs36 => ?_) (fun hs36 => ?_)
     ·have phs36 := hs36; try simp only [decide_eq_true_eq, decide_eq_false_iff_not, Bool.not_eq_true', Bool.not_eq_false', Bool.not_true, Bool.not_false] at phs36
      refine ol_s rfl rfl hs36 rfl ?_
      refine ol_s rfl rfl hs36 rfl ?_
      refine ol_s rfl rfl hs36 rfl ?_
      refine ol_s rfl rfl hs36 rfl ?_
      refine ol_g rfl rfl hs32 ?_
      refine ol_r (r_pickT rfl hs36 rfl) rfl ?_
      refine ol_r (r_pickT rfl hs32 rfl) rfl ?_
      refine ol_nil (to_k0 (fun _ _ h => h) (hK11 _ _ _ _ _ ?_))
      clear hK11
      refine wp_condT rfl ?_
      refine wp_reg ?_
      refine ol_r (r_move rfl) rfl ?_
      refine ol_r (r_move rfl) rfl ?_
      refine ol_r (r_move rfl) rfl ?_
      refine ol_r (r_build rfl (fun _ => bd24_0_1_2_3 _ _ _ _ _)) rfl ?_
      refine ol_store (id := 5) rfl rfl rfl rfl sz24 rfl rfl (by first | decide | exact Nat.zero_lt_succ _ | simp) ?_
      refine ol_nil (to_k0 (fun _ _ h => h) (hK9 _ _ _ _ _ ?_))
      clear hK9
      refine wp_reg ?_
      refine ol_r (r_move rfl) rfl ?_
      refine ol_r (r_add rfl rfl (by omega)) rfl ?_
      refine ol_r (r_assign rfl) rfl ?_
      refine ol_nil (to_k0 (fun _ _ h => h) (hK6 ((s1 + 1, _, _, _)) _ _ ?_ ?_ (sub_cons rfl sub_nil) (sub_cons rfl (sub_cons rfl (sub_cons rfl (sub_cons rfl (sub_cons rfl sub_nil))))) (by exact (subH_blk rfl (by repeat' first | exact sub_nil | refine sub_cons rfl ?_) subH_nil)) (subH_same rfl (subH_same rfl (subH_same rfl (subH_same rfl subH_nil))))))
      ·try dsimp only
       refine ⟨by omega, ?_⟩
       rw [bestN_succ, ← hst]
       unfold bW bstep
       first | (simp_all; done) | (simp_all; intro _; omega)
      ·try dsimp only
       omega
     ·have phs36 := hs36; try simp only [decide_eq_true_eq, decide_eq_false_iff_not, Bool.not_eq_true', Bool.not_eq_false', Bool.not_true, Bool.not_false] at phs36
      refine ol_g rfl rfl hs36 ?_
      refine ol_r (r_move rfl) rfl ?_
      refine ol_g rfl rfl hs36 ?_
      refine ol_r (r_fa (o' := 1) rfl fl24_1 rfl) rfl ?_
      refine ol_g rfl rfl hs36 ?_
      refine ol_r (r_ld (id := 5) rfl rfl rfl sc3) rfl ?_
      refine ol_g rfl rfl hs36 ?_
      refine ol_r (r_gtr rfl rfl) rfl ?_
      refine ol_g rfl rfl hs32 ?_
      refine ol_r (r_pickF rfl hs36 rfl) rfl ?_
      refine ol_r (r_pickT rfl hs32 rfl) rfl ?_
      refine ol_nil (to_k0 (fun _ _ h => h) (hK11 _ _ _ _ _ ?_))
      clear hK11
      first | refine wp_condD rfl (fun hc42 => ?_) (fun hc42 => ?_) | refine wp_condN rfl (fun hc42 => ?_) (fun hc42 => ?_) | refine wp_condNB rfl (fun hc42 => ?_) (fun hc42 => ?_) | refine wp_cond' rfl (fun hc42 => ?_) (fun hc42 => ?_)
      ·refine wp_reg ?_
       refine ol_r (r_move rfl) rfl ?_
       refine ol_r (r_move rfl) rfl ?_
       refine ol_r (r_move rfl) rfl ?_
       refine ol_r (r_build rfl (fun _ => bd24_0_1_2_3 _ _ _ _ _)) rfl ?_
       refine ol_store (id := 5) rfl rfl rfl rfl sz24 rfl rfl (by first | decide | exact Nat.zero_lt_succ _ | simp) ?_
       refine ol_nil (to_k0 (fun _ _ h => h) (hK9 _ _ _ _ _ ?_))
       clear hK9
       refine wp_reg ?_
       refine ol_r (r_move rfl) rfl ?_
       refine ol_r (r_add rfl rfl (by omega)) rfl ?_
       refine ol_r (r_assign rfl) rfl ?_
       refine ol_nil (to_k0 (fun _ _ h => h) (hK6 ((s1 + 1, _, _, _)) _ _ ?_ ?_ (sub_cons rfl sub_nil) (sub_cons rfl (sub_cons rfl (sub_cons rfl (sub_cons rfl (sub_cons rfl sub_nil))))) (by exact (subH_blk rfl (by repeat' first | exact sub_nil | refine sub_cons rfl ?_) subH_nil)) (subH_same rfl (subH_same rfl (subH_same rfl (subH_same rfl subH_nil))))))
       ·try dsimp only
        refine ⟨by omega, ?_⟩
        rw [bestN_succ, ← hst]
        unfold bW bstep
        first | (simp_all; done) | (simp_all; intro _; omega)
       ·try dsimp only
        omega
      ·refine wp_skip' (to_k0 (fun _ _ h => h) (hK9 _ _ _ _ _ ?_))
       clear hK9
       refine wp_reg ?_
       refine ol_r (r_move rfl) rfl ?_
       refine ol_r (r_add rfl rfl (by omega)) rfl ?_
       refine ol_r (r_assign rfl) rfl ?_
       refine ol_nil (to_k0 (fun _ _ h => h) (hK6 ((s1 + 1, _, _, _)) _ _ ?_ ?_ (sub_cons rfl sub_nil) (sub_cons rfl (sub_cons rfl (sub_cons rfl (sub_cons rfl (sub_cons rfl sub_nil))))) (by exact (subH_blk rfl (by repeat' first | exact sub_nil | refine sub_cons rfl ?_) subH_nil)) (subH_same rfl (subH_same rfl (subH_same rfl (subH_same rfl subH_nil))))))
       ·try dsimp only
        refine ⟨by omega, ?_⟩
        rw [bestN_succ, ← hst]
        unfold bW bstep
        first | (simp_all; done) | (simp_all; intro _; omega)
       ·try dsimp only
        omega
    ·have phs32 := hs32; try simp only [decide_eq_true_eq, decide_eq_false_iff_not, Bool.not_eq_true', Bool.not_eq_false', Bool.not_true, Bool.not_false] at phs32
     refine ol_s rfl rfl hs32 rfl ?_
     refine ol_s rfl rfl hs32 rfl ?_
     refine ol_s rfl rfl hs32 rfl ?_
     refine ol_s rfl rfl hs32 rfl ?_
     refine ol_u rfl rfl rfl ?_
     refine ol_u rfl rfl rfl ?_
     refine ol_u rfl rfl rfl ?_
     refine ol_u rfl rfl rfl ?_
     refine ol_s rfl rfl hs32 rfl ?_
     refine ol_r (r_pickF rfl hs32 rfl) rfl ?_
     refine ol_nil (to_k0 (fun _ _ h => h) (hK11 _ _ _ _ _ ?_))
     clear hK11
     refine wp_condF rfl ?_
     refine wp_skip' (to_k0 (fun _ _ h => h) (hK9 _ _ _ _ _ ?_))
     clear hK9
     refine wp_reg ?_
     refine ol_r (r_move rfl) rfl ?_
     refine ol_r (r_add rfl rfl (by omega)) rfl ?_
     refine ol_r (r_assign rfl) rfl ?_
     refine ol_nil (to_k0 (fun _ _ h => h) (hK6 ((s1 + 1, _, _, _)) _ _ ?_ ?_ (sub_cons rfl sub_nil) (sub_cons rfl (sub_cons rfl (sub_cons rfl (sub_cons rfl (sub_cons rfl sub_nil))))) (by exact (subH_blk rfl (by repeat' first | exact sub_nil | refine sub_cons rfl ?_) subH_nil)) (subH_same rfl (subH_same rfl (subH_same rfl (subH_same rfl subH_nil))))))
     ·try dsimp only
      refine ⟨by omega, ?_⟩
      rw [bestN_succ, ← hst]
      unfold bW bstep
      first | (simp_all; done) | (simp_all; intro _; omega)
     ·try dsimp only
      omega
   ·refine wp_exit' (to_k0 (fun _ _ h => h) (hK4 _ _ _ _ _ ?_))
    clear hK4
    refine wp_seq' fun K12 hK12 => ?_
    refine wp_reg ?_
    refine ol_r (r_lda (id := 5) (n := 4) rfl rfl rfl ag24) rfl ?_
    refine ol_store (id := 4) rfl rfl rfl rfl sz24 rfl rfl (by first | decide | exact Nat.zero_lt_succ _ | simp) ?_
    refine ol_nil (to_k0 (fun _ _ h => h) (hK12 _ _ _ _ _ ?_))
    clear hK12
    refine hQ.ret (rvs1 (rv_c (id := 4) (n := 4) rfl rfl ag24 rfl)) (fun _ _ h => h) fun w hb hs hB hkd => ?_
    refine ⟨?_, hb⟩
    have hkn : s1 = xs.length + 1 - z := by omega
    subst hkn
    unfold bestK
    rw [← hst]
    rfl
theorem ref_Best (a : Option Addr) (n cap : Nat) (xs : List Int) (size : Int) (w : World) (hl : Rd encI w.heap.size w a n cap xs) :
    Calls Try.prog 15 #[.slice a n cap, .int .i64 size] w fun e w' => e = .returned (.tuple #[.agg (bestV (bestR xs size).2.1 (bestR xs size).1).toArray, .int .i64 (bestR xs size).2.2]) ∧ Below w.heap.size w w' := by
  have hn := hl.len
  subst hn
  refine enterQ (N := 23) (C := fun _ => True) (H := []) (B := w.heap.size) (args := [_, _]) Try.func15 rfl rfl rfl (Nat.le_refl _) (Sat.nil _ _) fun Q hQ => ?_
  refine wp_seq' fun K1 hK1 => ?_
  refine wp_reg ?_
  refine ol_alloc 4 z24 rfl fun b4 => ?_
  refine ol_r (r_assign rfl) rfl ?_
  refine ol_nil (to_k0 (fun _ _ h => h) (hK1 _ _ _ _ _ ?_))
  clear hK1
  refine wp_seq' fun K2 hK2 => ?_
  refine wp_seq' fun K3 hK3 => ?_
  refine wp_reg ?_
  refine ol_r (r_move rfl) rfl ?_
  refine ol_call rfl rfl cb21 rfl (fun w1 hb1 hs1 hB1 => Calls.mono (ref_CheckStream _ _ _ xs _ (hl.at hb1 hB1)) ?_)
  rintro e w2 ⟨rfl, hb2⟩
  refine After.below rfl hb1 hs1 hB1 hb2 ?_
  clear hb2 hB1 hs1 hb1 w2 w1
  refine ol_r (r_assign rfl) rfl ?_
  refine ol_nil (to_k0 (fun _ _ h => h) (hK3 _ _ _ _ _ ?_))
  clear hK3
  refine wp_seq' fun K4 hK4 => ?_
  refine wp_reg ?_
  refine ol_r (r_move rfl) rfl ?_
  refine ol_r (r_neq rfl rfl) rfl ?_
  refine ol_nil (to_k0 (fun _ _ h => h) (hK4 _ _ _ _ _ ?_))
  clear hK4
  first | refine wp_condD rfl (fun hc10 => ?_) (fun hc10 => ?_) | refine wp_condN rfl (fun hc10 => ?_) (fun hc10 => ?_) | refine wp_condNB rfl (fun hc10 => ?_) (fun hc10 => ?_) | refine wp_cond' rfl (fun hc10 => ?_) (fun hc10 => ?_)
  ·refine wp_seq' fun K5 hK5 => ?_
   refine wp_reg ?_
   refine ol_r (r_build rfl (fun _ => bd24 _)) rfl ?_
   refine ol_r (r_move rfl) rfl ?_
   refine ol_store (id := 4) rfl rfl rfl rfl sz24 rfl rfl (by first | decide | exact Nat.zero_lt_succ _ | simp) ?_
   refine ol_r (r_assign rfl) rfl ?_
   refine ol_nil (to_k0 (fun _ _ h => h) (hK5 _ _ _ _ _ ?_))
   clear hK5
   refine hQ.ret (rvs2 (rv_c (id := 4) (n := 4) rfl rfl ag24 rfl) (rv_t rfl)) (fun _ _ h => h) fun w hb hs hB hkd => ?_
   first
     | (refine ⟨?_, hb⟩; unfold bestR; rw [if_pos hc10]; rfl; done)
     | (refine ⟨?_, hb⟩; unfold bestR; rw [if_neg hc10, if_neg (by rw [inB_iff]; omega)]; rfl; done)
     | (refine ⟨?_, hb⟩; unfold bestR; rw [if_neg hc10, if_pos (by rw [inB_iff]; omega)]; rfl; done)
  ·refine wp_skip' (to_k0 (fun _ _ h => h) (hK2 _ _ _ _ _ ?_))
   clear hK2
   refine wp_seq' fun K6 hK6 => ?_
   refine wp_seq' fun K7 hK7 => ?_
   refine wp_reg ?_
   refine ol_r (r_move rfl) rfl ?_
   refine ol_r (r_lss rfl rfl) rfl ?_
   refine ol_r (r_move rfl) rfl ?_
   refine ol_split (d := 15) rfl (fun hs15 => ?_) (fun hs15 => ?_)
   ·have phs15 := hs15; try simp only [decide_eq_true_eq, decide_eq_false_iff_not, Bool.not_eq_true', Bool.not_eq_false', Bool.not_true, Bool.not_false] at phs15
    refine ol_s rfl rfl hs15 rfl ?_
    refine ol_s rfl rfl hs15 rfl ?_
    refine ol_r (r_pickT rfl hs15 rfl) rfl ?_
    refine ol_nil (to_k0 (fun _ _ h => h) (hK7 _ _ _ _ _ ?_))
    clear hK7
    refine wp_condT rfl ?_
    refine wp_seq' fun K8 hK8 => ?_
    refine wp_reg ?_
    refine ol_r (r_build rfl (fun _ => bd24 _)) rfl ?_
    refine ol_store (id := 4) rfl rfl rfl rfl sz24 rfl rfl (by first | decide | exact Nat.zero_lt_succ _ | simp) ?_
    refine ol_r (r_assign rfl) rfl ?_
    refine ol_nil (to_k0 (fun _ _ h => h) (hK8 _ _ _ _ _ ?_))
    clear hK8
    refine hQ.ret (rvs2 (rv_c (id := 4) (n := 4) rfl rfl ag24 rfl) (rv_t rfl)) (fun _ _ h => h) fun w hb hs hB hkd => ?_
    first
      | (refine ⟨?_, hb⟩; unfold bestR; rw [if_pos hc10]; rfl; done)
      | (refine ⟨?_, hb⟩; unfold bestR; rw [if_neg hc10, if_neg (by rw [inB_iff]; omega)]; rfl; done)
      | (refine ⟨?_, hb⟩; unfold bestR; rw [if_neg hc10, if_pos (by rw [inB_iff]; omega)]; rfl; done)
   ·have phs15 := hs15; try simp only [decide_eq_true_eq, decide_eq_false_iff_not, Bool.not_eq_true', Bool.not_eq_false', Bool.not_true, Bool.not_false] at phs15
    refine ol_g rfl rfl hs15 ?_
    refine ol_r (r_move rfl) rfl ?_
    refine ol_g rfl rfl hs15 ?_
    refine ol_r (r_gtr rfl rfl) rfl ?_
    refine ol_r (r_pickF rfl hs15 rfl) rfl ?_
    refine ol_nil (to_k0 (fun _ _ h => h) (hK7 _ _ _ _ _ ?_))
    clear hK7
    first | refine wp_condD rfl (fun hc18 => ?_) (fun hc18 => ?_) | refine wp_condN rfl (fun hc18 => ?_) (fun hc18 => ?_) | refine wp_condNB rfl (fun hc18 => ?_) (fun hc18 => ?_) | refine wp_cond' rfl (fun hc18 => ?_) (fun hc18 => ?_)
    ·refine wp_seq' fun K9 hK9 => ?_
     refine wp_reg ?_
     refine ol_r (r_build rfl (fun _ => bd24 _)) rfl ?_
     refine ol_store (id := 4) rfl rfl rfl rfl sz24 rfl rfl (by first | decide | exact Nat.zero_lt_succ _ | simp) ?_
     refine ol_r (r_assign rfl) rfl ?_
     refine ol_nil (to_k0 (fun _ _ h => h) (hK9 _ _ _ _ _ ?_))
     clear hK9
     refine hQ.ret (rvs2 (rv_c (id := 4) (n := 4) rfl rfl ag24 rfl) (rv_t rfl)) (fun _ _ h => h) fun w hb hs hB hkd => ?_
     first
       | (refine ⟨?_, hb⟩; unfold bestR; rw [if_pos hc10]; rfl; done)
       | (refine ⟨?_, hb⟩; unfold bestR; rw [if_neg hc10, if_neg (by rw [inB_iff]; omega)]; rfl; done)
       | (refine ⟨?_, hb⟩; unfold bestR; rw [if_neg hc10, if_pos (by rw [inB_iff]; omega)]; rfl; done)
    ·refine wp_skip' (to_k0 (fun _ _ h => h) (hK6 _ _ _ _ _ ?_))
     clear hK6
     refine wp_seq' fun K10 hK10 => ?_
     refine wp_reg ?_
     refine ol_r (r_move rfl) rfl ?_
     refine ol_r (r_move rfl) rfl ?_
     have hr : 1 ≤ size ∧ size ≤ 1000000 := by omega
     obtain ⟨z, rfl⟩ := Int.eq_ofNat_of_zero_le (show 0 ≤ size by omega)
     refine ol_call rfl rfl cb71 rfl (fun w1 hb1 hs1 hB1 => Calls.mono (ref_best _ _ _ xs z _ (hl.at hb1 hB1) (by omega) (Decidable.not_not.1 hc10)) ?_)
     rintro e w2 ⟨rfl, hb2⟩
     refine After.below rfl hb1 hs1 hB1 hb2 ?_
     clear hb2 hB1 hs1 hb1 w2 w1
     refine ol_store (id := 4) rfl rfl rfl rfl sz24 rfl rfl (by first | decide | exact Nat.zero_lt_succ _ | simp) ?_
     refine ol_r (r_assign rfl) rfl ?_
     refine ol_nil (to_k0 (fun _ _ h => h) (hK10 _ _ _ _ _ ?_))
     clear hK10
     refine hQ.ret (rvs2 (rv_c (id := 4) (n := 4) rfl rfl ag24 rfl) (rv_t rfl)) (fun _ _ h => h) fun w hb hs hB hkd => ?_
     first
       | (refine ⟨?_, hb⟩; unfold bestR; rw [if_pos hc10]; rfl; done)
       | (refine ⟨?_, hb⟩; unfold bestR; rw [if_neg hc10, if_neg (by rw [inB_iff]; omega)]; rfl; done)
       | (refine ⟨?_, hb⟩; unfold bestR; rw [if_neg hc10, if_pos (by rw [inB_iff]; omega)]; rfl; done)
theorem effort_told (w : World) : Calls Try.prog 16 #[] w fun e w' => e = .returned (.bool true) ∧ Below w.heap.size w w' := by
  have hS : bestV (bestR [1, 5, 2, -1, 9, 1] 2).2.1 (bestR [1, 5, 2, -1, 9, 1] 2).1 = [.int .i64 2, .int .i64 10, .int .i64 4, .bool true] := rfl
  have hE : (bestR [1, 5, 2, -1, 9, 1] 2).2.2 = 0 := rfl
  refine enterQ (N := 15) (C := fun _ => True) (H := []) (B := w.heap.size) (args := []) Try.func16 rfl rfl rfl (Nat.le_refl _) (Sat.nil _ _) fun Q hQ => ?_
  refine wp_seq' fun K1 hK1 => ?_
  refine wp_reg ?_
  refine ol_r (r_assign rfl) rfl ?_
  refine ol_nil (to_k0 (fun _ _ h => h) (hK1 _ _ _ _ _ ?_))
  clear hK1
  refine wp_seq' fun K2 hK2 => ?_
  refine wp_reg ?_
  refine ol_bsN 4 rfl rw22 rfl rfl (fun _ => by kernel_rfl) rfl fun a4 => ?_
  refine ol_call rfl rfl cb14 rfl (fun w1 hb1 hs1 hB1 => Calls.mono (effort_Best _ _ _ [1, 5, 2, -1, 9, 1] _ _ (Sat.rd hs1 (E := encI) (xs := [1, 5, 2, -1, 9, 1]) (id := 4) rfl rfl)) ?_)
  rintro e w2 ⟨rfl, hb2⟩
  refine After.below rfl hb1 hs1 hB1 hb2 ?_
  clear hb2 hB1 hs1 hb1 w2 w1
  refine ol_r (r_move rfl) rfl ?_
  refine ol_r (r_extract rfl rfl) rfl ?_
  refine ol_r (r_extract rfl rfl) rfl ?_
  refine ol_alloc 1 z24 rfl fun b1 => ?_
  refine ol_store (id := 1) rfl rfl rfl rfl sz24 rfl rfl (by first | decide | exact Nat.zero_lt_succ _ | simp) ?_
  refine ol_r (r_assign rfl) rfl ?_
  refine ol_nil (to_k0 (fun _ _ h => h) (hK2 _ _ _ _ _ ?_))
  clear hK2
  refine wp_seq' fun K3 hK3 => ?_
  refine wp_reg ?_
  refine ol_r (r_move rfl) rfl ?_
  refine ol_r (r_eql rfl rfl) rfl ?_
  refine ol_r (r_move rfl) rfl ?_
  refine ol_split (d := 10) rfl (fun hs10 => ?_) (fun hs10 => ?_)
  ·have phs10 := hs10; try simp only [decide_eq_true_eq, decide_eq_false_iff_not, Bool.not_eq_true', Bool.not_eq_false', Bool.not_true, Bool.not_false] at phs10
   refine ol_g rfl rfl hs10 ?_
   refine ol_r (r_lda (id := 1) (n := 4) rfl rfl rfl ag24) rfl ?_
   refine ol_g rfl rfl hs10 ?_
   refine ol_r (r_build rfl (fun _ => bd24_0_1_2_3 _ _ _ _ _)) rfl ?_
   refine ol_g rfl rfl hs10 ?_
   refine ol_r (r_eqs rfl rfl (by kernel_rfl) (fun w => run_eqs (by kernel_rfl) (by kernel_rfl) w)) rfl ?_
   refine ol_r (r_pickT rfl hs10 rfl) rfl ?_
   refine ol_r (r_assign rfl) rfl ?_
   refine ol_nil (to_k0 (fun _ _ h => h) (hK3 _ _ _ _ _ ?_))
   clear hK3
   refine hQ.ret (rvs1 (rv_t rfl)) (fun _ _ h => h) fun w hb hs hB hkd => ?_
   first
     | exact ⟨rfl, hb⟩
     | (exfalso; simp_all; done)
  ·have phs10 := hs10; try simp only [decide_eq_true_eq, decide_eq_false_iff_not, Bool.not_eq_true', Bool.not_eq_false', Bool.not_true, Bool.not_false] at phs10
   refine ol_s rfl rfl hs10 rfl ?_
   refine ol_s rfl rfl hs10 rfl ?_
   refine ol_s rfl rfl hs10 rfl ?_
   refine ol_r (r_pickF rfl hs10 rfl) rfl ?_
   refine ol_r (r_assign rfl) rfl ?_
   refine ol_nil (to_k0 (fun _ _ h => h) (hK3 _ _ _ _ _ ?_))
   clear hK3
   refine hQ.ret (rvs1 (rv_t rfl)) (fun _ _ h => h) fun w hb hs hB hkd => ?_
   first
     | exact ⟨rfl, hb⟩
     | (exfalso; simp_all; done)
end Go.Proofs.Ytafkojlccknicaa
