/-
  Smooth, Curve, Hard: program and reference.
-/
import Derived.Test.YtamlldedmhkobaaStream
namespace Go.Proofs.Ytamlldedmhkobaa
open Go Go.RowKit Hx
set_option linter.unusedVariables false
set_option linter.unusedSimpArgs false
set_option maxRecDepth 8000

def smV (xs : List Int) (z i : Nat) : Int := if z ≤ i + 1 ∧ pU xs (i + 1) = pU xs (i + 1 - z) then (pS xs (i + 1) - pS xs (i + 1 - z)) / z else -1
def smK (xs : List Int) (z k : Nat) : List Int := (List.range xs.length).map fun i => if i < k then smV xs z i else -1
theorem smK_len (xs : List Int) (z k : Nat) : (smK xs z k).length = xs.length := by simp [smK]
theorem smK_known {xs : List Int} {z k : Nat} (hk : k < xs.length) (hz : z ≤ k + 1) (hu : pU xs (k + 1) = pU xs (k + 1 - z)) : smK xs z (k + 1) = (smK xs z k).set k ((pS xs (k + 1) - pS xs (k + 1 - z)) / z) := by
  apply List.ext_getElem
  · simp [smK]
  · intro i h1 h2
    simp only [smK, List.getElem_map, List.getElem_range, List.getElem_set]
    by_cases hik : k = i
    · subst hik; rw [if_pos (by omega), if_pos rfl]; unfold smV; rw [if_pos ⟨hz, hu⟩]
    · rw [if_neg hik]
      by_cases hlt : i < k
      · rw [if_pos (by omega), if_pos hlt]
      · rw [if_neg (by omega), if_neg hlt]
theorem smK_unknown {xs : List Int} {z k : Nat} (h : ¬(z ≤ k + 1 ∧ pU xs (k + 1) = pU xs (k + 1 - z))) : smK xs z (k + 1) = smK xs z k := by
  unfold smK
  apply List.map_congr_left
  intro i _
  by_cases hik : i = k
  · subst hik; rw [if_pos (by omega), if_neg (by omega)]; unfold smV; rw [if_neg h]
  · by_cases hlt : i < k
    · rw [if_pos (by omega), if_pos hlt]
    · rw [if_neg (by omega), if_neg hlt]
theorem smooth_step (B b3 b5 : Nat) (oa : Option Addr) (oc n : Nat) (out : List Int) (z : Nat) (f s : Int) (w : World) (hB : B ≤ w.heap.size) (hz : 1 ≤ z ∧ z ≤ 1000000) (hf : 0 ≤ f ∧ f + z ≤ n) (hn : n ≤ 1000000) (hs0 : 0 ≤ s ∧ s ≤ 1000000000000000) (hlen : out.length = n)
    (hs : Sat B w [(100, .row oa n oc (encI.enc out) 3 1), (101, .blk b3 [(0, .int .i64 z)] 3), (102, .blk b5 [(0, .slice oa n oc)] 22)]) :
    Calls Try.prog 105 #[.int .i64 f, .int .i64 s, .pointer (some ⟨b3, 0, none⟩), .pointer (some ⟨b5, 0, none⟩)] w fun e w' =>
      e = .returned (.tuple #[]) ∧ Below B w w' ∧ Sat B w' [(100, .row oa n oc (encI.enc (out.set (f + z - 1).toNat (s / z))) 3 1), (101, .blk b3 [(0, .int .i64 z)] 3), (102, .blk b5 [(0, .slice oa n oc)] 22)] ∧ B ≤ w'.heap.size ∧ Kd (fun _ => False) w w' := by
  refine enterQ (N := 15) (C := fun _ => False) (H := [(100, .row oa n oc (encI.enc out) 3 1), (101, .blk b3 [(0, .int .i64 z)] 3), (102, .blk b5 [(0, .slice oa n oc)] 22)]) (B := B) (args := [_, _, _, _]) Try.func105 rfl rfl rfl (hB) (hs) fun Q hQ => ?_
  refine wp_regt 9 (by kernel_rfl) (by kernel_rfl) ?_
  simp only [List.take_succ_cons, List.take_zero, List.drop_succ_cons, List.drop_zero]
  refine sl_r (r_ld (id := 102) rfl rfl rfl sc22) rfl ?_
  refine sl_r (r_move rfl) rfl ?_
  refine sl_r (r_ld (id := 101) rfl rfl rfl sc3) rfl ?_
  refine sl_r (r_add rfl rfl (by omega)) rfl ?_
  refine sl_r (r_sub rfl rfl (by omega)) rfl ?_
  refine sl_r (r_move rfl) rfl ?_
  refine sl_r (r_ld (id := 101) rfl rfl rfl sc3) rfl ?_
  first | refine sl_r (r_quo rfl rfl (by omega)) rfl ?_ | refine sl_r (r_tquo rfl rfl (by omega)) rfl ?_
  refine sl_ixo (id := 100) encI _ rfl rfl rfl rfl sl22 (by omega) (by omega) rfl fun x14 hx14 => ?_
  try simp only [Int.toNat_natCast] at hx14
  try simp only [Int.toNat_natCast] at hx14
  refine sl_nil ?_
  refine ol_storeRow (id := 100) _ _ _ rfl rfl rfl rfl sz3 (by omega) ?_
  refine ol_nil (hQ.fall rvs0 (fun _ _ h => h) fun w hb hs hB hkd => ?_)
  exact ⟨rfl, hb, hs.sub (subH_same rfl (subH_same rfl (subH_same rfl subH_nil))), hB, hkd⟩
theorem windows_smooth (B b3 b5 : Nat) (oa : Option Addr) (oc : Nat) (a : Option Addr) (n cap : Nat) (xs : List Int) (z : Nat) (w : World) (hl : Rd encI B w a n cap xs) (hz : 1 ≤ z ∧ z ≤ 1000000) (hx : streamR xs = 0) (hB : B ≤ w.heap.size)
    (hs : Sat B w [(100, .row oa xs.length oc (encI.enc (smK xs z 0)) 3 1), (101, .blk b3 [(0, .int .i64 z)] 3), (102, .blk b5 [(0, .slice oa xs.length oc)] 22)]) :
    Calls Try.prog 104 #[.slice a n cap, .int .i64 z, .func (.func 105) #[] #[.pointer (some ⟨b3, 0, none⟩), .pointer (some ⟨b5, 0, none⟩)]] w fun e w' =>
      e = .returned (.tuple #[]) ∧ Below B w w' ∧ Sat B w' [(100, .row oa xs.length oc (encI.enc (smK xs z n)) 3 1), (101, .blk b3 [(0, .int .i64 z)] 3), (102, .blk b5 [(0, .slice oa xs.length oc)] 22)] ∧ B ≤ w'.heap.size ∧ Kd (fun _ => False) w w' := by
  have hn := hl.len
  have hfit := hl.fit
  subst hn
  have hok := streamR_ok hx
  refine enterQ (N := 62) (C := fun _ => False) (H := [(100, .row oa xs.length oc (encI.enc (smK xs z 0)) 3 1), (101, .blk b3 [(0, .int .i64 z)] 3), (102, .blk b5 [(0, .slice oa xs.length oc)] 22)]) (B := B) (args := [_, _, _]) Try.func104 rfl rfl rfl (hB) (hs) fun Q hQ => ?_
  refine wp_seq' fun K1 hK1 => ?_
  refine wp_reg ?_
  refine ol_r (r_assign rfl) rfl ?_
  refine ol_r (r_assign rfl) rfl ?_
  refine ol_nil (to_k0 (fun _ _ h => h) (hK1 _ _ _ ?_))
  clear hK1
  refine wp_seq' fun K2 hK2 => ?_
  refine wp_reg ?_
  refine ol_r (r_move rfl) rfl ?_
  refine ol_r (r_len rfl sl22) rfl ?_
  refine ol_r (r_move rfl) rfl ?_
  refine ol_nil (to_k0 (fun _ _ h => h) (hK2 _ _ _ ?_))
  clear hK2
  refine wp_block' ?_
  apply wp_loopM (σ := Nat × Int × Int × List Int) (fun s => s.1 ≤ xs.length ∧ s.2.1 = pS xs s.1 - pS xs (s.1 - z) ∧ s.2.2.1 = pU xs s.1 - pU xs (s.1 - z) ∧ s.2.2.2 = smK xs z s.1) (fun s => [(12, .int .i64 s.1), (6, .int .i64 s.2.1), (7, .int .i64 s.2.2.1)]) [(0, _), (1, _), (2, _), (10, _), (11, _)] (fun s => [(100, (.row oa xs.length oc (encI.enc s.2.2.2) 3 1))]) [(101, _), (102, _)] (fun s => xs.length - s.1) ((0, 0, 0, smK xs z 0))
  · try dsimp only
    exact ⟨Nat.zero_le _, by simp [pS_zero], by simp [pU_zero], rfl⟩
  · exact (sub_cons rfl (sub_cons rfl (sub_cons rfl sub_nil)))
  · exact (sub_cons rfl (sub_cons rfl (sub_cons rfl (sub_cons rfl (sub_cons rfl sub_nil)))))
  · exact (subH_same rfl subH_nil)
  · exact (subH_same rfl (subH_same rfl subH_nil))
  · rintro ⟨k, sum, unk, st⟩ ⟨hk, hsum, hunk, hst⟩
    dsimp only at hk hsum hunk hst ⊢
    intro K3 hK3
    refine wp_seq' fun K4 hK4 => ?_
    refine wp_reg ?_
    refine ol_r (r_lss rfl rfl) rfl ?_
    refine ol_nil (to_k0 (fun _ _ h => h) (hK4 _ _ _ ?_))
    clear hK4
    refine wp_seq' fun K5 hK5 => ?_
    first | refine wp_condD rfl (fun hc13 => ?_) (fun hc13 => ?_) | refine wp_condN rfl (fun hc13 => ?_) (fun hc13 => ?_) | refine wp_condNB rfl (fun hc13 => ?_) (fun hc13 => ?_) | refine wp_cond' rfl (fun hc13 => ?_) (fun hc13 => ?_)
    · refine wp_skip' (to_k0 (fun _ _ h => h) (hK5 _ _ _ ?_))
      clear hK5
      refine wp_seq' fun K6 hK6 => ?_
      refine wp_block' ?_
      refine wp_seq' fun K7 hK7 => ?_
      refine wp_reg ?_
      refine ol_r (r_move rfl) rfl ?_
      refine ol_ixr hl rfl rfl sl22 (by omega) rfl fun x15 hx15 => ?_
      try simp only [Int.toNat_natCast] at hx15
      refine ol_r (r_ldw rfl (fun w1 hb1 hs1 hB1 => show Loads _ _ _ _ (.int .i64 x15) from Rd.loads hl ty3 hx15 hb1)) rfl ?_
      refine ol_r (r_assign rfl) rfl ?_
      refine ol_r (r_assign rfl) rfl ?_
      refine ol_nil (to_k0 (fun _ _ h => h) (hK7 _ _ _ ?_))
      clear hK7
      refine wp_seq' fun K8 hK8 => ?_
      refine wp_reg ?_
      refine ol_r (r_move rfl) rfl ?_
      have q1 := pS_bd hok.1 hok.2 k
      have q5 := pS_mono (xs := xs) (show k - z ≤ k by omega)
      have q6 := pS_mono (xs := xs) (show k - z + 1 ≤ k + 1 by omega)
      have q7 := pS_bd hok.1 hok.2 (k + 1)
      have ep3 : pv x15 = max x15 0 := by unfold pv; split <;> omega
      have q2 := pS_bd hok.1 hok.2 (k - z)
      have q3 := pU_bd hok.1 k (xs := xs)
      have q4 := pU_bd hok.1 (k - z) (xs := xs)
      have qx := hok.2 _ (List.mem_of_getElem? hx15)
      have qs := pS_succ hx15
      have qu := pU_succ hx15
      have ep1 := pv_bd qx.2
      have ep2 := nv_bd x15
      refine ol_r (r_move rfl) rfl ?_
      refine ol_r (r_max rfl rfl) rfl ?_
      refine ol_r (r_add rfl rfl (by omega)) rfl ?_
      refine ol_r (r_assign rfl) rfl ?_
      refine ol_nil (to_k0 (fun _ _ h => h) (hK8 _ _ _ ?_))
      clear hK8
      refine wp_seq' fun K9 hK9 => ?_
      refine wp_seq' fun K10 hK10 => ?_
      refine wp_reg ?_
      refine ol_r (r_move rfl) rfl ?_
      refine ol_r (r_lss rfl rfl) rfl ?_
      refine ol_nil (to_k0 (fun _ _ h => h) (hK10 _ _ _ ?_))
      clear hK10
      first | refine wp_condD rfl (fun hc22 => ?_) (fun hc22 => ?_) | refine wp_condN rfl (fun hc22 => ?_) (fun hc22 => ?_) | refine wp_condNB rfl (fun hc22 => ?_) (fun hc22 => ?_) | refine wp_cond' rfl (fun hc22 => ?_) (fun hc22 => ?_)
      · refine wp_reg ?_
        refine ol_r (r_move rfl) rfl ?_
        refine ol_r (r_add rfl rfl (by omega)) rfl ?_
        refine ol_r (r_assign rfl) rfl ?_
        refine ol_nil (to_k0 (fun _ _ h => h) (hK9 _ _ _ ?_))
        clear hK9
        refine wp_seq' fun K11 hK11 => ?_
        refine wp_seq' fun K12 hK12 => ?_
        refine wp_reg ?_
        refine ol_r (r_move rfl) rfl ?_
        refine ol_r (r_move rfl) rfl ?_
        refine ol_r (r_geq rfl rfl) rfl ?_
        refine ol_nil (to_k0 (fun _ _ h => h) (hK12 _ _ _ ?_))
        clear hK12
        first | refine wp_condD rfl (fun hc27 => ?_) (fun hc27 => ?_) | refine wp_condN rfl (fun hc27 => ?_) (fun hc27 => ?_) | refine wp_condNB rfl (fun hc27 => ?_) (fun hc27 => ?_) | refine wp_cond' rfl (fun hc27 => ?_) (fun hc27 => ?_)
        · refine wp_seq' fun K13 hK13 => ?_
          refine wp_reg ?_
          refine ol_r (r_move rfl) rfl ?_
          refine ol_r (r_move rfl) rfl ?_
          refine ol_r (r_move rfl) rfl ?_
          refine ol_r (r_move rfl) rfl ?_
          refine ol_r (r_sub rfl rfl (by omega)) rfl ?_
          refine ol_ixr hl rfl rfl sl22 (by omega) rfl fun x33 hx33 => ?_
          try simp only [Int.toNat_natCast] at hx33
          have hk33 : xs[k - z]? = some x33 := by rw [← hx33]; congr 1; omega
          have r1 := pS_succ hk33
          have r2 := pU_succ hk33
          have r3 := hok.2 _ (List.mem_of_getElem? hk33)
          have r4 := pv_bd r3.2
          refine ol_r (r_ldw rfl (fun w1 hb1 hs1 hB1 => show Loads _ _ _ _ (.int .i64 x33) from Rd.loads hl ty3 hx33 hb1)) rfl ?_
          refine ol_r (r_max rfl rfl) rfl ?_
          refine ol_r (r_sub rfl rfl (by omega)) rfl ?_
          refine ol_r (r_assign rfl) rfl ?_
          refine ol_nil (to_k0 (fun _ _ h => h) (hK13 _ _ _ ?_))
          clear hK13
          refine wp_seq' fun K14 hK14 => ?_
          refine wp_reg ?_
          refine ol_r (r_move rfl) rfl ?_
          refine ol_r (r_move rfl) rfl ?_
          refine ol_r (r_move rfl) rfl ?_
          refine ol_r (r_sub rfl rfl (by omega)) rfl ?_
          refine ol_ixr hl rfl rfl sl22 (by omega) rfl fun x41 hx41 => ?_
          try simp only [Int.toNat_natCast] at hx41
          have h41 : x41 = x33 := by rw [hx33] at hx41; cases hx41; rfl
          subst h41
          have ep4 : pv x41 = max x41 0 := by unfold pv; split <;> omega
          refine ol_r (r_ldw rfl (fun w1 hb1 hs1 hB1 => show Loads _ _ _ _ (.int .i64 x41) from Rd.loads hl ty3 hx41 hb1)) rfl ?_
          refine ol_r (r_lss rfl rfl) rfl ?_
          refine ol_nil (to_k0 (fun _ _ h => h) (hK14 _ _ _ ?_))
          clear hK14
          first | refine wp_condD rfl (fun hc43 => ?_) (fun hc43 => ?_) | refine wp_condN rfl (fun hc43 => ?_) (fun hc43 => ?_) | refine wp_condNB rfl (fun hc43 => ?_) (fun hc43 => ?_) | refine wp_cond' rfl (fun hc43 => ?_) (fun hc43 => ?_)
          · refine wp_reg ?_
            refine ol_r (r_move rfl) rfl ?_
            refine ol_r (r_sub rfl rfl (by omega)) rfl ?_
            refine ol_r (r_assign rfl) rfl ?_
            refine ol_nil (to_k0 (fun _ _ h => h) (hK11 _ _ _ ?_))
            clear hK11
            refine wp_seq' fun K15 hK15 => ?_
            refine wp_reg ?_
            refine ol_r (r_move rfl) rfl ?_
            refine ol_r (r_move rfl) rfl ?_
            refine ol_r (r_sub rfl rfl (by omega)) rfl ?_
            refine ol_r (r_geq rfl rfl) rfl ?_
            refine ol_r (r_move rfl) rfl ?_
            refine ol_split (d := 50) rfl (fun hs50 => ?_) (fun hs50 => ?_)
            · have phs50 := hs50; try simp only [decide_eq_true_eq, decide_eq_false_iff_not, Bool.not_eq_true', Bool.not_eq_false', Bool.not_true, Bool.not_false] at phs50
              refine ol_g rfl rfl hs50 ?_
              refine ol_r (r_move rfl) rfl ?_
              refine ol_g rfl rfl hs50 ?_
              refine ol_r (r_eql rfl rfl) rfl ?_
              refine ol_r (r_pickT rfl hs50 rfl) rfl ?_
              refine ol_nil (to_k0 (fun _ _ h => h) (hK15 _ _ _ ?_))
              clear hK15
              first | refine wp_condD rfl (fun hc53 => ?_) (fun hc53 => ?_) | refine wp_condN rfl (fun hc53 => ?_) (fun hc53 => ?_) | refine wp_condNB rfl (fun hc53 => ?_) (fun hc53 => ?_) | refine wp_cond' rfl (fun hc53 => ?_) (fun hc53 => ?_)
              · refine wp_reg ?_
                refine ol_r (r_move rfl) rfl ?_
                refine ol_r (r_move rfl) rfl ?_
                refine ol_r (r_move rfl) rfl ?_
                refine ol_r (r_sub rfl rfl (by omega)) rfl ?_
                refine ol_r (r_add rfl rfl (by omega)) rfl ?_
                refine ol_r (r_move rfl) rfl ?_
                refine ol_call rfl rfl cb105 rfl (fun w1 hb1 hs1 hB1 => ?_)
                refine Calls.mono (smooth_step B b3 b5 oa oc xs.length st z _ _ _ hB1 hz (by omega) hok.1 (by omega) (by rw [hst]; exact smK_len _ _ _) (hs1.sub (subH_same rfl (subH_same rfl (subH_same rfl subH_nil))))) ?_
                rintro e w2 ⟨rfl, hb2, hs2, hB2, hk2⟩
                refine After.sat rfl hb1 hb2 hs2 hB2 (hk2.imp fun _ h => h.elim) ?_
                clear hk2 hs2 hb2 hB2 hB1 hs1 hb1 w2 w1
                refine ol_nil (to_k0 (fun _ _ h => h) (hK6 _ _ _ ?_))
                clear hK6
                refine wp_reg ?_
                refine ol_r (r_add rfl rfl (by omega)) rfl ?_
                refine ol_r (r_move rfl) rfl ?_
                refine ol_nil (to_k0 (fun _ _ h => h) (hK3 ((k + 1, _, _, _)) _ _ ?_ ?_ (sub_cons rfl (sub_cons rfl (sub_cons rfl sub_nil))) (sub_cons rfl (sub_cons rfl (sub_cons rfl (sub_cons rfl (sub_cons rfl sub_nil))))) (by exact (subH_same rfl subH_nil)) (subH_same rfl (subH_same rfl subH_nil))))
                · try dsimp only
                  have p15 : pv x15 = max x15 0 := by unfold pv; split <;> omega
                  have n15 : nv x15 = (if x15 < 0 then 1 else 0) := rfl
                  first
                    | (have n15' := nv_neg hc22; clear n15)
                    | (have n15' := nv_nn hc22; clear n15)
                  first
                    | (exfalso; omega)
                    | (have hk1 : k + 1 - z = k - z + 1 := by omega
                       have p33 : pv x41 = max x41 0 := by unfold pv; split <;> omega
                       skip
                       first | have n33' := nv_neg hc43 | have n33' := nv_nn hc43
                       refine ⟨by omega, by rw [hk1]; omega, by rw [hk1]; omega, ?_⟩
                       first
                         | (rw [smK_known (by omega) (by omega) (by rw [hk1]; omega), ← hst]; refine congr (congr (congrArg List.set rfl) ?_) ?_ <;> first | omega | (congr 1; rw [hk1]; omega))
                         | (rw [smK_unknown (by rw [hk1]; omega)]; exact hst))
                    | (have hk1 : k + 1 - z = k - z := by omega
                       refine ⟨by omega, by rw [hk1]; omega, by rw [hk1]; omega, ?_⟩
                       first
                         | (rw [smK_known (by omega) (by omega) (by rw [hk1]; omega), ← hst]; refine congr (congr (congrArg List.set rfl) ?_) ?_ <;> first | omega | (congr 1; rw [hk1]; omega))
                         | (rw [smK_unknown (by omega)]; exact hst)
                         | (rw [smK_unknown (by rw [hk1]; omega)]; exact hst))
                · try dsimp only
                  omega
              · refine wp_skip' (to_k0 (fun _ _ h => h) (hK6 _ _ _ ?_))
                clear hK6
                refine wp_reg ?_
                refine ol_r (r_add rfl rfl (by omega)) rfl ?_
                refine ol_r (r_move rfl) rfl ?_
                refine ol_nil (to_k0 (fun _ _ h => h) (hK3 ((k + 1, _, _, _)) _ _ ?_ ?_ (sub_cons rfl (sub_cons rfl (sub_cons rfl sub_nil))) (sub_cons rfl (sub_cons rfl (sub_cons rfl (sub_cons rfl (sub_cons rfl sub_nil))))) (by exact (subH_same rfl subH_nil)) (subH_same rfl (subH_same rfl subH_nil))))
                · try dsimp only
                  have p15 : pv x15 = max x15 0 := by unfold pv; split <;> omega
                  have n15 : nv x15 = (if x15 < 0 then 1 else 0) := rfl
                  first
                    | (have n15' := nv_neg hc22; clear n15)
                    | (have n15' := nv_nn hc22; clear n15)
                  first
                    | (exfalso; omega)
                    | (have hk1 : k + 1 - z = k - z + 1 := by omega
                       have p33 : pv x41 = max x41 0 := by unfold pv; split <;> omega
                       skip
                       first | have n33' := nv_neg hc43 | have n33' := nv_nn hc43
                       refine ⟨by omega, by rw [hk1]; omega, by rw [hk1]; omega, ?_⟩
                       first
                         | (rw [smK_known (by omega) (by omega) (by rw [hk1]; omega), ← hst]; refine congr (congr (congrArg List.set rfl) ?_) ?_ <;> first | omega | (congr 1; rw [hk1]; omega))
                         | (rw [smK_unknown (by rw [hk1]; omega)]; exact hst))
                    | (have hk1 : k + 1 - z = k - z := by omega
                       refine ⟨by omega, by rw [hk1]; omega, by rw [hk1]; omega, ?_⟩
                       first
                         | (rw [smK_known (by omega) (by omega) (by rw [hk1]; omega), ← hst]; refine congr (congr (congrArg List.set rfl) ?_) ?_ <;> first | omega | (congr 1; rw [hk1]; omega))
                         | (rw [smK_unknown (by omega)]; exact hst)
                         | (rw [smK_unknown (by rw [hk1]; omega)]; exact hst))
                · try dsimp only
                  omega
            · have phs50 := hs50; try simp only [decide_eq_true_eq, decide_eq_false_iff_not, Bool.not_eq_true', Bool.not_eq_false', Bool.not_true, Bool.not_false] at phs50
              refine ol_s rfl rfl hs50 rfl ?_
              refine ol_s rfl rfl hs50 rfl ?_
              refine ol_r (r_pickF rfl hs50 rfl) rfl ?_
              refine ol_nil (to_k0 (fun _ _ h => h) (hK15 _ _ _ ?_))
              clear hK15
              refine wp_condF rfl ?_
              refine wp_skip' (to_k0 (fun _ _ h => h) (hK6 _ _ _ ?_))
              clear hK6
              refine wp_reg ?_
              refine ol_r (r_add rfl rfl (by omega)) rfl ?_
              refine ol_r (r_move rfl) rfl ?_
              refine ol_nil (to_k0 (fun _ _ h => h) (hK3 ((k + 1, _, _, _)) _ _ ?_ ?_ (sub_cons rfl (sub_cons rfl (sub_cons rfl sub_nil))) (sub_cons rfl (sub_cons rfl (sub_cons rfl (sub_cons rfl (sub_cons rfl sub_nil))))) (by exact (subH_same rfl subH_nil)) (subH_same rfl (subH_same rfl subH_nil))))
              · try dsimp only
                have p15 : pv x15 = max x15 0 := by unfold pv; split <;> omega
                have n15 : nv x15 = (if x15 < 0 then 1 else 0) := rfl
                first
                  | (have n15' := nv_neg hc22; clear n15)
                  | (have n15' := nv_nn hc22; clear n15)
                first
                  | (exfalso; omega)
                  | (have hk1 : k + 1 - z = k - z + 1 := by omega
                     have p33 : pv x41 = max x41 0 := by unfold pv; split <;> omega
                     skip
                     first | have n33' := nv_neg hc43 | have n33' := nv_nn hc43
                     refine ⟨by omega, by rw [hk1]; omega, by rw [hk1]; omega, ?_⟩
                     first
                       | (rw [smK_known (by omega) (by omega) (by rw [hk1]; omega), ← hst]; refine congr (congr (congrArg List.set rfl) ?_) ?_ <;> first | omega | (congr 1; rw [hk1]; omega))
                       | (rw [smK_unknown (by rw [hk1]; omega)]; exact hst))
                  | (have hk1 : k + 1 - z = k - z := by omega
                     refine ⟨by omega, by rw [hk1]; omega, by rw [hk1]; omega, ?_⟩
                     first
                       | (rw [smK_known (by omega) (by omega) (by rw [hk1]; omega), ← hst]; refine congr (congr (congrArg List.set rfl) ?_) ?_ <;> first | omega | (congr 1; rw [hk1]; omega))
                       | (rw [smK_unknown (by omega)]; exact hst)
                       | (rw [smK_unknown (by rw [hk1]; omega)]; exact hst))
              · try dsimp only
                omega
          · refine wp_skip' (to_k0 (fun _ _ h => h) (hK11 _ _ _ ?_))
            clear hK11
            refine wp_seq' fun K16 hK16 => ?_
            refine wp_reg ?_
            refine ol_r (r_move rfl) rfl ?_
            refine ol_r (r_move rfl) rfl ?_
            refine ol_r (r_sub rfl rfl (by omega)) rfl ?_
            refine ol_r (r_geq rfl rfl) rfl ?_
            refine ol_r (r_move rfl) rfl ?_
            refine ol_split (d := 50) rfl (fun hs50 => ?_) (fun hs50 => ?_)
            · have phs50 := hs50; try simp only [decide_eq_true_eq, decide_eq_false_iff_not, Bool.not_eq_true', Bool.not_eq_false', Bool.not_true, Bool.not_false] at phs50
              refine ol_g rfl rfl hs50 ?_
              refine ol_r (r_move rfl) rfl ?_
              refine ol_g rfl rfl hs50 ?_
              refine ol_r (r_eql rfl rfl) rfl ?_
              refine ol_r (r_pickT rfl hs50 rfl) rfl ?_
              refine ol_nil (to_k0 (fun _ _ h => h) (hK16 _ _ _ ?_))
              clear hK16
              first | refine wp_condD rfl (fun hc53 => ?_) (fun hc53 => ?_) | refine wp_condN rfl (fun hc53 => ?_) (fun hc53 => ?_) | refine wp_condNB rfl (fun hc53 => ?_) (fun hc53 => ?_) | refine wp_cond' rfl (fun hc53 => ?_) (fun hc53 => ?_)
              · refine wp_reg ?_
                refine ol_r (r_move rfl) rfl ?_
                refine ol_r (r_move rfl) rfl ?_
                refine ol_r (r_move rfl) rfl ?_
                refine ol_r (r_sub rfl rfl (by omega)) rfl ?_
                refine ol_r (r_add rfl rfl (by omega)) rfl ?_
                refine ol_r (r_move rfl) rfl ?_
                refine ol_call rfl rfl cb105 rfl (fun w1 hb1 hs1 hB1 => ?_)
                refine Calls.mono (smooth_step B b3 b5 oa oc xs.length st z _ _ _ hB1 hz (by omega) hok.1 (by omega) (by rw [hst]; exact smK_len _ _ _) (hs1.sub (subH_same rfl (subH_same rfl (subH_same rfl subH_nil))))) ?_
                rintro e w2 ⟨rfl, hb2, hs2, hB2, hk2⟩
                refine After.sat rfl hb1 hb2 hs2 hB2 (hk2.imp fun _ h => h.elim) ?_
                clear hk2 hs2 hb2 hB2 hB1 hs1 hb1 w2 w1
                refine ol_nil (to_k0 (fun _ _ h => h) (hK6 _ _ _ ?_))
                clear hK6
                refine wp_reg ?_
                refine ol_r (r_add rfl rfl (by omega)) rfl ?_
                refine ol_r (r_move rfl) rfl ?_
                refine ol_nil (to_k0 (fun _ _ h => h) (hK3 ((k + 1, _, _, _)) _ _ ?_ ?_ (sub_cons rfl (sub_cons rfl (sub_cons rfl sub_nil))) (sub_cons rfl (sub_cons rfl (sub_cons rfl (sub_cons rfl (sub_cons rfl sub_nil))))) (by exact (subH_same rfl subH_nil)) (subH_same rfl (subH_same rfl subH_nil))))
                · try dsimp only
                  have p15 : pv x15 = max x15 0 := by unfold pv; split <;> omega
                  have n15 : nv x15 = (if x15 < 0 then 1 else 0) := rfl
                  first
                    | (have n15' := nv_neg hc22; clear n15)
                    | (have n15' := nv_nn hc22; clear n15)
                  first
                    | (exfalso; omega)
                    | (have hk1 : k + 1 - z = k - z + 1 := by omega
                       have p33 : pv x41 = max x41 0 := by unfold pv; split <;> omega
                       skip
                       first | have n33' := nv_neg hc43 | have n33' := nv_nn hc43
                       refine ⟨by omega, by rw [hk1]; omega, by rw [hk1]; omega, ?_⟩
                       first
                         | (rw [smK_known (by omega) (by omega) (by rw [hk1]; omega), ← hst]; refine congr (congr (congrArg List.set rfl) ?_) ?_ <;> first | omega | (congr 1; rw [hk1]; omega))
                         | (rw [smK_unknown (by rw [hk1]; omega)]; exact hst))
                    | (have hk1 : k + 1 - z = k - z := by omega
                       refine ⟨by omega, by rw [hk1]; omega, by rw [hk1]; omega, ?_⟩
                       first
                         | (rw [smK_known (by omega) (by omega) (by rw [hk1]; omega), ← hst]; refine congr (congr (congrArg List.set rfl) ?_) ?_ <;> first | omega | (congr 1; rw [hk1]; omega))
                         | (rw [smK_unknown (by omega)]; exact hst)
                         | (rw [smK_unknown (by rw [hk1]; omega)]; exact hst))
                · try dsimp only
                  omega
              · refine wp_skip' (to_k0 (fun _ _ h => h) (hK6 _ _ _ ?_))
                clear hK6
                refine wp_reg ?_
                refine ol_r (r_add rfl rfl (by omega)) rfl ?_
                refine ol_r (r_move rfl) rfl ?_
                refine ol_nil (to_k0 (fun _ _ h => h) (hK3 ((k + 1, _, _, _)) _ _ ?_ ?_ (sub_cons rfl (sub_cons rfl (sub_cons rfl sub_nil))) (sub_cons rfl (sub_cons rfl (sub_cons rfl (sub_cons rfl (sub_cons rfl sub_nil))))) (by exact (subH_same rfl subH_nil)) (subH_same rfl (subH_same rfl subH_nil))))
                · try dsimp only
                  have p15 : pv x15 = max x15 0 := by unfold pv; split <;> omega
                  have n15 : nv x15 = (if x15 < 0 then 1 else 0) := rfl
                  first
                    | (have n15' := nv_neg hc22; clear n15)
                    | (have n15' := nv_nn hc22; clear n15)
                  first
                    | (exfalso; omega)
                    | (have hk1 : k + 1 - z = k - z + 1 := by omega
                       have p33 : pv x41 = max x41 0 := by unfold pv; split <;> omega
                       skip
                       first | have n33' := nv_neg hc43 | have n33' := nv_nn hc43
                       refine ⟨by omega, by rw [hk1]; omega, by rw [hk1]; omega, ?_⟩
                       first
                         | (rw [smK_known (by omega) (by omega) (by rw [hk1]; omega), ← hst]; refine congr (congr (congrArg List.set rfl) ?_) ?_ <;> first | omega | (congr 1; rw [hk1]; omega))
                         | (rw [smK_unknown (by rw [hk1]; omega)]; exact hst))
                    | (have hk1 : k + 1 - z = k - z := by omega
                       refine ⟨by omega, by rw [hk1]; omega, by rw [hk1]; omega, ?_⟩
                       first
                         | (rw [smK_known (by omega) (by omega) (by rw [hk1]; omega), ← hst]; refine congr (congr (congrArg List.set rfl) ?_) ?_ <;> first | omega | (congr 1; rw [hk1]; omega))
                         | (rw [smK_unknown (by omega)]; exact hst)
                         | (rw [smK_unknown (by rw [hk1]; omega)]; exact hst))
                · try dsimp only
                  omega
            · have phs50 := hs50; try simp only [decide_eq_true_eq, decide_eq_false_iff_not, Bool.not_eq_true', Bool.not_eq_false', Bool.not_true, Bool.not_false] at phs50
              refine ol_s rfl rfl hs50 rfl ?_
              refine ol_s rfl rfl hs50 rfl ?_
              refine ol_r (r_pickF rfl hs50 rfl) rfl ?_
              refine ol_nil (to_k0 (fun _ _ h => h) (hK16 _ _ _ ?_))
              clear hK16
              refine wp_condF rfl ?_
              refine wp_skip' (to_k0 (fun _ _ h => h) (hK6 _ _ _ ?_))
              clear hK6
              refine wp_reg ?_
              refine ol_r (r_add rfl rfl (by omega)) rfl ?_
              refine ol_r (r_move rfl) rfl ?_
              refine ol_nil (to_k0 (fun _ _ h => h) (hK3 ((k + 1, _, _, _)) _ _ ?_ ?_ (sub_cons rfl (sub_cons rfl (sub_cons rfl sub_nil))) (sub_cons rfl (sub_cons rfl (sub_cons rfl (sub_cons rfl (sub_cons rfl sub_nil))))) (by exact (subH_same rfl subH_nil)) (subH_same rfl (subH_same rfl subH_nil))))
              · try dsimp only
                have p15 : pv x15 = max x15 0 := by unfold pv; split <;> omega
                have n15 : nv x15 = (if x15 < 0 then 1 else 0) := rfl
                first
                  | (have n15' := nv_neg hc22; clear n15)
                  | (have n15' := nv_nn hc22; clear n15)
                first
                  | (exfalso; omega)
                  | (have hk1 : k + 1 - z = k - z + 1 := by omega
                     have p33 : pv x41 = max x41 0 := by unfold pv; split <;> omega
                     skip
                     first | have n33' := nv_neg hc43 | have n33' := nv_nn hc43
                     refine ⟨by omega, by rw [hk1]; omega, by rw [hk1]; omega, ?_⟩
                     first
                       | (rw [smK_known (by omega) (by omega) (by rw [hk1]; omega), ← hst]; refine congr (congr (congrArg List.set rfl) ?_) ?_ <;> first | omega | (congr 1; rw [hk1]; omega))
                       | (rw [smK_unknown (by rw [hk1]; omega)]; exact hst))
                  | (have hk1 : k + 1 - z = k - z := by omega
                     refine ⟨by omega, by rw [hk1]; omega, by rw [hk1]; omega, ?_⟩
                     first
                       | (rw [smK_known (by omega) (by omega) (by rw [hk1]; omega), ← hst]; refine congr (congr (congrArg List.set rfl) ?_) ?_ <;> first | omega | (congr 1; rw [hk1]; omega))
                       | (rw [smK_unknown (by omega)]; exact hst)
                       | (rw [smK_unknown (by rw [hk1]; omega)]; exact hst))
              · try dsimp only
                omega
        · refine wp_skip' (to_k0 (fun _ _ h => h) (hK11 _ _ _ ?_))
          clear hK11
          refine wp_seq' fun K17 hK17 => ?_
          refine wp_reg ?_
          refine ol_r (r_move rfl) rfl ?_
          refine ol_r (r_move rfl) rfl ?_
          refine ol_r (r_sub rfl rfl (by omega)) rfl ?_
          refine ol_r (r_geq rfl rfl) rfl ?_
          refine ol_r (r_move rfl) rfl ?_
          refine ol_split (d := 50) rfl (fun hs50 => ?_) (fun hs50 => ?_)
          · have phs50 := hs50; try simp only [decide_eq_true_eq, decide_eq_false_iff_not, Bool.not_eq_true', Bool.not_eq_false', Bool.not_true, Bool.not_false] at phs50
            refine ol_g rfl rfl hs50 ?_
            refine ol_r (r_move rfl) rfl ?_
            refine ol_g rfl rfl hs50 ?_
            refine ol_r (r_eql rfl rfl) rfl ?_
            refine ol_r (r_pickT rfl hs50 rfl) rfl ?_
            refine ol_nil (to_k0 (fun _ _ h => h) (hK17 _ _ _ ?_))
            clear hK17
            first | refine wp_condD rfl (fun hc53 => ?_) (fun hc53 => ?_) | refine wp_condN rfl (fun hc53 => ?_) (fun hc53 => ?_) | refine wp_condNB rfl (fun hc53 => ?_) (fun hc53 => ?_) | refine wp_cond' rfl (fun hc53 => ?_) (fun hc53 => ?_)
            · refine wp_reg ?_
              refine ol_r (r_move rfl) rfl ?_
              refine ol_r (r_move rfl) rfl ?_
              refine ol_r (r_move rfl) rfl ?_
              refine ol_r (r_sub rfl rfl (by omega)) rfl ?_
              refine ol_r (r_add rfl rfl (by omega)) rfl ?_
              refine ol_r (r_move rfl) rfl ?_
              refine ol_call rfl rfl cb105 rfl (fun w1 hb1 hs1 hB1 => ?_)
              refine Calls.mono (smooth_step B b3 b5 oa oc xs.length st z _ _ _ hB1 hz (by omega) hok.1 (by omega) (by rw [hst]; exact smK_len _ _ _) (hs1.sub (subH_same rfl (subH_same rfl (subH_same rfl subH_nil))))) ?_
              rintro e w2 ⟨rfl, hb2, hs2, hB2, hk2⟩
              refine After.sat rfl hb1 hb2 hs2 hB2 (hk2.imp fun _ h => h.elim) ?_
              clear hk2 hs2 hb2 hB2 hB1 hs1 hb1 w2 w1
              refine ol_nil (to_k0 (fun _ _ h => h) (hK6 _ _ _ ?_))
              clear hK6
              refine wp_reg ?_
              refine ol_r (r_add rfl rfl (by omega)) rfl ?_
              refine ol_r (r_move rfl) rfl ?_
              refine ol_nil (to_k0 (fun _ _ h => h) (hK3 ((k + 1, _, _, _)) _ _ ?_ ?_ (sub_cons rfl (sub_cons rfl (sub_cons rfl sub_nil))) (sub_cons rfl (sub_cons rfl (sub_cons rfl (sub_cons rfl (sub_cons rfl sub_nil))))) (by exact (subH_same rfl subH_nil)) (subH_same rfl (subH_same rfl subH_nil))))
              · try dsimp only
                have p15 : pv x15 = max x15 0 := by unfold pv; split <;> omega
                have n15 : nv x15 = (if x15 < 0 then 1 else 0) := rfl
                first
                  | (have n15' := nv_neg hc22; clear n15)
                  | (have n15' := nv_nn hc22; clear n15)
                first
                  | (exfalso; omega)
                  | (have hk1 : k + 1 - z = k - z + 1 := by omega
                     have p33 : pv x41 = max x41 0 := by unfold pv; split <;> omega
                     skip
                     first | have n33' := nv_neg hc43 | have n33' := nv_nn hc43
                     refine ⟨by omega, by rw [hk1]; omega, by rw [hk1]; omega, ?_⟩
                     first
                       | (rw [smK_known (by omega) (by omega) (by rw [hk1]; omega), ← hst]; refine congr (congr (congrArg List.set rfl) ?_) ?_ <;> first | omega | (congr 1; rw [hk1]; omega))
                       | (rw [smK_unknown (by rw [hk1]; omega)]; exact hst))
                  | (have hk1 : k + 1 - z = k - z := by omega
                     refine ⟨by omega, by rw [hk1]; omega, by rw [hk1]; omega, ?_⟩
                     first
                       | (rw [smK_known (by omega) (by omega) (by rw [hk1]; omega), ← hst]; refine congr (congr (congrArg List.set rfl) ?_) ?_ <;> first | omega | (congr 1; rw [hk1]; omega))
                       | (rw [smK_unknown (by omega)]; exact hst)
                       | (rw [smK_unknown (by rw [hk1]; omega)]; exact hst))
              · try dsimp only
                omega
            · refine wp_skip' (to_k0 (fun _ _ h => h) (hK6 _ _ _ ?_))
              clear hK6
              refine wp_reg ?_
              refine ol_r (r_add rfl rfl (by omega)) rfl ?_
              refine ol_r (r_move rfl) rfl ?_
              refine ol_nil (to_k0 (fun _ _ h => h) (hK3 ((k + 1, _, _, _)) _ _ ?_ ?_ (sub_cons rfl (sub_cons rfl (sub_cons rfl sub_nil))) (sub_cons rfl (sub_cons rfl (sub_cons rfl (sub_cons rfl (sub_cons rfl sub_nil))))) (by exact (subH_same rfl subH_nil)) (subH_same rfl (subH_same rfl subH_nil))))
              · try dsimp only
                have p15 : pv x15 = max x15 0 := by unfold pv; split <;> omega
                have n15 : nv x15 = (if x15 < 0 then 1 else 0) := rfl
                first
                  | (have n15' := nv_neg hc22; clear n15)
                  | (have n15' := nv_nn hc22; clear n15)
                first
                  | (exfalso; omega)
                  | (have hk1 : k + 1 - z = k - z + 1 := by omega
                     have p33 : pv x41 = max x41 0 := by unfold pv; split <;> omega
                     skip
                     first | have n33' := nv_neg hc43 | have n33' := nv_nn hc43
                     refine ⟨by omega, by rw [hk1]; omega, by rw [hk1]; omega, ?_⟩
                     first
                       | (rw [smK_known (by omega) (by omega) (by rw [hk1]; omega), ← hst]; refine congr (congr (congrArg List.set rfl) ?_) ?_ <;> first | omega | (congr 1; rw [hk1]; omega))
                       | (rw [smK_unknown (by rw [hk1]; omega)]; exact hst))
                  | (have hk1 : k + 1 - z = k - z := by omega
                     refine ⟨by omega, by rw [hk1]; omega, by rw [hk1]; omega, ?_⟩
                     first
                       | (rw [smK_known (by omega) (by omega) (by rw [hk1]; omega), ← hst]; refine congr (congr (congrArg List.set rfl) ?_) ?_ <;> first | omega | (congr 1; rw [hk1]; omega))
                       | (rw [smK_unknown (by omega)]; exact hst)
                       | (rw [smK_unknown (by rw [hk1]; omega)]; exact hst))
              · try dsimp only
                omega
          · have phs50 := hs50; try simp only [decide_eq_true_eq, decide_eq_false_iff_not, Bool.not_eq_true', Bool.not_eq_false', Bool.not_true, Bool.not_false] at phs50
            refine ol_s rfl rfl hs50 rfl ?_
            refine ol_s rfl rfl hs50 rfl ?_
            refine ol_r (r_pickF rfl hs50 rfl) rfl ?_
            refine ol_nil (to_k0 (fun _ _ h => h) (hK17 _ _ _ ?_))
            clear hK17
            refine wp_condF rfl ?_
            refine wp_skip' (to_k0 (fun _ _ h => h) (hK6 _ _ _ ?_))
            clear hK6
            refine wp_reg ?_
            refine ol_r (r_add rfl rfl (by omega)) rfl ?_
            refine ol_r (r_move rfl) rfl ?_
            refine ol_nil (to_k0 (fun _ _ h => h) (hK3 ((k + 1, _, _, _)) _ _ ?_ ?_ (sub_cons rfl (sub_cons rfl (sub_cons rfl sub_nil))) (sub_cons rfl (sub_cons rfl (sub_cons rfl (sub_cons rfl (sub_cons rfl sub_nil))))) (by exact (subH_same rfl subH_nil)) (subH_same rfl (subH_same rfl subH_nil))))
            · try dsimp only
              have p15 : pv x15 = max x15 0 := by unfold pv; split <;> omega
              have n15 : nv x15 = (if x15 < 0 then 1 else 0) := rfl
              first
                | (have n15' := nv_neg hc22; clear n15)
                | (have n15' := nv_nn hc22; clear n15)
              first
                | (exfalso; omega)
                | (have hk1 : k + 1 - z = k - z + 1 := by omega
                   have p33 : pv x41 = max x41 0 := by unfold pv; split <;> omega
                   skip
                   first | have n33' := nv_neg hc43 | have n33' := nv_nn hc43
                   refine ⟨by omega, by rw [hk1]; omega, by rw [hk1]; omega, ?_⟩
                   first
                     | (rw [smK_known (by omega) (by omega) (by rw [hk1]; omega), ← hst]; refine congr (congr (congrArg List.set rfl) ?_) ?_ <;> first | omega | (congr 1; rw [hk1]; omega))
                     | (rw [smK_unknown (by rw [hk1]; omega)]; exact hst))
                | (have hk1 : k + 1 - z = k - z := by omega
                   refine ⟨by omega, by rw [hk1]; omega, by rw [hk1]; omega, ?_⟩
                   first
                     | (rw [smK_known (by omega) (by omega) (by rw [hk1]; omega), ← hst]; refine congr (congr (congrArg List.set rfl) ?_) ?_ <;> first | omega | (congr 1; rw [hk1]; omega))
                     | (rw [smK_unknown (by omega)]; exact hst)
                     | (rw [smK_unknown (by rw [hk1]; omega)]; exact hst))
            · try dsimp only
              omega
      · refine wp_skip' (to_k0 (fun _ _ h => h) (hK9 _ _ _ ?_))
        clear hK9
        refine wp_seq' fun K18 hK18 => ?_
        refine wp_seq' fun K19 hK19 => ?_
        refine wp_reg ?_
        refine ol_r (r_move rfl) rfl ?_
        refine ol_r (r_move rfl) rfl ?_
        refine ol_r (r_geq rfl rfl) rfl ?_
        refine ol_nil (to_k0 (fun _ _ h => h) (hK19 _ _ _ ?_))
        clear hK19
        first | refine wp_condD rfl (fun hc27 => ?_) (fun hc27 => ?_) | refine wp_condN rfl (fun hc27 => ?_) (fun hc27 => ?_) | refine wp_condNB rfl (fun hc27 => ?_) (fun hc27 => ?_) | refine wp_cond' rfl (fun hc27 => ?_) (fun hc27 => ?_)
        · refine wp_seq' fun K20 hK20 => ?_
          refine wp_reg ?_
          refine ol_r (r_move rfl) rfl ?_
          refine ol_r (r_move rfl) rfl ?_
          refine ol_r (r_move rfl) rfl ?_
          refine ol_r (r_move rfl) rfl ?_
          refine ol_r (r_sub rfl rfl (by omega)) rfl ?_
          refine ol_ixr hl rfl rfl sl22 (by omega) rfl fun x33 hx33 => ?_
          try simp only [Int.toNat_natCast] at hx33
          have hk33 : xs[k - z]? = some x33 := by rw [← hx33]; congr 1; omega
          have r1 := pS_succ hk33
          have r2 := pU_succ hk33
          have r3 := hok.2 _ (List.mem_of_getElem? hk33)
          have r4 := pv_bd r3.2
          refine ol_r (r_ldw rfl (fun w1 hb1 hs1 hB1 => show Loads _ _ _ _ (.int .i64 x33) from Rd.loads hl ty3 hx33 hb1)) rfl ?_
          refine ol_r (r_max rfl rfl) rfl ?_
          refine ol_r (r_sub rfl rfl (by omega)) rfl ?_
          refine ol_r (r_assign rfl) rfl ?_
          refine ol_nil (to_k0 (fun _ _ h => h) (hK20 _ _ _ ?_))
          clear hK20
          refine wp_seq' fun K21 hK21 => ?_
          refine wp_reg ?_
          refine ol_r (r_move rfl) rfl ?_
          refine ol_r (r_move rfl) rfl ?_
          refine ol_r (r_move rfl) rfl ?_
          refine ol_r (r_sub rfl rfl (by omega)) rfl ?_
          refine ol_ixr hl rfl rfl sl22 (by omega) rfl fun x41 hx41 => ?_
          try simp only [Int.toNat_natCast] at hx41
          have h41 : x41 = x33 := by rw [hx33] at hx41; cases hx41; rfl
          subst h41
          have ep4 : pv x41 = max x41 0 := by unfold pv; split <;> omega
          refine ol_r (r_ldw rfl (fun w1 hb1 hs1 hB1 => show Loads _ _ _ _ (.int .i64 x41) from Rd.loads hl ty3 hx41 hb1)) rfl ?_
          refine ol_r (r_lss rfl rfl) rfl ?_
          refine ol_nil (to_k0 (fun _ _ h => h) (hK21 _ _ _ ?_))
          clear hK21
          first | refine wp_condD rfl (fun hc43 => ?_) (fun hc43 => ?_) | refine wp_condN rfl (fun hc43 => ?_) (fun hc43 => ?_) | refine wp_condNB rfl (fun hc43 => ?_) (fun hc43 => ?_) | refine wp_cond' rfl (fun hc43 => ?_) (fun hc43 => ?_)
          · refine wp_reg ?_
            refine ol_r (r_move rfl) rfl ?_
            refine ol_r (r_sub rfl rfl (by omega)) rfl ?_
            refine ol_r (r_assign rfl) rfl ?_
            refine ol_nil (to_k0 (fun _ _ h => h) (hK18 _ _ _ ?_))
            clear hK18
            refine wp_seq' fun K22 hK22 => ?_
            refine wp_reg ?_
            refine ol_r (r_move rfl) rfl ?_
            refine ol_r (r_move rfl) rfl ?_
            refine ol_r (r_sub rfl rfl (by omega)) rfl ?_
            refine ol_r (r_geq rfl rfl) rfl ?_
            refine ol_r (r_move rfl) rfl ?_
            refine ol_split (d := 50) rfl (fun hs50 => ?_) (fun hs50 => ?_)
            · have phs50 := hs50; try simp only [decide_eq_true_eq, decide_eq_false_iff_not, Bool.not_eq_true', Bool.not_eq_false', Bool.not_true, Bool.not_false] at phs50
              refine ol_g rfl rfl hs50 ?_
              refine ol_r (r_move rfl) rfl ?_
              refine ol_g rfl rfl hs50 ?_
              refine ol_r (r_eql rfl rfl) rfl ?_
              refine ol_r (r_pickT rfl hs50 rfl) rfl ?_
              refine ol_nil (to_k0 (fun _ _ h => h) (hK22 _ _ _ ?_))
              clear hK22
              first | refine wp_condD rfl (fun hc53 => ?_) (fun hc53 => ?_) | refine wp_condN rfl (fun hc53 => ?_) (fun hc53 => ?_) | refine wp_condNB rfl (fun hc53 => ?_) (fun hc53 => ?_) | refine wp_cond' rfl (fun hc53 => ?_) (fun hc53 => ?_)
              · refine wp_reg ?_
                refine ol_r (r_move rfl) rfl ?_
                refine ol_r (r_move rfl) rfl ?_
                refine ol_r (r_move rfl) rfl ?_
                refine ol_r (r_sub rfl rfl (by omega)) rfl ?_
                refine ol_r (r_add rfl rfl (by omega)) rfl ?_
                refine ol_r (r_move rfl) rfl ?_
                refine ol_call rfl rfl cb105 rfl (fun w1 hb1 hs1 hB1 => ?_)
                refine Calls.mono (smooth_step B b3 b5 oa oc xs.length st z _ _ _ hB1 hz (by omega) hok.1 (by omega) (by rw [hst]; exact smK_len _ _ _) (hs1.sub (subH_same rfl (subH_same rfl (subH_same rfl subH_nil))))) ?_
                rintro e w2 ⟨rfl, hb2, hs2, hB2, hk2⟩
                refine After.sat rfl hb1 hb2 hs2 hB2 (hk2.imp fun _ h => h.elim) ?_
                clear hk2 hs2 hb2 hB2 hB1 hs1 hb1 w2 w1
                refine ol_nil (to_k0 (fun _ _ h => h) (hK6 _ _ _ ?_))
                clear hK6
                refine wp_reg ?_
                refine ol_r (r_add rfl rfl (by omega)) rfl ?_
                refine ol_r (r_move rfl) rfl ?_
                refine ol_nil (to_k0 (fun _ _ h => h) (hK3 ((k + 1, _, _, _)) _ _ ?_ ?_ (sub_cons rfl (sub_cons rfl (sub_cons rfl sub_nil))) (sub_cons rfl (sub_cons rfl (sub_cons rfl (sub_cons rfl (sub_cons rfl sub_nil))))) (by exact (subH_same rfl subH_nil)) (subH_same rfl (subH_same rfl subH_nil))))
                · try dsimp only
                  have p15 : pv x15 = max x15 0 := by unfold pv; split <;> omega
                  have n15 : nv x15 = (if x15 < 0 then 1 else 0) := rfl
                  first
                    | (have n15' := nv_neg hc22; clear n15)
                    | (have n15' := nv_nn hc22; clear n15)
                  first
                    | (exfalso; omega)
                    | (have hk1 : k + 1 - z = k - z + 1 := by omega
                       have p33 : pv x41 = max x41 0 := by unfold pv; split <;> omega
                       skip
                       first | have n33' := nv_neg hc43 | have n33' := nv_nn hc43
                       refine ⟨by omega, by rw [hk1]; omega, by rw [hk1]; omega, ?_⟩
                       first
                         | (rw [smK_known (by omega) (by omega) (by rw [hk1]; omega), ← hst]; refine congr (congr (congrArg List.set rfl) ?_) ?_ <;> first | omega | (congr 1; rw [hk1]; omega))
                         | (rw [smK_unknown (by rw [hk1]; omega)]; exact hst))
                    | (have hk1 : k + 1 - z = k - z := by omega
                       refine ⟨by omega, by rw [hk1]; omega, by rw [hk1]; omega, ?_⟩
                       first
                         | (rw [smK_known (by omega) (by omega) (by rw [hk1]; omega), ← hst]; refine congr (congr (congrArg List.set rfl) ?_) ?_ <;> first | omega | (congr 1; rw [hk1]; omega))
                         | (rw [smK_unknown (by omega)]; exact hst)
                         | (rw [smK_unknown (by rw [hk1]; omega)]; exact hst))
                · try dsimp only
                  omega
              · refine wp_skip' (to_k0 (fun _ _ h => h) (hK6 _ _ _ ?_))
                clear hK6
                refine wp_reg ?_
                refine ol_r (r_add rfl rfl (by omega)) rfl ?_
                refine ol_r (r_move rfl) rfl ?_
                refine ol_nil (to_k0 (fun _ _ h => h) (hK3 ((k + 1, _, _, _)) _ _ ?_ ?_ (sub_cons rfl (sub_cons rfl (sub_cons rfl sub_nil))) (sub_cons rfl (sub_cons rfl (sub_cons rfl (sub_cons rfl (sub_cons rfl sub_nil))))) (by exact (subH_same rfl subH_nil)) (subH_same rfl (subH_same rfl subH_nil))))
                · try dsimp only
                  have p15 : pv x15 = max x15 0 := by unfold pv; split <;> omega
                  have n15 : nv x15 = (if x15 < 0 then 1 else 0) := rfl
                  first
                    | (have n15' := nv_neg hc22; clear n15)
                    | (have n15' := nv_nn hc22; clear n15)
                  first
                    | (exfalso; omega)
                    | (have hk1 : k + 1 - z = k - z + 1 := by omega
                       have p33 : pv x41 = max x41 0 := by unfold pv; split <;> omega
                       skip
                       first | have n33' := nv_neg hc43 | have n33' := nv_nn hc43
                       refine ⟨by omega, by rw [hk1]; omega, by rw [hk1]; omega, ?_⟩
                       first
                         | (rw [smK_known (by omega) (by omega) (by rw [hk1]; omega), ← hst]; refine congr (congr (congrArg List.set rfl) ?_) ?_ <;> first | omega | (congr 1; rw [hk1]; omega))
                         | (rw [smK_unknown (by rw [hk1]; omega)]; exact hst))
                    | (have hk1 : k + 1 - z = k - z := by omega
                       refine ⟨by omega, by rw [hk1]; omega, by rw [hk1]; omega, ?_⟩
                       first
                         | (rw [smK_known (by omega) (by omega) (by rw [hk1]; omega), ← hst]; refine congr (congr (congrArg List.set rfl) ?_) ?_ <;> first | omega | (congr 1; rw [hk1]; omega))
                         | (rw [smK_unknown (by omega)]; exact hst)
                         | (rw [smK_unknown (by rw [hk1]; omega)]; exact hst))
                · try dsimp only
                  omega
            · have phs50 := hs50; try simp only [decide_eq_true_eq, decide_eq_false_iff_not, Bool.not_eq_true', Bool.not_eq_false', Bool.not_true, Bool.not_false] at phs50
              refine ol_s rfl rfl hs50 rfl ?_
              refine ol_s rfl rfl hs50 rfl ?_
              refine ol_r (r_pickF rfl hs50 rfl) rfl ?_
              refine ol_nil (to_k0 (fun _ _ h => h) (hK22 _ _ _ ?_))
              clear hK22
              refine wp_condF rfl ?_
              refine wp_skip' (to_k0 (fun _ _ h => h) (hK6 _ _ _ ?_))
              clear hK6
              refine wp_reg ?_
              refine ol_r (r_add rfl rfl (by omega)) rfl ?_
              refine ol_r (r_move rfl) rfl ?_
              refine ol_nil (to_k0 (fun _ _ h => h) (hK3 ((k + 1, _, _, _)) _ _ ?_ ?_ (sub_cons rfl (sub_cons rfl (sub_cons rfl sub_nil))) (sub_cons rfl (sub_cons rfl (sub_cons rfl (sub_cons rfl (sub_cons rfl sub_nil))))) (by exact (subH_same rfl subH_nil)) (subH_same rfl (subH_same rfl subH_nil))))
              · try dsimp only
                have p15 : pv x15 = max x15 0 := by unfold pv; split <;> omega
                have n15 : nv x15 = (if x15 < 0 then 1 else 0) := rfl
                first
                  | (have n15' := nv_neg hc22; clear n15)
                  | (have n15' := nv_nn hc22; clear n15)
                first
                  | (exfalso; omega)
                  | (have hk1 : k + 1 - z = k - z + 1 := by omega
                     have p33 : pv x41 = max x41 0 := by unfold pv; split <;> omega
                     skip
                     first | have n33' := nv_neg hc43 | have n33' := nv_nn hc43
                     refine ⟨by omega, by rw [hk1]; omega, by rw [hk1]; omega, ?_⟩
                     first
                       | (rw [smK_known (by omega) (by omega) (by rw [hk1]; omega), ← hst]; refine congr (congr (congrArg List.set rfl) ?_) ?_ <;> first | omega | (congr 1; rw [hk1]; omega))
                       | (rw [smK_unknown (by rw [hk1]; omega)]; exact hst))
                  | (have hk1 : k + 1 - z = k - z := by omega
                     refine ⟨by omega, by rw [hk1]; omega, by rw [hk1]; omega, ?_⟩
                     first
                       | (rw [smK_known (by omega) (by omega) (by rw [hk1]; omega), ← hst]; refine congr (congr (congrArg List.set rfl) ?_) ?_ <;> first | omega | (congr 1; rw [hk1]; omega))
                       | (rw [smK_unknown (by omega)]; exact hst)
                       | (rw [smK_unknown (by rw [hk1]; omega)]; exact hst))
              · try dsimp only
                omega
          · refine wp_skip' (to_k0 (fun _ _ h => h) (hK18 _ _ _ ?_))
            clear hK18
            refine wp_seq' fun K23 hK23 => ?_
            refine wp_reg ?_
            refine ol_r (r_move rfl) rfl ?_
            refine ol_r (r_move rfl) rfl ?_
            refine ol_r (r_sub rfl rfl (by omega)) rfl ?_
            refine ol_r (r_geq rfl rfl) rfl ?_
            refine ol_r (r_move rfl) rfl ?_
            refine ol_split (d := 50) rfl (fun hs50 => ?_) (fun hs50 => ?_)
            · have phs50 := hs50; try simp only [decide_eq_true_eq, decide_eq_false_iff_not, Bool.not_eq_true', Bool.not_eq_false', Bool.not_true, Bool.not_false] at phs50
              refine ol_g rfl rfl hs50 ?_
              refine ol_r (r_move rfl) rfl ?_
              refine ol_g rfl rfl hs50 ?_
              refine ol_r (r_eql rfl rfl) rfl ?_
              refine ol_r (r_pickT rfl hs50 rfl) rfl ?_
              refine ol_nil (to_k0 (fun _ _ h => h) (hK23 _ _ _ ?_))
              clear hK23
              first | refine wp_condD rfl (fun hc53 => ?_) (fun hc53 => ?_) | refine wp_condN rfl (fun hc53 => ?_) (fun hc53 => ?_) | refine wp_condNB rfl (fun hc53 => ?_) (fun hc53 => ?_) | refine wp_cond' rfl (fun hc53 => ?_) (fun hc53 => ?_)
              · refine wp_reg ?_
                refine ol_r (r_move rfl) rfl ?_
                refine ol_r (r_move rfl) rfl ?_
                refine ol_r (r_move rfl) rfl ?_
                refine ol_r (r_sub rfl rfl (by omega)) rfl ?_
                refine ol_r (r_add rfl rfl (by omega)) rfl ?_
                refine ol_r (r_move rfl) rfl ?_
                refine ol_call rfl rfl cb105 rfl (fun w1 hb1 hs1 hB1 => ?_)
                refine Calls.mono (smooth_step B b3 b5 oa oc xs.length st z _ _ _ hB1 hz (by omega) hok.1 (by omega) (by rw [hst]; exact smK_len _ _ _) (hs1.sub (subH_same rfl (subH_same rfl (subH_same rfl subH_nil))))) ?_
                rintro e w2 ⟨rfl, hb2, hs2, hB2, hk2⟩
                refine After.sat rfl hb1 hb2 hs2 hB2 (hk2.imp fun _ h => h.elim) ?_
                clear hk2 hs2 hb2 hB2 hB1 hs1 hb1 w2 w1
                refine ol_nil (to_k0 (fun _ _ h => h) (hK6 _ _ _ ?_))
                clear hK6
                refine wp_reg ?_
                refine ol_r (r_add rfl rfl (by omega)) rfl ?_
                refine ol_r (r_move rfl) rfl ?_
                refine ol_nil (to_k0 (fun _ _ h => h) (hK3 ((k + 1, _, _, _)) _ _ ?_ ?_ (sub_cons rfl (sub_cons rfl (sub_cons rfl sub_nil))) (sub_cons rfl (sub_cons rfl (sub_cons rfl (sub_cons rfl (sub_cons rfl sub_nil))))) (by exact (subH_same rfl subH_nil)) (subH_same rfl (subH_same rfl subH_nil))))
                · try dsimp only
                  have p15 : pv x15 = max x15 0 := by unfold pv; split <;> omega
                  have n15 : nv x15 = (if x15 < 0 then 1 else 0) := rfl
                  first
                    | (have n15' := nv_neg hc22; clear n15)
                    | (have n15' := nv_nn hc22; clear n15)
                  first
                    | (exfalso; omega)
                    | (have hk1 : k + 1 - z = k - z + 1 := by omega
                       have p33 : pv x41 = max x41 0 := by unfold pv; split <;> omega
                       skip
                       first | have n33' := nv_neg hc43 | have n33' := nv_nn hc43
                       refine ⟨by omega, by rw [hk1]; omega, by rw [hk1]; omega, ?_⟩
                       first
                         | (rw [smK_known (by omega) (by omega) (by rw [hk1]; omega), ← hst]; refine congr (congr (congrArg List.set rfl) ?_) ?_ <;> first | omega | (congr 1; rw [hk1]; omega))
                         | (rw [smK_unknown (by rw [hk1]; omega)]; exact hst))
                    | (have hk1 : k + 1 - z = k - z := by omega
                       refine ⟨by omega, by rw [hk1]; omega, by rw [hk1]; omega, ?_⟩
                       first
                         | (rw [smK_known (by omega) (by omega) (by rw [hk1]; omega), ← hst]; refine congr (congr (congrArg List.set rfl) ?_) ?_ <;> first | omega | (congr 1; rw [hk1]; omega))
                         | (rw [smK_unknown (by omega)]; exact hst)
                         | (rw [smK_unknown (by rw [hk1]; omega)]; exact hst))
                · try dsimp only
                  omega
              · refine wp_skip' (to_k0 (fun _ _ h => h) (hK6 _ _ _ ?_))
                clear hK6
                refine wp_reg ?_
                refine ol_r (r_add rfl rfl (by omega)) rfl ?_
                refine ol_r (r_move rfl) rfl ?_
                refine ol_nil (to_k0 (fun _ _ h => h) (hK3 ((k + 1, _, _, _)) _ _ ?_ ?_ (sub_cons rfl (sub_cons rfl (sub_cons rfl sub_nil))) (sub_cons rfl (sub_cons rfl (sub_cons rfl (sub_cons rfl (sub_cons rfl sub_nil))))) (by exact (subH_same rfl subH_nil)) (subH_same rfl (subH_same rfl subH_nil))))
                · try dsimp only
                  have p15 : pv x15 = max x15 0 := by unfold pv; split <;> omega
                  have n15 : nv x15 = (if x15 < 0 then 1 else 0) := rfl
                  first
                    | (have n15' := nv_neg hc22; clear n15)
                    | (have n15' := nv_nn hc22; clear n15)
                  first
                    | (exfalso; omega)
                    | (have hk1 : k + 1 - z = k - z + 1 := by omega
                       have p33 : pv x41 = max x41 0 := by unfold pv; split <;> omega
                       skip
                       first | have n33' := nv_neg hc43 | have n33' := nv_nn hc43
                       refine ⟨by omega, by rw [hk1]; omega, by rw [hk1]; omega, ?_⟩
                       first
                         | (rw [smK_known (by omega) (by omega) (by rw [hk1]; omega), ← hst]; refine congr (congr (congrArg List.set rfl) ?_) ?_ <;> first | omega | (congr 1; rw [hk1]; omega))
                         | (rw [smK_unknown (by rw [hk1]; omega)]; exact hst))
                    | (have hk1 : k + 1 - z = k - z := by omega
                       refine ⟨by omega, by rw [hk1]; omega, by rw [hk1]; omega, ?_⟩
                       first
                         | (rw [smK_known (by omega) (by omega) (by rw [hk1]; omega), ← hst]; refine congr (congr (congrArg List.set rfl) ?_) ?_ <;> first | omega | (congr 1; rw [hk1]; omega))
                         | (rw [smK_unknown (by omega)]; exact hst)
                         | (rw [smK_unknown (by rw [hk1]; omega)]; exact hst))
                · try dsimp only
                  omega
            · have phs50 := hs50; try simp only [decide_eq_true_eq, decide_eq_false_iff_not, Bool.not_eq_true', Bool.not_eq_false', Bool.not_true, Bool.not_false] at phs50
              refine ol_s rfl rfl hs50 rfl ?_
              refine ol_s rfl rfl hs50 rfl ?_
              refine ol_r (r_pickF rfl hs50 rfl) rfl ?_
              refine ol_nil (to_k0 (fun _ _ h => h) (hK23 _ _ _ ?_))
              clear hK23
              refine wp_condF rfl ?_
              refine wp_skip' (to_k0 (fun _ _ h => h) (hK6 _ _ _ ?_))
              clear hK6
              refine wp_reg ?_
              refine ol_r (r_add rfl rfl (by omega)) rfl ?_
              refine ol_r (r_move rfl) rfl ?_
              refine ol_nil (to_k0 (fun _ _ h => h) (hK3 ((k + 1, _, _, _)) _ _ ?_ ?_ (sub_cons rfl (sub_cons rfl (sub_cons rfl sub_nil))) (sub_cons rfl (sub_cons rfl (sub_cons rfl (sub_cons rfl (sub_cons rfl sub_nil))))) (by exact (subH_same rfl subH_nil)) (subH_same rfl (subH_same rfl subH_nil))))
              · try dsimp only
                have p15 : pv x15 = max x15 0 := by unfold pv; split <;> omega
                have n15 : nv x15 = (if x15 < 0 then 1 else 0) := rfl
                first
                  | (have n15' := nv_neg hc22; clear n15)
                  | (have n15' := nv_nn hc22; clear n15)
                first
                  | (exfalso; omega)
                  | (have hk1 : k + 1 - z = k - z + 1 := by omega
                     have p33 : pv x41 = max x41 0 := by unfold pv; split <;> omega
                     skip
                     first | have n33' := nv_neg hc43 | have n33' := nv_nn hc43
                     refine ⟨by omega, by rw [hk1]; omega, by rw [hk1]; omega, ?_⟩
                     first
                       | (rw [smK_known (by omega) (by omega) (by rw [hk1]; omega), ← hst]; refine congr (congr (congrArg List.set rfl) ?_) ?_ <;> first | omega | (congr 1; rw [hk1]; omega))
                       | (rw [smK_unknown (by rw [hk1]; omega)]; exact hst))
                  | (have hk1 : k + 1 - z = k - z := by omega
                     refine ⟨by omega, by rw [hk1]; omega, by rw [hk1]; omega, ?_⟩
                     first
                       | (rw [smK_known (by omega) (by omega) (by rw [hk1]; omega), ← hst]; refine congr (congr (congrArg List.set rfl) ?_) ?_ <;> first | omega | (congr 1; rw [hk1]; omega))
                       | (rw [smK_unknown (by omega)]; exact hst)
                       | (rw [smK_unknown (by rw [hk1]; omega)]; exact hst))
              · try dsimp only
                omega
        · refine wp_skip' (to_k0 (fun _ _ h => h) (hK18 _ _ _ ?_))
          clear hK18
          refine wp_seq' fun K24 hK24 => ?_
          refine wp_reg ?_
          refine ol_r (r_move rfl) rfl ?_
          refine ol_r (r_move rfl) rfl ?_
          refine ol_r (r_sub rfl rfl (by omega)) rfl ?_
          refine ol_r (r_geq rfl rfl) rfl ?_
          refine ol_r (r_move rfl) rfl ?_
          refine ol_split (d := 50) rfl (fun hs50 => ?_) (fun hs50 => ?_)
          · have phs50 := hs50; try simp only [decide_eq_true_eq, decide_eq_false_iff_not, Bool.not_eq_true', Bool.not_eq_false', Bool.not_true, Bool.not_false] at phs50
            refine ol_g rfl rfl hs50 ?_
            refine ol_r (r_move rfl) rfl ?_
            refine ol_g rfl rfl hs50 ?_
            refine ol_r (r_eql rfl rfl) rfl ?_
            refine ol_r (r_pickT rfl hs50 rfl) rfl ?_
            refine ol_nil (to_k0 (fun _ _ h => h) (hK24 _ _ _ ?_))
            clear hK24
            first | refine wp_condD rfl (fun hc53 => ?_) (fun hc53 => ?_) | refine wp_condN rfl (fun hc53 => ?_) (fun hc53 => ?_) | refine wp_condNB rfl (fun hc53 => ?_) (fun hc53 => ?_) | refine wp_cond' rfl (fun hc53 => ?_) (fun hc53 => ?_)
            · refine wp_reg ?_
              refine ol_r (r_move rfl) rfl ?_
              refine ol_r (r_move rfl) rfl ?_
              refine ol_r (r_move rfl) rfl ?_
              refine ol_r (r_sub rfl rfl (by omega)) rfl ?_
              refine ol_r (r_add rfl rfl (by omega)) rfl ?_
              refine ol_r (r_move rfl) rfl ?_
              refine ol_call rfl rfl cb105 rfl (fun w1 hb1 hs1 hB1 => ?_)
              refine Calls.mono (smooth_step B b3 b5 oa oc xs.length st z _ _ _ hB1 hz (by omega) hok.1 (by omega) (by rw [hst]; exact smK_len _ _ _) (hs1.sub (subH_same rfl (subH_same rfl (subH_same rfl subH_nil))))) ?_
              rintro e w2 ⟨rfl, hb2, hs2, hB2, hk2⟩
              refine After.sat rfl hb1 hb2 hs2 hB2 (hk2.imp fun _ h => h.elim) ?_
              clear hk2 hs2 hb2 hB2 hB1 hs1 hb1 w2 w1
              refine ol_nil (to_k0 (fun _ _ h => h) (hK6 _ _ _ ?_))
              clear hK6
              refine wp_reg ?_
              refine ol_r (r_add rfl rfl (by omega)) rfl ?_
              refine ol_r (r_move rfl) rfl ?_
              refine ol_nil (to_k0 (fun _ _ h => h) (hK3 ((k + 1, _, _, _)) _ _ ?_ ?_ (sub_cons rfl (sub_cons rfl (sub_cons rfl sub_nil))) (sub_cons rfl (sub_cons rfl (sub_cons rfl (sub_cons rfl (sub_cons rfl sub_nil))))) (by exact (subH_same rfl subH_nil)) (subH_same rfl (subH_same rfl subH_nil))))
              · try dsimp only
                have p15 : pv x15 = max x15 0 := by unfold pv; split <;> omega
                have n15 : nv x15 = (if x15 < 0 then 1 else 0) := rfl
                first
                  | (have n15' := nv_neg hc22; clear n15)
                  | (have n15' := nv_nn hc22; clear n15)
                first
                  | (exfalso; omega)
                  | (have hk1 : k + 1 - z = k - z + 1 := by omega
                     have p33 : pv x41 = max x41 0 := by unfold pv; split <;> omega
                     skip
                     first | have n33' := nv_neg hc43 | have n33' := nv_nn hc43
                     refine ⟨by omega, by rw [hk1]; omega, by rw [hk1]; omega, ?_⟩
                     first
                       | (rw [smK_known (by omega) (by omega) (by rw [hk1]; omega), ← hst]; refine congr (congr (congrArg List.set rfl) ?_) ?_ <;> first | omega | (congr 1; rw [hk1]; omega))
                       | (rw [smK_unknown (by rw [hk1]; omega)]; exact hst))
                  | (have hk1 : k + 1 - z = k - z := by omega
                     refine ⟨by omega, by rw [hk1]; omega, by rw [hk1]; omega, ?_⟩
                     first
                       | (rw [smK_known (by omega) (by omega) (by rw [hk1]; omega), ← hst]; refine congr (congr (congrArg List.set rfl) ?_) ?_ <;> first | omega | (congr 1; rw [hk1]; omega))
                       | (rw [smK_unknown (by omega)]; exact hst)
                       | (rw [smK_unknown (by rw [hk1]; omega)]; exact hst))
              · try dsimp only
                omega
            · refine wp_skip' (to_k0 (fun _ _ h => h) (hK6 _ _ _ ?_))
              clear hK6
              refine wp_reg ?_
              refine ol_r (r_add rfl rfl (by omega)) rfl ?_
              refine ol_r (r_move rfl) rfl ?_
              refine ol_nil (to_k0 (fun _ _ h => h) (hK3 ((k + 1, _, _, _)) _ _ ?_ ?_ (sub_cons rfl (sub_cons rfl (sub_cons rfl sub_nil))) (sub_cons rfl (sub_cons rfl (sub_cons rfl (sub_cons rfl (sub_cons rfl sub_nil))))) (by exact (subH_same rfl subH_nil)) (subH_same rfl (subH_same rfl subH_nil))))
              · try dsimp only
                have p15 : pv x15 = max x15 0 := by unfold pv; split <;> omega
                have n15 : nv x15 = (if x15 < 0 then 1 else 0) := rfl
                first
                  | (have n15' := nv_neg hc22; clear n15)
                  | (have n15' := nv_nn hc22; clear n15)
                first
                  | (exfalso; omega)
                  | (have hk1 : k + 1 - z = k - z + 1 := by omega
                     have p33 : pv x41 = max x41 0 := by unfold pv; split <;> omega
                     skip
                     first | have n33' := nv_neg hc43 | have n33' := nv_nn hc43
                     refine ⟨by omega, by rw [hk1]; omega, by rw [hk1]; omega, ?_⟩
                     first
                       | (rw [smK_known (by omega) (by omega) (by rw [hk1]; omega), ← hst]; refine congr (congr (congrArg List.set rfl) ?_) ?_ <;> first | omega | (congr 1; rw [hk1]; omega))
                       | (rw [smK_unknown (by rw [hk1]; omega)]; exact hst))
                  | (have hk1 : k + 1 - z = k - z := by omega
                     refine ⟨by omega, by rw [hk1]; omega, by rw [hk1]; omega, ?_⟩
                     first
                       | (rw [smK_known (by omega) (by omega) (by rw [hk1]; omega), ← hst]; refine congr (congr (congrArg List.set rfl) ?_) ?_ <;> first | omega | (congr 1; rw [hk1]; omega))
                       | (rw [smK_unknown (by omega)]; exact hst)
                       | (rw [smK_unknown (by rw [hk1]; omega)]; exact hst))
              · try dsimp only
                omega
          · have phs50 := hs50; try simp only [decide_eq_true_eq, decide_eq_false_iff_not, Bool.not_eq_true', Bool.not_eq_false', Bool.not_true, Bool.not_false] at phs50
            refine ol_s rfl rfl hs50 rfl ?_
            refine ol_s rfl rfl hs50 rfl ?_
            refine ol_r (r_pickF rfl hs50 rfl) rfl ?_
            refine ol_nil (to_k0 (fun _ _ h => h) (hK24 _ _ _ ?_))
            clear hK24
            refine wp_condF rfl ?_
            refine wp_skip' (to_k0 (fun _ _ h => h) (hK6 _ _ _ ?_))
            clear hK6
            refine wp_reg ?_
            refine ol_r (r_add rfl rfl (by omega)) rfl ?_
            refine ol_r (r_move rfl) rfl ?_
            refine ol_nil (to_k0 (fun _ _ h => h) (hK3 ((k + 1, _, _, _)) _ _ ?_ ?_ (sub_cons rfl (sub_cons rfl (sub_cons rfl sub_nil))) (sub_cons rfl (sub_cons rfl (sub_cons rfl (sub_cons rfl (sub_cons rfl sub_nil))))) (by exact (subH_same rfl subH_nil)) (subH_same rfl (subH_same rfl subH_nil))))
            · try dsimp only
              have p15 : pv x15 = max x15 0 := by unfold pv; split <;> omega
              have n15 : nv x15 = (if x15 < 0 then 1 else 0) := rfl
              first
                | (have n15' := nv_neg hc22; clear n15)
                | (have n15' := nv_nn hc22; clear n15)
              first
                | (exfalso; omega)
                | (have hk1 : k + 1 - z = k - z + 1 := by omega
                   have p33 : pv x41 = max x41 0 := by unfold pv; split <;> omega
                   skip
                   first | have n33' := nv_neg hc43 | have n33' := nv_nn hc43
                   refine ⟨by omega, by rw [hk1]; omega, by rw [hk1]; omega, ?_⟩
                   first
                     | (rw [smK_known (by omega) (by omega) (by rw [hk1]; omega), ← hst]; refine congr (congr (congrArg List.set rfl) ?_) ?_ <;> first | omega | (congr 1; rw [hk1]; omega))
                     | (rw [smK_unknown (by rw [hk1]; omega)]; exact hst))
                | (have hk1 : k + 1 - z = k - z := by omega
                   refine ⟨by omega, by rw [hk1]; omega, by rw [hk1]; omega, ?_⟩
                   first
                     | (rw [smK_known (by omega) (by omega) (by rw [hk1]; omega), ← hst]; refine congr (congr (congrArg List.set rfl) ?_) ?_ <;> first | omega | (congr 1; rw [hk1]; omega))
                     | (rw [smK_unknown (by omega)]; exact hst)
                     | (rw [smK_unknown (by rw [hk1]; omega)]; exact hst))
            · try dsimp only
              omega
    · refine wp_exit' (hQ.fall rvs0 (fun _ _ h => h) fun w hb hs hB hkd => ?_)
      refine ⟨rfl, hb, hs.sub ?_, hB, hkd⟩
      have hkn : k = xs.length := by omega
      subst hkn
      rw [← hst]
      exact subH_same rfl (subH_same rfl (subH_same rfl subH_nil))
theorem fillm_set {n k : Nat} (hk : k < n) : (List.replicate k (-1 : Int) ++ List.replicate (n - k) 0).set k (-1) = List.replicate (k + 1) (-1) ++ List.replicate (n - (k + 1)) 0 := by
  have : n - k = (n - (k + 1)) + 1 := by omega
  rw [List.set_append_right _ _ (by simp), this, List.length_replicate, Nat.sub_self, List.replicate_succ (n := n - (k + 1)), List.set_cons_zero, List.replicate_succ' (n := k), List.append_assoc]
  rfl
theorem smK_zero (xs : List Int) (z : Nat) : smK xs z 0 = List.replicate xs.length (-1) := by
  apply List.ext_getElem
  · simp [smK]
  · intro i h1 h2; simp [smK]
theorem effort_smooth (a : Option Addr) (n cap : Nat) (xs : List Int) (z : Nat) (w : World) (hl : Rd encI w.heap.size w a n cap xs) (hz : 1 ≤ z ∧ z ≤ 1000000) (hx : streamR xs = 0) :
    Calls Try.prog 99 #[.slice a n cap, .int .i64 z] w fun e w' => ∃ b m k, e = .returned (.slice b m k) ∧ Fresh encI 3 w w' b m k (smK xs z n) := by
  have hn := hl.len
  have hfit := hl.fit
  subst hn
  have hok := streamR_ok hx
  refine enterQ (N := 24) (C := fun _ => True) (H := []) (B := w.heap.size) (args := [_, _]) Try.func99 rfl rfl rfl (Nat.le_refl _) (Sat.nil _ _) fun Q hQ => ?_
  refine wp_seq' fun K1 hK1 => ?_
  refine wp_reg ?_
  refine ol_box 3 rfl rfl rfl fun b3 => ?_
  refine ol_r (r_assign rfl) rfl ?_
  refine ol_nil (to_k0 (fun _ _ h => h) (hK1 _ _ _ ?_))
  clear hK1
  refine wp_seq' fun K2 hK2 => ?_
  refine wp_reg ?_
  refine ol_r (r_move rfl) rfl ?_
  refine ol_r (r_len rfl sl22) rfl ?_
  refine ol_make encI (0) 9 rfl rfl rw22 z3 rfl rfl (by omega) rfl fun a9 => ?_
  refine ol_alloc 5 z22 rfl fun b5 => ?_
  refine ol_store (id := 5) rfl rfl rfl rfl sz22 rfl rfl (by first | decide | exact Nat.zero_lt_succ _ | simp) ?_
  refine ol_nil (to_k0 (fun _ _ h => h) (hK2 _ _ _ ?_))
  clear hK2
  refine wp_seq' fun K3 hK3 => ?_
  refine wp_seq' fun K4 hK4 => ?_
  refine wp_reg ?_
  simp only [Int.toNat_natCast]
  refine ol_r (r_ld (id := 5) rfl rfl rfl sc22) rfl ?_
  refine ol_r (r_len rfl sl22) rfl ?_
  refine ol_r (r_move rfl) rfl ?_
  refine ol_nil (to_k0 (fun _ _ h => h) (hK4 _ _ _ ?_))
  clear hK4
  refine wp_block' ?_
  apply wp_loopM (σ := Nat) (fun s => s ≤ xs.length) (fun s => [(12, .int .i64 s)]) [(0, _), (3, _), (4, _), (5, _), (11, _)] (fun s => [(9, .row a9 xs.length xs.length (encI.enc (List.replicate s (-1) ++ List.replicate (xs.length - s) 0)) 3 1)]) [(3, _), (5, _)] (fun s => xs.length - s) (0)
  · try dsimp only
    simp
  · exact (sub_cons rfl sub_nil)
  · exact (sub_cons rfl (sub_cons rfl (sub_cons rfl (sub_cons rfl (sub_cons rfl sub_nil)))))
  · exact (subH_row rfl (by first | (dsimp only; simp; done) | (simp; done) | (dsimp only; done)) subH_nil)
  · exact (subH_same rfl (subH_same rfl subH_nil))
  · intro k hk
    intro K5 hK5
    refine wp_seq' fun K6 hK6 => ?_
    refine wp_reg ?_
    refine ol_r (r_lss rfl rfl) rfl ?_
    refine ol_nil (to_k0 (fun _ _ h => h) (hK6 _ _ _ ?_))
    clear hK6
    refine wp_seq' fun K7 hK7 => ?_
    first | refine wp_condD rfl (fun hc13 => ?_) (fun hc13 => ?_) | refine wp_condN rfl (fun hc13 => ?_) (fun hc13 => ?_) | refine wp_condNB rfl (fun hc13 => ?_) (fun hc13 => ?_) | refine wp_cond' rfl (fun hc13 => ?_) (fun hc13 => ?_)
    · refine wp_skip' (to_k0 (fun _ _ h => h) (hK7 _ _ _ ?_))
      clear hK7
      refine wp_seq' fun K8 hK8 => ?_
      refine wp_block' ?_
      refine wp_seq' fun K9 hK9 => ?_
      refine wp_reg ?_
      refine ol_r (r_move rfl) rfl ?_
      refine ol_r (r_assign rfl) rfl ?_
      refine ol_nil (to_k0 (fun _ _ h => h) (hK9 _ _ _ ?_))
      clear hK9
      refine wp_reg ?_
      refine ol_r (r_ld (id := 5) rfl rfl rfl sc22) rfl ?_
      refine ol_r (r_move rfl) rfl ?_
      refine ol_ixo (id := 9) encI _ rfl rfl rfl rfl sl22 (by omega) rfl fun x17 hx17 => ?_
      try simp only [Int.toNat_natCast] at hx17
      try simp only [Int.toNat_natCast] at hx17
      refine ol_storeRow (id := 9) _ _ _ rfl rfl rfl rfl sz3 (by omega) ?_
      refine ol_nil (to_k0 (fun _ _ h => h) (hK8 _ _ _ ?_))
      clear hK8
      refine wp_reg ?_
      refine ol_r (r_add rfl rfl (by omega)) rfl ?_
      refine ol_r (r_move rfl) rfl ?_
      refine ol_nil (to_k0 (fun _ _ h => h) (hK5 (k + 1) _ _ ?_ ?_ (sub_cons rfl sub_nil) (sub_cons rfl (sub_cons rfl (sub_cons rfl (sub_cons rfl (sub_cons rfl sub_nil))))) (by exact (subH_row rfl (by first | (dsimp only; rw [Int.toNat_natCast, fillm_set (by omega)]; done) | (rw [Int.toNat_natCast, fillm_set (by omega)]; done) | (dsimp only; done)) subH_nil)) (subH_same rfl (subH_same rfl subH_nil))))
      · try dsimp only
        omega
      · try dsimp only
        omega
    · refine wp_exit' (to_k0 (fun _ _ h => h) (hK3 _ _ _ ?_))
      clear hK3
      refine wp_seq' fun K10 hK10 => ?_
      refine wp_reg ?_
      refine ol_r (r_move rfl) rfl ?_
      refine ol_r (r_ld (id := 3) rfl rfl rfl sc3) rfl ?_
      refine ol_r (r_func rfl) rfl ?_
      refine ol_call rfl rfl cb104 rfl (fun w1 hb1 hs1 hB1 => ?_)
      have hk : k = xs.length := by omega
      subst hk
      rw [Nat.sub_self, List.replicate_zero, List.append_nil, ← smK_zero xs z] at hs1
      refine Calls.mono (windows_smooth w.heap.size b3 b5 a9 _ a _ cap xs z _ (hl.below hb1) hz hx hB1 (hs1.three 9 3 5 100 101 102 (by decide) (by decide) (by decide) rfl rfl rfl (Ent.le_refl _) (Ent.le_refl _) ⟨rfl, rfl, Sub.out (sub_cons rfl sub_nil)⟩)) ?_
      rintro e w2 ⟨rfl, hb2, hs2, hB2, hk2⟩
      refine After.sat rfl hb1 hb2 (hs2.three 100 101 102 9 3 5 (by decide) (by decide) (by decide) rfl rfl rfl (Ent.le_refl _) (Ent.le_refl _) (Ent.le_refl _)) hB2 (hk2.imp fun _ h => h.elim) ?_
      clear hk2 hs2 hb2 hB2 hB1 hs1 hb1 w2 w1
      refine ol_nil (to_k0 (fun _ _ h => h) (hK10 _ _ _ ?_))
      clear hK10
      refine wp_seq' fun K11 hK11 => ?_
      refine wp_reg ?_
      refine ol_r (r_ld (id := 5) rfl rfl rfl sc22) rfl ?_
      refine ol_r (r_assign rfl) rfl ?_
      refine ol_nil (to_k0 (fun _ _ h => h) (hK11 _ _ _ ?_))
      clear hK11
      refine hQ.ret (rvs1 (rv_t rfl)) (fun _ _ h => h) fun w hb hs hB hkd => ?_
      exact ⟨_, _, _, rfl, hb, hs.ok 9 _ rfl⟩
def smL (xs : List Int) (z k : Nat) : List Int := (List.range k).map (smV xs z)
theorem smL_succ (xs : List Int) (z k : Nat) : smL xs z (k + 1) = smL xs z k ++ [smV xs z k] := by unfold smL; rw [List.range_succ, List.map_append]; rfl
theorem smK_full (xs : List Int) (z : Nat) : smK xs z xs.length = smL xs z xs.length := by
  unfold smK smL
  apply List.map_congr_left
  intro i hi
  rw [if_pos (List.mem_range.1 hi)]
theorem ref_smooth (a : Option Addr) (n cap : Nat) (xs : List Int) (z : Nat) (w : World) (hl : Rd encI w.heap.size w a n cap xs) (hz : 1 ≤ z ∧ z ≤ 1000000) (hx : streamR xs = 0) :
    Calls Try.prog 100 #[.slice a n cap, .int .i64 z] w fun e w' => ∃ b m k, e = .returned (.slice b m k) ∧ Fresh encI 3 w w' b m k (smK xs z n) := by
  have hn := hl.len
  have hfit := hl.fit
  subst hn
  have hok := streamR_ok hx
  refine enterQ (N := 43) (C := fun _ => True) (H := []) (B := w.heap.size) (args := [_, _]) Try.func100 rfl rfl rfl (Nat.le_refl _) (Sat.nil _ _) fun Q hQ => ?_
  refine wp_seq' fun K1 hK1 => ?_
  refine wp_reg ?_
  refine ol_r (r_assign rfl) rfl ?_
  refine ol_nil (to_k0 (fun _ _ h => h) (hK1 _ _ _ ?_))
  clear hK1
  refine wp_seq' fun K2 hK2 => ?_
  refine wp_reg ?_
  refine ol_r (r_move rfl) rfl ?_
  refine ol_call rfl rfl cb106 rfl (fun w1 hb1 hs1 hB1 => ?_)
  refine Calls.mono (ref_sumsOf a _ cap xs _ (hl.at hb1 hB1) hx) ?_
  rintro e w2 ⟨a1, c1, a2, c2, rfl, hb2, hs2⟩
  refine After.more rfl hb1 hs1 hB1 hb2 hs2 ?_
  clear hs2 hb2 hB1 hs1 hb1 w2 w1
  refine ol_alloc 5 z116 rfl fun b5 => ?_
  refine ol_store (id := 5) rfl rfl rfl rfl sz116 rfl rfl (by first | decide | exact Nat.zero_lt_succ _ | simp) ?_
  refine ol_nil (to_k0 (fun _ _ h => h) (hK2 _ _ _ ?_))
  clear hK2
  refine wp_seq' fun K3 hK3 => ?_
  refine wp_reg ?_
  refine ol_nilrow 6 3 1 ?_
  refine ol_r (r_assign rfl) rfl ?_
  refine ol_nil (to_k0 (fun _ _ h => h) (hK3 _ _ _ ?_))
  clear hK3
  refine wp_seq' fun K4 hK4 => ?_
  refine wp_seq' fun K5 hK5 => ?_
  refine wp_reg ?_
  refine ol_r (r_move rfl) rfl ?_
  refine ol_r (r_len rfl sl22) rfl ?_
  refine ol_r (r_move rfl) rfl ?_
  refine ol_nil (to_k0 (fun _ _ h => h) (hK5 _ _ _ ?_))
  clear hK5
  refine wp_block' ?_
  apply wp_loopM (σ := Nat × Option Addr × Nat) (fun s => s.1 ≤ xs.length) (fun s => [(15, .int .i64 s.1), (6, .slice s.2.1 s.1 s.2.2)]) [(1, _), (4, _), (5, _), (14, _)] (fun s => [(6, .row s.2.1 s.1 s.2.2 (encI.enc (smL xs z s.1)) 3 1)]) [(5, _), (1001, _), (1002, _)] (fun s => xs.length - s.1) ((0, none, 0))
  · try dsimp only
    exact Nat.zero_le _
  · exact (sub_cons rfl (sub_cons rfl sub_nil))
  · exact (sub_cons rfl (sub_cons rfl (sub_cons rfl (sub_cons rfl sub_nil))))
  · exact (subH_row rfl (by first | (dsimp only; rfl; done) | (rfl; done) | (dsimp only; done)) subH_nil)
  · exact (subH_same rfl (subH_same rfl (subH_same rfl subH_nil)))
  · rintro ⟨i, oa, oc⟩ hi
    dsimp only at hi ⊢
    intro K6 hK6
    refine wp_seq' fun K7 hK7 => ?_
    refine wp_reg ?_
    refine ol_r (r_lss rfl rfl) rfl ?_
    refine ol_nil (to_k0 (fun _ _ h => h) (hK7 _ _ _ ?_))
    clear hK7
    refine wp_seq' fun K8 hK8 => ?_
    first | refine wp_condD rfl (fun hc16 => ?_) (fun hc16 => ?_) | refine wp_condN rfl (fun hc16 => ?_) (fun hc16 => ?_) | refine wp_condNB rfl (fun hc16 => ?_) (fun hc16 => ?_) | refine wp_cond' rfl (fun hc16 => ?_) (fun hc16 => ?_)
    · refine wp_skip' (to_k0 (fun _ _ h => h) (hK8 _ _ _ ?_))
      clear hK8
      refine wp_seq' fun K9 hK9 => ?_
      refine wp_block' ?_
      refine wp_seq' fun K10 hK10 => ?_
      refine wp_reg ?_
      refine ol_r (r_move rfl) rfl ?_
      refine ol_r (r_assign rfl) rfl ?_
      refine ol_nil (to_k0 (fun _ _ h => h) (hK10 _ _ _ ?_))
      clear hK10
      refine wp_seq' fun K11 hK11 => ?_
      refine wp_reg ?_
      refine ol_r (r_assign rfl) rfl ?_
      refine ol_nil (to_k0 (fun _ _ h => h) (hK11 _ _ _ ?_))
      clear hK11
      refine wp_seq' fun K12 hK12 => ?_
      refine wp_seq' fun K13 hK13 => ?_
      refine wp_reg ?_
      refine ol_r (r_move rfl) rfl ?_
      refine ol_r (r_add rfl rfl (by omega)) rfl ?_
      refine ol_r (r_move rfl) rfl ?_
      refine ol_r (r_geq rfl rfl) rfl ?_
      refine ol_nil (to_k0 (fun _ _ h => h) (hK13 _ _ _ ?_))
      clear hK13
      first | refine wp_condD rfl (fun hc21 => ?_) (fun hc21 => ?_) | refine wp_condN rfl (fun hc21 => ?_) (fun hc21 => ?_) | refine wp_condNB rfl (fun hc21 => ?_) (fun hc21 => ?_) | refine wp_cond' rfl (fun hc21 => ?_) (fun hc21 => ?_)
      · refine wp_seq' fun K14 hK14 => ?_
        refine wp_reg ?_
        refine ol_r (r_lda (id := 5) (n := 2) rfl rfl rfl ag116) rfl ?_
        refine ol_r (r_move rfl) rfl ?_
        refine ol_r (r_add rfl rfl (by omega)) rfl ?_
        refine ol_r (r_move rfl) rfl ?_
        refine ol_r (r_sub rfl rfl (by omega)) rfl ?_
        refine ol_r (r_move rfl) rfl ?_
        refine ol_r (r_add rfl rfl (by omega)) rfl ?_
        have e1 : ((i : Int) + 1 - (z : Int)) = ((i + 1 - z : Nat) : Int) := by omega
        simp only [e1]
        refine ol_call rfl rfl cb107 rfl (fun w1 hb1 hs1 hB1 => Calls.mono (ref_window _ _ _ _ _ xs xs.length (i + 1 - z) (i + 1) _ (Sat.rd hs1 (id := 1001) rfl rfl) (Sat.rd hs1 (id := 1002) rfl rfl) rfl (by omega) (by omega) hok.1 hok.2) ?_)
        rintro e w2 ⟨rfl, hb2⟩
        refine After.below rfl hb1 hs1 hB1 hb2 ?_
        clear hb2 hB1 hs1 hb1 w2 w1
        refine ol_r (r_move rfl) rfl ?_
        refine ol_r (r_extract rfl rfl) rfl ?_
        refine ol_r (r_extract rfl rfl) rfl ?_
        refine ol_r (r_assign rfl) rfl ?_
        refine ol_r (r_assign rfl) rfl ?_
        refine ol_nil (to_k0 (fun _ _ h => h) (hK14 _ _ _ ?_))
        clear hK14
        refine wp_seq' fun K15 hK15 => ?_
        refine wp_reg ?_
        refine ol_r (r_move rfl) rfl ?_
        refine ol_nil (to_k0 (fun _ _ h => h) (hK15 _ _ _ ?_))
        clear hK15
        first | refine wp_condD rfl (fun hc33 => ?_) (fun hc33 => ?_) | refine wp_condN rfl (fun hc33 => ?_) (fun hc33 => ?_) | refine wp_condNB rfl (fun hc33 => ?_) (fun hc33 => ?_) | refine wp_cond' rfl (fun hc33 => ?_) (fun hc33 => ?_)
        · refine wp_reg ?_
          refine ol_r (r_move rfl) rfl ?_
          refine ol_r (r_move rfl) rfl ?_
          have q5 := pS_mono (xs := xs) (show i + 1 - z ≤ i + 1 by omega)
          have q6 := pS_bd hok.1 hok.2 (i + 1)
          have q7 := pS_bd hok.1 hok.2 (i + 1 - z)
          first | refine ol_r (r_quo rfl rfl (by omega)) rfl ?_ | refine ol_r (r_tquo rfl rfl (by omega)) rfl ?_
          refine ol_r (r_assign rfl) rfl ?_
          refine ol_nil (to_k0 (fun _ _ h => h) (hK12 _ _ _ ?_))
          clear hK12
          refine wp_reg ?_
          refine ol_r (r_move rfl) rfl ?_
          refine ol_r (r_move rfl) rfl ?_
          refine ol_bs1 39 rfl rfl rw22 rfl rfl rfl fun a39 => ?_
          refine ol_append1 (id := 6) (id2 := 39) rfl rfl rfl rfl rfl rw22 (by omega) rfl fun a40 c40 => ?_
          refine ol_r (r_assign rfl) rfl ?_
          refine ol_nil (to_k0 (fun _ _ h => h) (hK9 _ _ _ ?_))
          clear hK9
          refine wp_reg ?_
          refine ol_r (r_add rfl rfl (by omega)) rfl ?_
          refine ol_r (r_move rfl) rfl ?_
          refine ol_nil (to_k0 (fun _ _ h => h) (hK6 ((i + 1, _, _)) _ _ ?_ ?_ (sub_cons rfl (sub_cons rfl sub_nil)) (sub_cons rfl (sub_cons rfl (sub_cons rfl (sub_cons rfl sub_nil)))) (by exact (subH_row rfl (by first | (dsimp only; rw [smL_succ, encI_snoc]; unfold smV; first | (rw [if_pos ⟨by omega, by simpa using hc33⟩]; done) | (rw [if_neg (fun h => by first | (have := h.1; omega) | exact absurd h.2 (by simpa using hc33))]; done); done) | (rw [smL_succ, encI_snoc]; unfold smV; first | (rw [if_pos ⟨by omega, by simpa using hc33⟩]; done) | (rw [if_neg (fun h => by first | (have := h.1; omega) | exact absurd h.2 (by simpa using hc33))]; done); done) | (dsimp only; done)) subH_nil)) (subH_same rfl (subH_same rfl (subH_same rfl subH_nil)))))
          · try dsimp only
            omega
          · try dsimp only
            omega
        · refine wp_skip' (to_k0 (fun _ _ h => h) (hK12 _ _ _ ?_))
          clear hK12
          refine wp_reg ?_
          refine ol_r (r_move rfl) rfl ?_
          refine ol_r (r_move rfl) rfl ?_
          refine ol_bs1 39 rfl rfl rw22 rfl rfl rfl fun a39 => ?_
          refine ol_append1 (id := 6) (id2 := 39) rfl rfl rfl rfl rfl rw22 (by omega) rfl fun a40 c40 => ?_
          refine ol_r (r_assign rfl) rfl ?_
          refine ol_nil (to_k0 (fun _ _ h => h) (hK9 _ _ _ ?_))
          clear hK9
          refine wp_reg ?_
          refine ol_r (r_add rfl rfl (by omega)) rfl ?_
          refine ol_r (r_move rfl) rfl ?_
          refine ol_nil (to_k0 (fun _ _ h => h) (hK6 ((i + 1, _, _)) _ _ ?_ ?_ (sub_cons rfl (sub_cons rfl sub_nil)) (sub_cons rfl (sub_cons rfl (sub_cons rfl (sub_cons rfl sub_nil)))) (by exact (subH_row rfl (by first | (dsimp only; rw [smL_succ, encI_snoc]; unfold smV; first | (rw [if_pos ⟨by omega, by simpa using hc33⟩]; done) | (rw [if_neg (fun h => by first | (have := h.1; omega) | exact absurd h.2 (by simpa using hc33))]; done); done) | (rw [smL_succ, encI_snoc]; unfold smV; first | (rw [if_pos ⟨by omega, by simpa using hc33⟩]; done) | (rw [if_neg (fun h => by first | (have := h.1; omega) | exact absurd h.2 (by simpa using hc33))]; done); done) | (dsimp only; done)) subH_nil)) (subH_same rfl (subH_same rfl (subH_same rfl subH_nil)))))
          · try dsimp only
            omega
          · try dsimp only
            omega
      · refine wp_skip' (to_k0 (fun _ _ h => h) (hK12 _ _ _ ?_))
        clear hK12
        refine wp_reg ?_
        refine ol_r (r_move rfl) rfl ?_
        refine ol_r (r_move rfl) rfl ?_
        refine ol_bs1 39 rfl rfl rw22 rfl rfl rfl fun a39 => ?_
        refine ol_append1 (id := 6) (id2 := 39) rfl rfl rfl rfl rfl rw22 (by omega) rfl fun a40 c40 => ?_
        refine ol_r (r_assign rfl) rfl ?_
        refine ol_nil (to_k0 (fun _ _ h => h) (hK9 _ _ _ ?_))
        clear hK9
        refine wp_reg ?_
        refine ol_r (r_add rfl rfl (by omega)) rfl ?_
        refine ol_r (r_move rfl) rfl ?_
        refine ol_nil (to_k0 (fun _ _ h => h) (hK6 ((i + 1, _, _)) _ _ ?_ ?_ (sub_cons rfl (sub_cons rfl sub_nil)) (sub_cons rfl (sub_cons rfl (sub_cons rfl (sub_cons rfl sub_nil)))) (by exact (subH_row rfl (by first | (dsimp only; rw [smL_succ, encI_snoc]; unfold smV; first | (rw [if_pos ⟨by omega, by simpa using hc33⟩]; done) | (rw [if_neg (fun h => by first | (have := h.1; omega) | exact absurd h.2 (by simpa using hc33))]; done); done) | (rw [smL_succ, encI_snoc]; unfold smV; first | (rw [if_pos ⟨by omega, by simpa using hc33⟩]; done) | (rw [if_neg (fun h => by first | (have := h.1; omega) | exact absurd h.2 (by simpa using hc33))]; done); done) | (dsimp only; done)) subH_nil)) (subH_same rfl (subH_same rfl (subH_same rfl subH_nil)))))
        · try dsimp only
          omega
        · try dsimp only
          omega
    · refine wp_exit' (to_k0 (fun _ _ h => h) (hK4 _ _ _ ?_))
      clear hK4
      refine wp_seq' fun K16 hK16 => ?_
      refine wp_reg ?_
      refine ol_r (r_move rfl) rfl ?_
      refine ol_r (r_assign rfl) rfl ?_
      refine ol_nil (to_k0 (fun _ _ h => h) (hK16 _ _ _ ?_))
      clear hK16
      refine hQ.ret (rvs1 (rv_t rfl)) (fun _ _ h => h) fun w hb hs hB hkd => ?_
      have hin : i = xs.length := by omega
      subst hin
      rw [smK_full]
      exact ⟨_, _, _, rfl, hb, hs.ok 6 _ rfl⟩
end Go.Proofs.Ytamlldedmhkobaa
