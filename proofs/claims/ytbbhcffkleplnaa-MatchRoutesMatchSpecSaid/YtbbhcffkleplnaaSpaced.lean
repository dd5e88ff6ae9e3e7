/-
  Spaced of both sides.
-/
import Derived.Test.YtbbhcffkleplnaaSpacedM
import Derived.Test.YtbbhcffkleplnaaApart
import Derived.Test.YtbbhcffkleplnaaScaleN
import Derived.Test.YtbbhcffkleplnaaWays
import Derived.Test.YtbbhcffkleplnaaBsearch
namespace Go.Proofs.Ytbbhcffkleplnaa
open Go Go.RowKit Hx
set_option linter.unusedVariables false
set_option linter.unusedSimpArgs false
set_option maxRecDepth 8000
theorem track_WaysX (A : ActV) (w : World) (hA : A.Ok w.heap.size w) :
    Calls Try.prog 63 #[.agg #[.string A.name, .int .i64 A.sport, .int .i64 A.start, .slice A.sa A.sn A.sc, .slice A.la A.ln A.lc, .slice A.ta A.tn A.tc]] w fun e w' => ∃ b m k, e = .returned (.tuple #[.slice b m k, .int .i64 (waysR A.d).2]) ∧ Fresh encI 3 w w' b m k (waysR A.d).1 := by
  refine enterQ (N := 12) (C := fun _ => True) (H := []) (B := w.heap.size) (args := [_]) Try.func63 rfl rfl rfl (Nat.le_refl _) (Sat.nil _ _) fun Q hQ => ?_
  refine wp_seq' fun K1 hK1 => ?_
  refine wp_reg ?_
  refine ol_box 1 rfl rfl rfl fun b1 => ?_
  refine ol_r (r_assign rfl) rfl ?_
  refine ol_r (r_assign rfl) rfl ?_
  refine ol_nil (to_k0 (fun _ _ h => h) (hK1 _ _ _ _ _ ?_))
  clear hK1
  refine wp_seq' fun K2 hK2 => ?_
  refine wp_seq' fun K3 hK3 => ?_
  refine wp_reg ?_
  refine ol_r (r_lda (id := 1) (n := 6) rfl rfl rfl ag29) rfl ?_
  refine ol_call rfl rfl cb70 rfl (fun w1 hb1 hs1 hB1 => Calls.mono (record_Check A _ (hA.at hb1 hB1)) ?_)
  rintro e w2 ⟨rfl, hb2⟩
  refine After.below rfl hb1 hs1 hB1 hb2 ?_
  clear hb2 hB1 hs1 hb1 w2 w1
  refine ol_r (r_assign rfl) rfl ?_
  refine ol_nil (to_k0 (fun _ _ h => h) (hK3 _ _ _ _ _ ?_))
  clear hK3
  refine wp_seq' fun K4 hK4 => ?_
  refine wp_reg ?_
  refine ol_r (r_move rfl) rfl ?_
  refine ol_r (r_neq rfl rfl) rfl ?_
  refine ol_nil (to_k0 (fun _ _ h => h) (hK4 _ _ _ _ _ ?_))
  clear hK4
  refine wp_condD rfl (fun hc8 => ?_) (fun hc8 => ?_)
  ·refine wp_seq' fun K5 hK5 => ?_
   refine wp_reg ?_
   refine ol_r (r_move rfl) rfl ?_
   refine ol_r (r_assign rfl) rfl ?_
   refine ol_r (r_assign rfl) rfl ?_
   refine ol_nil (to_k0 (fun _ _ h => h) (hK5 _ _ _ _ _ ?_))
   clear hK5
   refine hQ.ret (rvs2 (rv_t rfl) (rv_t rfl)) (fun _ _ h => h) fun w hb hs hB hkd => ?_
   first
     | (have h := waysR_e hc8
        exact ⟨none, 0, 0, by rw [h], by rw [h]; exact Fresh.nil hb⟩)
  ·refine wp_skip' (to_k0 (fun _ _ h => h) (hK2 _ _ _ _ _ ?_))
   clear hK2
   refine wp_seq' fun K6 hK6 => ?_
   refine wp_reg ?_
   have hw := waysR_0 hc8
   have hok : SmpOk A.start A.ss := (goodA (Decidable.not_not.1 hc8)).smp
   refine ol_r (r_lda (id := 1) (n := 6) rfl rfl rfl ag29) rfl ?_
   refine ol_call rfl rfl cb88 rfl (fun w1 hb1 hs1 hB1 => Calls.mono (track_ways A _ (hA.at hb1 hB1) hok) ?_)
   rintro e w2 ⟨a11, n11, c11, rfl, hf11⟩
   refine After.fresh (id := 11) rfl hb1 hs1 hB1 hf11 ?_
   have hl11 := hf11.len; clear hf11 hB1 hs1 hb1 w2 w1
   refine ol_r (r_assign rfl) rfl ?_
   refine ol_r (r_assign rfl) rfl ?_
   refine ol_nil (to_k0 (fun _ _ h => h) (hK6 _ _ _ _ _ ?_))
   clear hK6
   refine hQ.ret (rvs2 (rv_t rfl) (rv_t rfl)) (fun _ _ h => h) fun w hb hs hB hkd => ?_
   first
     | (exact ⟨_, _, _, by rw [hw], by rw [hw]; exact ⟨hb, hs.ok 11 _ rfl⟩⟩)
theorem ref3_WaysX (A : ActV) (w : World) (hA : A.Ok w.heap.size w) :
    Calls Try.prog 67 #[.agg #[.string A.name, .int .i64 A.sport, .int .i64 A.start, .slice A.sa A.sn A.sc, .slice A.la A.ln A.lc, .slice A.ta A.tn A.tc]] w fun e w' => ∃ b m k, e = .returned (.tuple #[.slice b m k, .int .i64 (waysR A.d).2]) ∧ Fresh encI 3 w w' b m k (waysR A.d).1 := by
  refine enterQ (N := 12) (C := fun _ => True) (H := []) (B := w.heap.size) (args := [_]) Try.func67 rfl rfl rfl (Nat.le_refl _) (Sat.nil _ _) fun Q hQ => ?_
  refine wp_seq' fun K1 hK1 => ?_
  refine wp_reg ?_
  refine ol_box 1 rfl rfl rfl fun b1 => ?_
  refine ol_r (r_assign rfl) rfl ?_
  refine ol_r (r_assign rfl) rfl ?_
  refine ol_nil (to_k0 (fun _ _ h => h) (hK1 _ _ _ _ _ ?_))
  clear hK1
  refine wp_seq' fun K2 hK2 => ?_
  refine wp_seq' fun K3 hK3 => ?_
  refine wp_reg ?_
  refine ol_r (r_lda (id := 1) (n := 6) rfl rfl rfl ag29) rfl ?_
  refine ol_call rfl rfl cb76 rfl (fun w1 hb1 hs1 hB1 => Calls.mono (ref2_Check A _ (hA.at hb1 hB1)) ?_)
  rintro e w2 ⟨rfl, hb2⟩
  refine After.below rfl hb1 hs1 hB1 hb2 ?_
  clear hb2 hB1 hs1 hb1 w2 w1
  refine ol_r (r_assign rfl) rfl ?_
  refine ol_nil (to_k0 (fun _ _ h => h) (hK3 _ _ _ _ _ ?_))
  clear hK3
  refine wp_seq' fun K4 hK4 => ?_
  refine wp_reg ?_
  refine ol_r (r_move rfl) rfl ?_
  refine ol_r (r_neq rfl rfl) rfl ?_
  refine ol_nil (to_k0 (fun _ _ h => h) (hK4 _ _ _ _ _ ?_))
  clear hK4
  refine wp_condD rfl (fun hc8 => ?_) (fun hc8 => ?_)
  ·refine wp_seq' fun K5 hK5 => ?_
   refine wp_reg ?_
   refine ol_r (r_move rfl) rfl ?_
   refine ol_r (r_assign rfl) rfl ?_
   refine ol_r (r_assign rfl) rfl ?_
   refine ol_nil (to_k0 (fun _ _ h => h) (hK5 _ _ _ _ _ ?_))
   clear hK5
   refine hQ.ret (rvs2 (rv_t rfl) (rv_t rfl)) (fun _ _ h => h) fun w hb hs hB hkd => ?_
   first
     | (have h := waysR_e hc8
        exact ⟨none, 0, 0, by rw [h], by rw [h]; exact Fresh.nil hb⟩)
  ·refine wp_skip' (to_k0 (fun _ _ h => h) (hK2 _ _ _ _ _ ?_))
   clear hK2
   refine wp_seq' fun K6 hK6 => ?_
   refine wp_reg ?_
   have hw := waysR_0 hc8
   have hok : SmpOk A.start A.ss := (goodA (Decidable.not_not.1 hc8)).smp
   refine ol_r (r_lda (id := 1) (n := 6) rfl rfl rfl ag29) rfl ?_
   refine ol_call rfl rfl cb94 rfl (fun w1 hb1 hs1 hB1 => Calls.mono (ref3_ways A _ (hA.at hb1 hB1) hok) ?_)
   rintro e w2 ⟨a11, n11, c11, rfl, hf11⟩
   refine After.fresh (id := 11) rfl hb1 hs1 hB1 hf11 ?_
   have hl11 := hf11.len; clear hf11 hB1 hs1 hb1 w2 w1
   refine ol_r (r_assign rfl) rfl ?_
   refine ol_r (r_assign rfl) rfl ?_
   refine ol_nil (to_k0 (fun _ _ h => h) (hK6 _ _ _ _ _ ?_))
   clear hK6
   refine hQ.ret (rvs2 (rv_t rfl) (rv_t rfl)) (fun _ _ h => h) fun w hb hs hB hkd => ?_
   first
     | (exact ⟨_, _, _, by rw [hw], by rw [hw]; exact ⟨hb, hs.ok 11 _ rfl⟩⟩)
theorem ref5_point (p : SmpR) (w : World) : Calls Try.prog 39 #[.agg #[.int .i64 p.at_, .int .i64 p.x, .int .i64 p.y, .int .i64 p.z, .int .i64 p.pulse, .int .i64 p.power, .int .i64 p.steps]] w fun e w' => e = .returned (.agg #[.int .i64 p.x, .int .i64 p.y]) ∧ Below w.heap.size w w' := by
  refine enterQ (N := 8) (C := fun _ => True) (H := []) (B := w.heap.size) (args := [_]) Try.func39 rfl rfl rfl (Nat.le_refl _) (Sat.nil _ _) fun Q hQ => ?_
  refine wp_seq' fun K1 hK1 => ?_
  refine wp_reg ?_
  refine ol_box 1 rfl rfl rfl fun b1 => ?_
  refine ol_alloc 2 z62 rfl fun b2 => ?_
  refine ol_nil (to_k0 (fun _ _ h => h) (hK1 _ _ _ _ _ ?_))
  clear hK1
  refine wp_seq' fun K2 hK2 => ?_
  refine wp_reg ?_
  refine ol_r (r_fa (o' := 1) rfl fl73_1 rfl) rfl ?_
  refine ol_r (r_ld (id := 1) rfl rfl rfl sc3) rfl ?_
  refine ol_r (r_fa (o' := 2) rfl fl73_2 rfl) rfl ?_
  refine ol_r (r_ld (id := 1) rfl rfl rfl sc3) rfl ?_
  refine ol_r (r_build rfl (fun _ => bd62_0_1 _ _ _)) rfl ?_
  refine ol_store (id := 2) rfl rfl rfl rfl sz62 rfl rfl (by first | decide | exact Nat.zero_lt_succ _ | simp) ?_
  refine ol_nil (to_k0 (fun _ _ h => h) (hK2 _ _ _ _ _ ?_))
  clear hK2
  refine hQ.ret (rvs1 (rv_c (id := 2) (n := 2) rfl rfl ag62 rfl)) (fun _ _ h => h) fun w hb hs hB hkd => ?_
  exact ⟨rfl, hb⟩
theorem match_Spaced (A : ActV) (n : Int) (w : World) (hA : A.Ok w.heap.size w) :
    Calls Try.prog 31 #[.agg #[.string A.name, .int .i64 A.sport, .int .i64 A.start, .slice A.sa A.sn A.sc, .slice A.la A.ln A.lc, .slice A.ta A.tn A.tc], .int .i64 n] w fun e w' => ∃ b m k, e = .returned (.tuple #[.slice b m k, .int .i64 (spR A.d n).2]) ∧ Fresh encPoint 62 w w' b m k (spR A.d n).1 := by
  have hsn := hA.s.len
  have hsf := hA.s.fit
  refine enterQ (N := 140) (C := fun _ => True) (H := []) (B := w.heap.size) (args := [_, _]) Try.func31 rfl rfl rfl (Nat.le_refl _) (Sat.nil _ _) fun Q hQ => ?_
  refine wp_seq' fun K1 hK1 => ?_
  refine wp_reg ?_
  refine ol_box 2 rfl rfl rfl fun b2 => ?_
  refine ol_r (r_assign rfl) rfl ?_
  refine ol_r (r_assign rfl) rfl ?_
  refine ol_nil (to_k0 (fun _ _ h => h) (hK1 _ _ _ _ _ ?_))
  clear hK1
  refine wp_seq' fun K2 hK2 => ?_
  refine wp_reg ?_
  refine ol_r (r_lda (id := 2) (n := 6) rfl rfl rfl ag29) rfl ?_
  refine ol_call rfl rfl cb63 rfl (fun w1 hb1 hs1 hB1 => Calls.mono (track_WaysX A _ (hA.at hb1 hB1)) ?_)
  rintro e w2 ⟨a21, n21, c21, rfl, hf21⟩
  refine After.fresh (id := 21) rfl hb1 hs1 hB1 hf21 ?_
  have hl21 := hf21.len; clear hf21 hB1 hs1 hb1 w2 w1
  refine ol_r (r_move rfl) rfl ?_
  refine ol_r (r_extract rfl rfl) rfl ?_
  refine ol_r (r_extract rfl rfl) rfl ?_
  refine ol_r (r_assign rfl) rfl ?_
  refine ol_r (r_assign rfl) rfl ?_
  refine ol_nil (to_k0 (fun _ _ h => h) (hK2 _ _ _ _ _ ?_))
  clear hK2
  refine wp_seq' fun K3 hK3 => ?_
  refine wp_block' ?_
  refine wp_seq' fun K4 hK4 => ?_
  refine wp_reg ?_
  refine ol_r (r_move rfl) rfl ?_
  refine ol_r (r_neq rfl rfl) rfl ?_
  refine ol_r (r_assign rfl) rfl ?_
  refine ol_nil (to_k0 (fun _ _ h => h) (hK4 _ _ _ _ _ ?_))
  clear hK4
  refine wp_condD rfl (fun hc24 => ?_) (fun hc24 => ?_)
  ·refine wp_seq' fun K5 hK5 => ?_
   refine wp_reg ?_
   refine ol_r (r_move rfl) rfl ?_
   refine ol_r (r_assign rfl) rfl ?_
   refine ol_r (r_assign rfl) rfl ?_
   refine ol_nil (to_k0 (fun _ _ h => h) (hK5 _ _ _ _ _ ?_))
   clear hK5
   refine hQ.ret (rvs2 (rv_t rfl) (rv_t rfl)) (fun _ _ h => h) fun w hb hs hB hkd => ?_
   rw [waysR_snd] at hc24 ⊢
   exact ⟨none, 0, 0, by rw [spR_e hc24], by rw [spR_e hc24]; exact Fresh.nil hb⟩
  ·refine wp_seq' fun K6 hK6 => ?_
   refine wp_reg ?_
   refine ol_r (r_move rfl) rfl ?_
   refine ol_call rfl rfl cb45 rfl (fun w1 hb1 hs1 hB1 => Calls.mono (match_in _ _ _ _) ?_)
   rintro e w2 ⟨rfl, hb2⟩
   refine After.below rfl hb1 hs1 hB1 hb2 ?_
   clear hb2 hB1 hs1 hb1 w2 w1
   refine ol_r (r_not rfl) rfl ?_
   refine ol_r (r_assign rfl) rfl ?_
   refine ol_nil (to_k0 (fun _ _ h => h) (hK6 _ _ _ _ _ ?_))
   clear hK6
   refine wp_condNB rfl (fun hc28 => ?_) (fun hc28 => ?_)
   ·refine wp_seq' fun K7 hK7 => ?_
    refine wp_reg ?_
    refine ol_r (r_assign rfl) rfl ?_
    refine ol_r (r_assign rfl) rfl ?_
    refine ol_nil (to_k0 (fun _ _ h => h) (hK7 _ _ _ _ _ ?_))
    clear hK7
    refine hQ.ret (rvs2 (rv_t rfl) (rv_t rfl)) (fun _ _ h => h) fun w hb hs hB hkd => ?_
    rw [waysR_snd] at hc24
    have h9 := spR_9 hc24 (by simpa using hc28)
    exact ⟨none, 0, 0, by rw [h9], by rw [h9]; exact Fresh.nil hb⟩
   ·refine wp_seq' fun K8 hK8 => ?_
    refine wp_reg ?_
    refine ol_r (r_move rfl) rfl ?_
    refine ol_r (r_len rfl sl47) rfl ?_
    refine ol_r (r_eql rfl rfl) rfl ?_
    refine ol_r (r_assign rfl) rfl ?_
    refine ol_nil (to_k0 (fun _ _ h => h) (hK8 _ _ _ _ _ ?_))
    clear hK8
    refine wp_condD rfl (fun hc32 => ?_) (fun hc32 => ?_)
    ·refine wp_seq' fun K9 hK9 => ?_
     refine wp_reg ?_
     refine ol_r (r_assign rfl) rfl ?_
     refine ol_r (r_assign rfl) rfl ?_
     refine ol_nil (to_k0 (fun _ _ h => h) (hK9 _ _ _ _ _ ?_))
     clear hK9
     refine hQ.ret (rvs2 (rv_t rfl) (rv_t rfl)) (fun _ _ h => h) fun w hb hs hB hkd => ?_
     rw [waysR_snd] at hc24
     have hl : A.ss.length = n21 := by rw [← wayL_len]; rw [waysR_0 hc24] at hl21; exact hl21
     have h9 := spR_13 hc24 (by simpa using hc28) (by show A.ss.length = 0; omega)
     exact ⟨none, 0, 0, by rw [h9], by rw [h9]; exact Fresh.nil hb⟩
    ·refine wp_skip' (to_k0 (fun _ _ h => h) (hK3 _ _ _ _ _ ?_))
     clear hK3
     refine wp_seq' fun K10 hK10 => ?_
     refine wp_reg ?_
     refine ol_nilrow 8 62 2 ?_
     refine ol_r (r_assign rfl) rfl ?_
     refine ol_nil (to_k0 (fun _ _ h => h) (hK10 _ _ _ _ _ ?_))
     clear hK10
     refine wp_seq' fun K11 hK11 => ?_
     refine wp_seq' fun K12 hK12 => ?_
     refine wp_reg ?_
     have h0 : ¬chkA A.d ≠ 0 := by rw [waysR_snd] at hc24; exact hc24
     have hin : inB n 2 300 = true := by simpa using hc28
     have hnn := inB_iff.1 hin
     have hw : waysR A.d = (wayL A.ss, 0) := waysR_0 h0
     have hok : SmpOk A.start A.ss := (goodA (Decidable.not_not.1 h0)).smp
     have hl : A.ss.length = n21 := by rw [← wayL_len]; rw [hw] at hl21; exact hl21
     clear hl21
     rw [hw]
     dsimp only
     have hwl := wayL_len A.ss
     obtain ⟨N, rfl⟩ := Int.eq_ofNat_of_zero_le (show 0 ≤ n by omega)
     refine ol_r (r_move rfl) rfl ?_
     refine ol_r (r_move rfl) rfl ?_
     refine ol_nil (to_k0 (fun _ _ h => h) (hK12 _ _ _ _ _ ?_))
     clear hK12
     refine wp_block' ?_
     apply wp_loopM (σ := Nat × Option Addr × Nat × Nat) (fun s => s.1 ≤ N ∧ s.2.2.1 = s.1) (fun s => [(37, .int .i64 s.1), (8, .slice s.2.1 s.2.2.1 s.2.2.2)]) [(1, _), (2, _), (4, _), (5, _), (6, _), (36, _)] (fun s => [(8, .row s.2.1 s.2.2.1 s.2.2.2 (encPoint.enc (spL A.ss N s.1)) 62 2)]) [(2, _), (21, _)] (fun s => N - s.1) ((0, none, 0, 0))
     ·try dsimp only
      exact ⟨Nat.zero_le _, rfl⟩
     ·exact (sub_cons rfl (sub_cons rfl sub_nil))
     ·exact (sub_cons rfl (sub_cons rfl (sub_cons rfl (sub_cons rfl (sub_cons rfl (sub_cons rfl sub_nil))))))
     ·exact (subH_row rfl (by dsimp only; rfl) subH_nil)
     ·exact (subH_same rfl (subH_same rfl subH_nil))
     ·rintro ⟨j, oa, on, oc⟩ ⟨hj, hon⟩
      dsimp only at hj hon ⊢
      intro K13 hK13
      refine wp_seq' fun K14 hK14 => ?_
      refine wp_reg ?_
      refine ol_r (r_lss rfl rfl) rfl ?_
      refine ol_nil (to_k0 (fun _ _ h => h) (hK14 _ _ _ _ _ ?_))
      clear hK14
      refine wp_seq' fun K15 hK15 => ?_
      refine wp_condD rfl (fun hc38 => ?_) (fun hc38 => ?_)
      ·refine wp_skip' (to_k0 (fun _ _ h => h) (hK15 _ _ _ _ _ ?_))
       clear hK15
       refine wp_seq' fun K16 hK16 => ?_
       refine wp_block' ?_
       refine wp_seq' fun K17 hK17 => ?_
       refine wp_reg ?_
       refine ol_r (r_move rfl) rfl ?_
       refine ol_r (r_assign rfl) rfl ?_
       refine ol_nil (to_k0 (fun _ _ h => h) (hK17 _ _ _ _ _ ?_))
       clear hK17
       refine wp_seq' fun K18 hK18 => ?_
       refine wp_reg ?_
       refine ol_r (r_move rfl) rfl ?_
       refine ol_r (r_move rfl) rfl ?_
       refine ol_r (r_len rfl sl47) rfl ?_
       refine ol_r (r_sub rfl rfl (by omega)) rfl ?_
       refine ol_ixo (id := 21) encI _ rfl rfl rfl rfl sl47 (by omega) rfl fun x44 hx44 => ?_
       try simp only [Int.toNat_natCast] at hx44
       try simp only [Int.toNat_natCast] at hx44
       refine ol_r (r_ldw rfl (fun w1 hb1 hs1 hB1 => show Loads _ _ _ _ (.int .i64 x44) from ld_own (id := 21) hs1 rfl rfl ty3 hx44)) rfl ?_
       have h44 := runW_get (k := A.ss.length) hx44
       rw [show ((n21 : Int) - 1).toNat = A.ss.length - 1 by omega] at h44
       subst h44
       have hD := spD_bd hok hnn (j := (j : Int)) ⟨by omega, by omega⟩
       refine ol_r (r_move rfl) rfl ?_
       refine ol_r (r_mul rfl rfl (by omega)) rfl ?_
       refine ol_r (r_move rfl) rfl ?_
       refine ol_r (r_sub rfl rfl (by omega)) rfl ?_
       first | refine ol_r (r_quo rfl rfl (by omega)) rfl ?_ | refine ol_r (r_tquo rfl rfl (by omega)) rfl ?_
       rw [show wayN A.ss (A.ss.length - 1) * (j : Int) / ((N : Int) - 1) = spD A.ss N j from rfl]
       refine ol_r (r_assign rfl) rfl ?_
       refine ol_nil (to_k0 (fun _ _ h => h) (hK18 _ _ _ _ _ ?_))
       clear hK18
       refine wp_seq' fun K19 hK19 => ?_
       refine wp_reg ?_
       refine ol_r (r_move rfl) rfl ?_
       refine ol_r (r_move rfl) rfl ?_
       refine ol_call rfl rfl cb64 rfl (fun w1 hb1 hs1 hB1 => ?_)
       refine Calls.mono (binarySearch _ _ _ (wayL A.ss) (spD A.ss N j) _ (Sat.rd hs1 (id := 21) rfl rfl) (by have := hok.len; omega)) ?_
       rintro e w2 ⟨k, ok, hPl, hok2, rfl, hb2⟩
       refine After.below rfl hb1 hs1 hB1 hb2 ?_
       clear hb2 hB1 hs1 hb1 w2 w1
       obtain ⟨hk1, hkk, hdk⟩ := spK_place hok hPl hD.2.2 (by omega)
       refine ol_r (r_move rfl) rfl ?_
       refine ol_r (r_extract rfl rfl) rfl ?_
       refine ol_r (r_extract rfl rfl) rfl ?_
       refine ol_r (r_assign rfl) rfl ?_
       refine ol_r (r_assign rfl) rfl ?_
       refine ol_nil (to_k0 (fun _ _ h => h) (hK19 _ _ _ _ _ ?_))
       clear hK19
       refine wp_seq' fun K20 hK20 => ?_
       refine wp_reg ?_
       refine ol_r (r_fa (o' := 3) rfl fl29_3 rfl) rfl ?_
       refine ol_r (r_ld (id := 2) rfl rfl rfl sc25) rfl ?_
       refine ol_r (r_move rfl) rfl ?_
       refine ol_ixr hA.s rfl rfl sl25 (by omega) rfl fun x60 hx60 => ?_
       try simp only [Int.toNat_natCast] at hx60
       refine ol_r (r_ldw rfl (fun w1 hb1 hs1 hB1 => Rd.loads hA.s ty73 hx60 hb1)) rfl ?_
       refine ol_alloc 13 z73 rfl fun b13 => ?_
       refine ol_store (id := 13) rfl rfl rfl rfl sz73 rfl rfl (by first | decide | exact Nat.zero_lt_succ _ | simp) ?_
       refine ol_nil (to_k0 (fun _ _ h => h) (hK20 _ _ _ _ _ ?_))
       clear hK20
       refine wp_seq' fun K21 hK21 => ?_
       refine wp_seq' fun K22 hK22 => ?_
       refine wp_reg ?_
       refine ol_r (r_move rfl) rfl ?_
       refine ol_nil (to_k0 (fun _ _ h => h) (hK22 _ _ _ _ _ ?_))
       clear hK22
       refine wp_cond' rfl (fun hc62 => ?_) (fun hc62 => ?_)
       ·refine wp_seq' fun K23 hK23 => ?_
        refine wp_reg ?_
        have hex := (runW_get (k := A.ss.length) (hok2.1 hc62)).symm
        refine ol_r (r_move rfl) rfl ?_
        refine ol_r (r_lda (id := 13) (n := 7) rfl rfl rfl ag73) rfl ?_
        refine ol_call rfl rfl cb65 rfl (fun w1 hb1 hs1 hB1 => Calls.mono (match_pointOf _ _) ?_)
        rintro e w2 ⟨rfl, hb2⟩
        refine After.below rfl hb1 hs1 hB1 hb2 ?_
        clear hb2 hB1 hs1 hb1 w2 w1
        refine ol_bs1 66 rfl rfl rw57 rfl rfl rfl fun a66 => ?_
        refine ol_append1 (id := 8) (id2 := 66) rfl rfl rfl rfl rfl rw57 (by omega) rfl fun a67 c67 => ?_
        refine ol_r (r_assign rfl) rfl ?_
        refine ol_nil (to_k0 (fun _ _ h => h) (hK23 _ _ _ _ _ ?_))
        clear hK23
        refine wp_exit' (to_k0 (fun _ _ h => h) (hK16 _ _ _ _ _ ?_))
        clear hK16
        refine wp_reg ?_
        refine ol_r (r_add rfl rfl (by omega)) rfl ?_
        refine ol_r (r_move rfl) rfl ?_
        refine ol_nil (to_k0 (fun _ _ h => h) (hK13 ((j + 1, _, _, _)) _ _ ?_ ?_ (sub_cons rfl (sub_cons rfl sub_nil)) (sub_cons rfl (sub_cons rfl (sub_cons rfl (sub_cons rfl (sub_cons rfl (sub_cons rfl sub_nil)))))) (by exact (subH_row rfl (by first | (dsimp only; first | (rw [spL_succ, spPt_on hkk hx60 hex, Enc.enc_append]; rfl) | (rw [spL_succ, spPt_off hkk hx60 hx72' hne, Enc.enc_append]; rfl); done) | (first | (rw [spL_succ, spPt_on hkk hx60 hex, Enc.enc_append]; rfl) | (rw [spL_succ, spPt_off hkk hx60 hx72' hne, Enc.enc_append]; rfl); done) | (dsimp only; done)) subH_nil)) (subH_same rfl (subH_same rfl subH_nil))))
        ·try dsimp only
         exact ⟨by omega, by omega⟩
        ·try dsimp only
         omega
       ·refine wp_skip' (to_k0 (fun _ _ h => h) (hK21 _ _ _ _ _ ?_))
        clear hK21
        refine wp_seq' fun K24 hK24 => ?_
        refine wp_reg ?_
        have hne : wayN A.ss k ≠ spD A.ss N j := fun h => by
          have h1 := hok2.2 (by rw [← h]; exact runW_at hk1)
          rw [h1] at hc62; cases hc62
        have hk0 : 0 < k := by
          rcases Nat.eq_zero_or_pos k with h | h
          · subst h; rw [wayN_zero] at hne hdk; exact absurd (by omega) hne
          · exact h
        have hlow : wayN A.ss (k - 1) < spD A.ss N j := by
          rcases hPl.2.1 with h | ⟨y, hy, hyd⟩
          · omega
          · rw [runW_get (k := A.ss.length) hy] at hyd; exact hyd
        refine ol_r (r_fa (o' := 3) rfl fl29_3 rfl) rfl ?_
        refine ol_r (r_ld (id := 2) rfl rfl rfl sc25) rfl ?_
        refine ol_r (r_move rfl) rfl ?_
        refine ol_r (r_sub rfl rfl (by omega)) rfl ?_
        refine ol_ixr hA.s rfl rfl sl25 (by omega) rfl fun x72 hx72 => ?_
        try simp only [Int.toNat_natCast] at hx72
        refine ol_r (r_ldw rfl (fun w1 hb1 hs1 hB1 => Rd.loads hA.s ty73 hx72 hb1)) rfl ?_
        have hx72' := hx72
        rw [show ((k : Int) - 1).toNat = k - 1 by omega] at hx72'
        obtain ⟨a1, a2, a3⟩ := sp_args hok hx60 hx72' hk0 hlow (by omega)
        obtain ⟨p1, p2⟩ := hok.place (List.mem_of_getElem? hx60)
        obtain ⟨p3, p4⟩ := hok.place (List.mem_of_getElem? hx72')
        have bx := sp_prod (a := x60.x - x72.x) (by omega) a1
        have by_ := sp_prod (a := x60.y - x72.y) (by omega) a1
        have nx := nearV_bd (a := x60.x - x72.x) a1.1 a2.1 a3
        have ny := nearV_bd (a := x60.y - x72.y) a1.1 a2.1 a3
        refine ol_alloc 14 z73 rfl fun b14 => ?_
        refine ol_store (id := 14) rfl rfl rfl rfl sz73 rfl rfl (by first | decide | exact Nat.zero_lt_succ _ | simp) ?_
        refine ol_nil (to_k0 (fun _ _ h => h) (hK24 _ _ _ _ _ ?_))
        clear hK24
        refine wp_seq' fun K25 hK25 => ?_
        refine wp_regq (by kernel_rfl) (by kernel_rfl) ?_
        refine ql_r (r_fa (o' := 1) rfl fl73_1 rfl) rfl ?_
        refine ql_r (r_ld (id := 13) rfl rfl rfl sc3) rfl ?_
        refine ql_r (r_fa (o' := 1) rfl fl73_1 rfl) rfl ?_
        refine ql_r (r_ld (id := 14) rfl rfl rfl sc3) rfl ?_
        refine ql_r (r_sub rfl rfl (by omega)) rfl ?_
        refine ql_r (r_move rfl) rfl ?_
        refine ql_r (r_move rfl) rfl ?_
        refine ql_r (r_move rfl) rfl ?_
        refine ql_r (r_sub rfl rfl (by omega)) rfl ?_
        refine ql_ixo (id := 21) encI _ rfl rfl rfl rfl sl47 (by omega) (by omega) rfl fun x84 hx84 => ?_
        try simp only [Int.toNat_natCast] at hx84
        try simp only [Int.toNat_natCast] at hx84
        refine ql_r (r_ldw rfl (fun w1 hb1 hs1 hB1 => show Loads _ _ _ _ (.int .i64 x84) from ld_own (id := 21) hs1 rfl rfl ty3 hx84)) rfl ?_
        have e84 := runW_get (k := A.ss.length) hx84
        rw [show ((k : Int) - 1).toNat = k - 1 by omega] at e84
        subst e84
        refine ql_r (r_sub rfl rfl (by omega)) rfl ?_
        refine ql_r (r_move rfl) rfl ?_
        refine ql_r (r_move rfl) rfl ?_
        refine ql_ixo (id := 21) encI _ rfl rfl rfl rfl sl47 (by omega) (by omega) rfl fun x89 hx89 => ?_
        try simp only [Int.toNat_natCast] at hx89
        try simp only [Int.toNat_natCast] at hx89
        refine ql_r (r_ldw rfl (fun w1 hb1 hs1 hB1 => show Loads _ _ _ _ (.int .i64 x89) from ld_own (id := 21) hs1 rfl rfl ty3 hx89)) rfl ?_
        have e89 := runW_get (k := A.ss.length) hx89
        subst e89
        refine ql_r (r_move rfl) rfl ?_
        refine ql_r (r_move rfl) rfl ?_
        refine ql_r (r_sub rfl rfl (by omega)) rfl ?_
        refine ql_ixo (id := 21) encI _ rfl rfl rfl rfl sl47 (by omega) (by omega) rfl fun x94 hx94 => ?_
        try simp only [Int.toNat_natCast] at hx94
        try simp only [Int.toNat_natCast] at hx94
        refine ql_r (r_ldw rfl (fun w1 hb1 hs1 hB1 => show Loads _ _ _ _ (.int .i64 x94) from ld_own (id := 21) hs1 rfl rfl ty3 hx94)) rfl ?_
        have e94 := runW_get (k := A.ss.length) hx94
        rw [show ((k : Int) - 1).toNat = k - 1 by omega] at e94
        subst e94
        refine ql_r (r_sub rfl rfl (by omega)) rfl ?_
        refine ql_call rfl rfl cb66 rfl (fun w1 hb1 hs1 hB1 => quant_ScaleNear (x60.x - x72.x) (spD A.ss N j - wayN A.ss (k - 1)) (wayN A.ss k - wayN A.ss (k - 1)) _ (by omega) (by omega) (by omega) bx.1 bx.2) ?_
        refine ql_r (r_move rfl) rfl ?_
        refine ql_r (r_extract rfl rfl) rfl ?_
        refine ql_r (r_extract rfl rfl) rfl ?_
        refine ql_r (r_assign rfl) rfl ?_
        refine ql_r (r_assign rfl) rfl ?_
        refine ql_nil (to_k0 (fun _ _ h => h) (hK25 _ _ _ _ _ ?_))
        clear hK25
        refine wp_seq' fun K26 hK26 => ?_
        refine wp_regq (by kernel_rfl) (by kernel_rfl) ?_
        refine ql_r (r_fa (o' := 2) rfl fl73_2 rfl) rfl ?_
        refine ql_r (r_ld (id := 13) rfl rfl rfl sc3) rfl ?_
        refine ql_r (r_fa (o' := 2) rfl fl73_2 rfl) rfl ?_
        refine ql_r (r_ld (id := 14) rfl rfl rfl sc3) rfl ?_
        refine ql_r (r_sub rfl rfl (by omega)) rfl ?_
        refine ql_r (r_move rfl) rfl ?_
        refine ql_r (r_move rfl) rfl ?_
        refine ql_r (r_move rfl) rfl ?_
        refine ql_r (r_sub rfl rfl (by omega)) rfl ?_
        refine ql_ixo (id := 21) encI _ rfl rfl rfl rfl sl47 (by omega) (by omega) rfl fun x110 hx110 => ?_
        try simp only [Int.toNat_natCast] at hx110
        try simp only [Int.toNat_natCast] at hx110
        refine ql_r (r_ldw rfl (fun w1 hb1 hs1 hB1 => show Loads _ _ _ _ (.int .i64 x110) from ld_own (id := 21) hs1 rfl rfl ty3 hx110)) rfl ?_
        have e110 := runW_get (k := A.ss.length) hx110
        rw [show ((k : Int) - 1).toNat = k - 1 by omega] at e110
        subst e110
        refine ql_r (r_sub rfl rfl (by omega)) rfl ?_
        refine ql_r (r_move rfl) rfl ?_
        refine ql_r (r_move rfl) rfl ?_
        refine ql_ixo (id := 21) encI _ rfl rfl rfl rfl sl47 (by omega) (by omega) rfl fun x115 hx115 => ?_
        try simp only [Int.toNat_natCast] at hx115
        try simp only [Int.toNat_natCast] at hx115
        refine ql_r (r_ldw rfl (fun w1 hb1 hs1 hB1 => show Loads _ _ _ _ (.int .i64 x115) from ld_own (id := 21) hs1 rfl rfl ty3 hx115)) rfl ?_
        have e115 := runW_get (k := A.ss.length) hx115
        subst e115
        refine ql_r (r_move rfl) rfl ?_
        refine ql_r (r_move rfl) rfl ?_
        refine ql_r (r_sub rfl rfl (by omega)) rfl ?_
        refine ql_ixo (id := 21) encI _ rfl rfl rfl rfl sl47 (by omega) (by omega) rfl fun x120 hx120 => ?_
        try simp only [Int.toNat_natCast] at hx120
        try simp only [Int.toNat_natCast] at hx120
        refine ql_r (r_ldw rfl (fun w1 hb1 hs1 hB1 => show Loads _ _ _ _ (.int .i64 x120) from ld_own (id := 21) hs1 rfl rfl ty3 hx120)) rfl ?_
        have e120 := runW_get (k := A.ss.length) hx120
        rw [show ((k : Int) - 1).toNat = k - 1 by omega] at e120
        subst e120
        refine ql_r (r_sub rfl rfl (by omega)) rfl ?_
        refine ql_call rfl rfl cb66 rfl (fun w1 hb1 hs1 hB1 => quant_ScaleNear (x60.y - x72.y) (spD A.ss N j - wayN A.ss (k - 1)) (wayN A.ss k - wayN A.ss (k - 1)) _ (by omega) (by omega) (by omega) by_.1 by_.2) ?_
        refine ql_r (r_move rfl) rfl ?_
        refine ql_r (r_extract rfl rfl) rfl ?_
        refine ql_r (r_extract rfl rfl) rfl ?_
        refine ql_r (r_assign rfl) rfl ?_
        refine ql_r (r_assign rfl) rfl ?_
        refine ql_nil (to_k0 (fun _ _ h => h) (hK26 _ _ _ _ _ ?_))
        clear hK26
        refine wp_reg ?_
        refine ol_r (r_move rfl) rfl ?_
        refine ol_r (r_fa (o' := 1) rfl fl73_1 rfl) rfl ?_
        refine ol_r (r_ld (id := 14) rfl rfl rfl sc3) rfl ?_
        refine ol_r (r_move rfl) rfl ?_
        refine ol_r (r_add rfl rfl (by omega)) rfl ?_
        refine ol_r (r_fa (o' := 2) rfl fl73_2 rfl) rfl ?_
        refine ol_r (r_ld (id := 14) rfl rfl rfl sc3) rfl ?_
        refine ol_r (r_move rfl) rfl ?_
        refine ol_r (r_add rfl rfl (by omega)) rfl ?_
        refine ol_r (r_build rfl (fun _ => bd62_0_1 _ _ _)) rfl ?_
        refine ol_bs1 136 rfl rfl rw57 rfl rfl rfl fun a136 => ?_
        refine ol_append1 (id := 8) (id2 := 136) rfl rfl rfl rfl rfl rw57 (by omega) rfl fun a137 c137 => ?_
        refine ol_r (r_assign rfl) rfl ?_
        refine ol_nil (to_k0 (fun _ _ h => h) (hK16 _ _ _ _ _ ?_))
        clear hK16
        refine wp_reg ?_
        refine ol_r (r_add rfl rfl (by omega)) rfl ?_
        refine ol_r (r_move rfl) rfl ?_
        refine ol_nil (to_k0 (fun _ _ h => h) (hK13 ((j + 1, _, _, _)) _ _ ?_ ?_ (sub_cons rfl (sub_cons rfl sub_nil)) (sub_cons rfl (sub_cons rfl (sub_cons rfl (sub_cons rfl (sub_cons rfl (sub_cons rfl sub_nil)))))) (by exact (subH_row rfl (by dsimp only; first | (rw [spL_succ, spPt_on hkk hx60 hex, Enc.enc_append]; rfl) | (rw [spL_succ, spPt_off hkk hx60 hx72' hne, Enc.enc_append]; rfl)) subH_nil)) (subH_same rfl (subH_same rfl subH_nil))))
        ·try dsimp only
         exact ⟨by omega, by omega⟩
        ·try dsimp only
         omega
      ·refine wp_exit' (to_k0 (fun _ _ h => h) (hK11 _ _ _ _ _ ?_))
       clear hK11
       refine wp_seq' fun K27 hK27 => ?_
       refine wp_reg ?_
       refine ol_r (r_move rfl) rfl ?_
       refine ol_r (r_assign rfl) rfl ?_
       refine ol_r (r_assign rfl) rfl ?_
       refine ol_nil (to_k0 (fun _ _ h => h) (hK27 _ _ _ _ _ ?_))
       clear hK27
       refine hQ.ret (rvs2 (rv_t rfl) (rv_t rfl)) (fun _ _ h => h) fun w hb hs hB hkd => ?_
       have h9 := spR_0 h0 hin (by show ¬A.ss.length = 0; omega)
       obtain rfl : j = N := by omega
       rw [h9, Int.toNat_natCast]
       exact ⟨_, _, _, rfl, hb, hs.ok 8 _ rfl⟩
end Go.Proofs.Ytbbhcffkleplnaa
