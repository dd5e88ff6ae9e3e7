/-
  Predict and Reach: program and reference; LoadPredictMatchesSpec, LoadLongerIsSlower.
-/
import Derived.Test.YtamlldedmhkobaaRace2
import Derived.Test.YtamlldedmhkobaaLoadMore
namespace Go.Proofs.Ytamlldedmhkobaa
open Go Go.RowKit Hx
set_option linter.unusedVariables false
set_option linter.unusedSimpArgs false
set_option maxRecDepth 8000
theorem ref_predict (a : Option Addr) (n cap : Nat) (xs : List RaceR) (x sl : Int) (w : World) (hl : Rd encRace w.heap.size w a n cap xs) (hok : RacesOk xs) (hx : 1 ≤ x ∧ x ≤ 10000000) (hs : 0 ≤ sl ∧ sl ≤ 200) :
    Calls Try.prog 83 #[.slice a n cap, .int .i64 x, .int .i64 sl] w fun e w' => e = .returned (.int .i64 (predL sl x none xs)) ∧ Below w.heap.size w w' := by
  have hn := hl.len
  have hl50 := hok.len
  have hlp := hok.pos
  refine enterQ (N := 97) (C := fun _ => True) (H := []) (B := w.heap.size) (args := [_, _, _]) Try.func83 rfl rfl rfl (Nat.le_refl _) (Sat.nil _ _) fun Q hQ => ?_
  refine wp_seq' fun K1 hK1 => ?_
  refine wp_reg ?_
  refine ol_r (r_assign rfl) rfl ?_
  refine ol_nil (to_k0 (fun _ _ h => h) (hK1 _ _ _ _ _ ?_))
  clear hK1
  refine wp_seq' fun K2 hK2 => ?_
  refine wp_seq' fun K3 hK3 => ?_
  refine wp_reg ?_
  refine ol_r (r_move rfl) rfl ?_
  refine ol_r (r_len rfl sl71) rfl ?_
  refine ol_r (r_move rfl) rfl ?_
  refine ol_nil (to_k0 (fun _ _ h => h) (hK3 _ _ _ _ _ ?_))
  clear hK3
  refine wp_block' ?_
  apply wp_loopM (σ := Nat) (fun s => s ≤ n ∧ predL sl x none xs = predL sl x (ahead xs s) (xs.drop s) ∧ (s = 0 ∨ ∃ y, xs[s - 1]? = some y ∧ y.way < x)) (fun s => [(15, .int .i64 s)]) [(0, _), (1, _), (2, _), (13, _), (14, _)] (fun s => []) [] (fun s => n - s) (0)
  ·try dsimp only
   exact ⟨Nat.zero_le _, rfl, .inl rfl⟩
  ·exact (sub_cons rfl sub_nil)
  ·exact (sub_cons rfl (sub_cons rfl (sub_cons rfl (sub_cons rfl (sub_cons rfl sub_nil)))))
  ·exact subH_nil
  ·exact subH_nil
  ·rintro k ⟨hk, hP, hlow⟩
   intro K4 hK4
   refine wp_seq' fun K5 hK5 => ?_
   refine wp_reg ?_
   refine ol_r (r_lss rfl rfl) rfl ?_
   refine ol_nil (to_k0 (fun _ _ h => h) (hK5 _ _ _ _ _ ?_))
   clear hK5
   refine wp_seq' fun K6 hK6 => ?_
   first | refine wp_condD rfl (fun hc16 => ?_) (fun hc16 => ?_) | refine wp_condN rfl (fun hc16 => ?_) (fun hc16 => ?_) | refine wp_condNB rfl (fun hc16 => ?_) (fun hc16 => ?_) | refine wp_cond' rfl (fun hc16 => ?_) (fun hc16 => ?_)
   ·refine wp_skip' (to_k0 (fun _ _ h => h) (hK6 _ _ _ _ _ ?_))
    clear hK6
    refine wp_seq' fun K7 hK7 => ?_
    refine wp_block' ?_
    refine wp_seq' fun K8 hK8 => ?_
    refine wp_reg ?_
    refine ol_r (r_move rfl) rfl ?_
    refine ol_ixr hl rfl rfl sl71 (by omega) rfl fun x18 hx18 => ?_
    try simp only [Int.toNat_natCast] at hx18
    refine ol_r (r_ldw rfl (fun w1 hb1 hs1 hB1 => Rd.loads hl ty101 hx18 hb1)) rfl ?_
    refine ol_alloc 8 z101 rfl fun b8 => ?_
    refine ol_r (r_assign rfl) rfl ?_
    refine ol_store (id := 8) rfl rfl rfl rfl sz101 rfl rfl (by first | decide | exact Nat.zero_lt_succ _ | simp) ?_
    refine ol_nil (to_k0 (fun _ _ h => h) (hK8 _ _ _ _ _ ?_))
    clear hK8
    refine wp_seq' fun K9 hK9 => ?_
    refine wp_seq' fun K10 hK10 => ?_
    refine wp_reg ?_
    refine ol_r (r_move rfl) rfl ?_
    refine ol_r (r_fa (o' := 0) rfl fl101_0 rfl) rfl ?_
    refine ol_r (r_ld (id := 8) rfl rfl rfl sc3) rfl ?_
    refine ol_r (r_eql rfl rfl) rfl ?_
    refine ol_nil (to_k0 (fun _ _ h => h) (hK10 _ _ _ _ _ ?_))
    clear hK10
    first | refine wp_condD rfl (fun hc23 => ?_) (fun hc23 => ?_) | refine wp_condN rfl (fun hc23 => ?_) (fun hc23 => ?_) | refine wp_condNB rfl (fun hc23 => ?_) (fun hc23 => ?_) | refine wp_cond' rfl (fun hc23 => ?_) (fun hc23 => ?_)
    ·refine wp_seq' fun K11 hK11 => ?_
     refine wp_reg ?_
     refine ol_r (r_fa (o' := 1) rfl fl101_1 rfl) rfl ?_
     refine ol_r (r_ld (id := 8) rfl rfl rfl sc3) rfl ?_
     refine ol_r (r_assign rfl) rfl ?_
     refine ol_nil (to_k0 (fun _ _ h => h) (hK11 _ _ _ _ _ ?_))
     clear hK11
     refine hQ.ret (rvs1 (rv_t rfl)) (fun _ _ h => h) fun w hb hs hB hkd => ?_
     first
       | exact ⟨by rw [predL_hit hP hx18 hc23], hb⟩
       | (have hk0 : k = 0 := by omega
          subst hk0
          exact ⟨by rw [predL_first hP hx18 (by omega)], hb⟩)
       | exact ⟨by rw [predL_seg hP (by omega) h43 hx18 (by omega)]; rfl, hb⟩
       | exact ⟨by rw [hD.stop hc78]; rfl, hb⟩
    ·refine wp_skip' (to_k0 (fun _ _ h => h) (hK9 _ _ _ _ _ ?_))
     clear hK9
     refine wp_seq' fun K12 hK12 => ?_
     refine wp_seq' fun K13 hK13 => ?_
     refine wp_reg ?_
     refine ol_r (r_move rfl) rfl ?_
     refine ol_r (r_fa (o' := 0) rfl fl101_0 rfl) rfl ?_
     refine ol_r (r_ld (id := 8) rfl rfl rfl sc3) rfl ?_
     refine ol_r (r_gtr rfl rfl) rfl ?_
     refine ol_nil (to_k0 (fun _ _ h => h) (hK13 _ _ _ _ _ ?_))
     clear hK13
     first | refine wp_condD rfl (fun hc29 => ?_) (fun hc29 => ?_) | refine wp_condN rfl (fun hc29 => ?_) (fun hc29 => ?_) | refine wp_condNB rfl (fun hc29 => ?_) (fun hc29 => ?_) | refine wp_cond' rfl (fun hc29 => ?_) (fun hc29 => ?_)
     ·refine wp_exit' (to_k0 (fun _ _ h => h) (hK7 _ _ _ _ _ ?_))
      clear hK7
      refine wp_reg ?_
      refine ol_r (r_add rfl rfl (by omega)) rfl ?_
      refine ol_r (r_move rfl) rfl ?_
      refine ol_nil (to_k0 (fun _ _ h => h) (hK4 (k + 1) _ _ ?_ ?_ (sub_cons rfl sub_nil) (sub_cons rfl (sub_cons rfl (sub_cons rfl (sub_cons rfl (sub_cons rfl sub_nil))))) (by exact subH_nil) subH_nil))
      ·try dsimp only
       exact ⟨by omega, predL_next hP hx18 (by omega), .inr ⟨x18, by rw [Nat.add_sub_cancel]; exact hx18, by omega⟩⟩
      ·try dsimp only
       omega
     ·refine wp_skip' (to_k0 (fun _ _ h => h) (hK12 _ _ _ _ _ ?_))
      clear hK12
      refine wp_seq' fun K14 hK14 => ?_
      refine wp_seq' fun K15 hK15 => ?_
      refine wp_reg ?_
      refine ol_r (r_move rfl) rfl ?_
      refine ol_r (r_eql rfl rfl) rfl ?_
      refine ol_nil (to_k0 (fun _ _ h => h) (hK15 _ _ _ _ _ ?_))
      clear hK15
      first | refine wp_condD rfl (fun hc31 => ?_) (fun hc31 => ?_) | refine wp_condN rfl (fun hc31 => ?_) (fun hc31 => ?_) | refine wp_condNB rfl (fun hc31 => ?_) (fun hc31 => ?_) | refine wp_cond' rfl (fun hc31 => ?_) (fun hc31 => ?_)
      ·refine wp_seq' fun K16 hK16 => ?_
       refine wp_reg ?_
       refine ol_r (r_move rfl) rfl ?_
       refine ol_r (r_fa (o' := 1) rfl fl101_1 rfl) rfl ?_
       refine ol_r (r_ld (id := 8) rfl rfl rfl sc3) rfl ?_
       have hb18 := hok.bd x18 (List.mem_of_getElem? hx18)
       have hm := mul_bd (a := x) (b := x18.sec) (by omega) hx.2 (by omega) hb18.2.2
       refine ol_r (r_mul rfl rfl (by omega)) rfl ?_
       refine ol_r (r_fa (o' := 0) rfl fl101_0 rfl) rfl ?_
       refine ol_r (r_ld (id := 8) rfl rfl rfl sc3) rfl ?_
       first | refine ol_r (r_quo rfl rfl (by omega)) rfl ?_ | refine ol_r (r_tquo rfl rfl (by omega)) rfl ?_
       refine ol_r (r_max rfl rfl) rfl ?_
       refine ol_r (r_assign rfl) rfl ?_
       refine ol_nil (to_k0 (fun _ _ h => h) (hK16 _ _ _ _ _ ?_))
       clear hK16
       refine hQ.ret (rvs1 (rv_t rfl)) (fun _ _ h => h) fun w hb hs hB hkd => ?_
       first
         | exact ⟨by rw [predL_hit hP hx18 hc23], hb⟩
         | (have hk0 : k = 0 := by omega
            subst hk0
            exact ⟨by rw [predL_first hP hx18 (by omega)], hb⟩)
         | exact ⟨by rw [predL_seg hP (by omega) h43 hx18 (by omega)]; rfl, hb⟩
         | exact ⟨by rw [hD.stop hc78]; rfl, hb⟩
      ·refine wp_skip' (to_k0 (fun _ _ h => h) (hK14 _ _ _ _ _ ?_))
       clear hK14
       refine wp_seq' fun K17 hK17 => ?_
       refine wp_reg ?_
       refine ol_r (r_move rfl) rfl ?_
       refine ol_r (r_move rfl) rfl ?_
       refine ol_r (r_sub rfl rfl (by omega)) rfl ?_
       refine ol_ixr hl rfl rfl sl71 (by omega) rfl fun x43 hx43 => ?_
       try simp only [Int.toNat_natCast] at hx43
       refine ol_r (r_ldw rfl (fun w1 hb1 hs1 hB1 => Rd.loads hl ty101 hx43 hb1)) rfl ?_
       refine ol_alloc 9 z101 rfl fun b9 => ?_
       refine ol_store (id := 9) rfl rfl rfl rfl sz101 rfl rfl (by first | decide | exact Nat.zero_lt_succ _ | simp) ?_
       refine ol_nil (to_k0 (fun _ _ h => h) (hK17 _ _ _ _ _ ?_))
       clear hK17
       refine wp_seq' fun K18 hK18 => ?_
       refine wp_regq (by kernel_rfl) (by kernel_rfl) ?_
       refine ql_r (r_fa (o' := 1) rfl fl101_1 rfl) rfl ?_
       refine ql_r (r_ld (id := 9) rfl rfl rfl sc3) rfl ?_
       refine ql_r (r_move rfl) rfl ?_
       refine ql_r (r_fa (o' := 0) rfl fl101_0 rfl) rfl ?_
       refine ql_r (r_ld (id := 9) rfl rfl rfl sc3) rfl ?_
       have hb18 := hok.bd x18 (List.mem_of_getElem? hx18)
       have hb43 := hok.bd x43 (List.mem_of_getElem? hx43)
       have h43 : xs[k - 1]? = some x43 := by rw [← hx43]; congr 1; omega
       have hrr := hok.rise (k - 1) x43 x18 h43 (by rw [show k - 1 + 1 = k by omega]; exact hx18)
       have hax : x43.way < x := by
         rcases hlow with h | ⟨y, hy, hyt⟩
         · omega
         · rw [h43] at hy
           cases hy
           exact hyt
       have hmb := mul_bd (a := x - x43.way) (b := x18.sec - x43.sec) (by omega) (show _ ≤ 10000000 by omega) (by omega) (show _ ≤ 1000000 by omega)
       have hqb : (x - x43.way) * (x18.sec - x43.sec) / (x18.way - x43.way) ≤ (x - x43.way) * (x18.sec - x43.sec) := Int.ediv_le_self _ hmb.1
       have hqb0 : 0 ≤ (x - x43.way) * (x18.sec - x43.sec) / (x18.way - x43.way) := Int.ediv_nonneg hmb.1 (by omega)
       refine ql_r (r_sub rfl rfl (by omega)) rfl ?_
       refine ql_r (r_fa (o' := 1) rfl fl101_1 rfl) rfl ?_
       refine ql_r (r_ld (id := 8) rfl rfl rfl sc3) rfl ?_
       refine ql_r (r_fa (o' := 1) rfl fl101_1 rfl) rfl ?_
       refine ql_r (r_ld (id := 9) rfl rfl rfl sc3) rfl ?_
       refine ql_r (r_sub rfl rfl (by omega)) rfl ?_
       refine ql_r (r_mul rfl rfl (by omega)) rfl ?_
       refine ql_r (r_fa (o' := 0) rfl fl101_0 rfl) rfl ?_
       refine ql_r (r_ld (id := 8) rfl rfl rfl sc3) rfl ?_
       refine ql_r (r_fa (o' := 0) rfl fl101_0 rfl) rfl ?_
       refine ql_r (r_ld (id := 9) rfl rfl rfl sc3) rfl ?_
       refine ql_r (r_sub rfl rfl (by omega)) rfl ?_
       first | refine ql_r (r_quo rfl rfl (by omega)) rfl ?_ | refine ql_r (r_tquo rfl rfl (by omega)) rfl ?_
       refine ql_r (r_add rfl rfl (by omega)) rfl ?_
       refine ql_r (r_assign rfl) rfl ?_
       refine ql_nil (to_k0 (fun _ _ h => h) (hK18 _ _ _ _ _ ?_))
       clear hK18
       refine hQ.ret (rvs1 (rv_t rfl)) (fun _ _ h => h) fun w hb hs hB hkd => ?_
       first
         | exact ⟨by rw [predL_hit hP hx18 hc23], hb⟩
         | (have hk0 : k = 0 := by omega
            subst hk0
            exact ⟨by rw [predL_first hP hx18 (by omega)], hb⟩)
         | exact ⟨by rw [predL_seg hP (by omega) h43 hx18 (by omega)]; rfl, hb⟩
         | exact ⟨by rw [hD.stop hc78]; rfl, hb⟩
   ·refine wp_exit' (to_k0 (fun _ _ h => h) (hK2 _ _ _ _ _ ?_))
    clear hK2
    refine wp_seq' fun K19 hK19 => ?_
    refine wp_reg ?_
    refine ol_r (r_move rfl) rfl ?_
    refine ol_r (r_move rfl) rfl ?_
    refine ol_r (r_len rfl sl71) rfl ?_
    refine ol_r (r_sub rfl rfl (by omega)) rfl ?_
    refine ol_ixr hl rfl rfl sl71 (by omega) rfl fun x69 hx69 => ?_
    try simp only [Int.toNat_natCast] at hx69
    have hb69 := hok.bd x69 (List.mem_of_getElem? hx69)
    have hkn : k = xs.length := by omega
    have h69 : xs[k - 1]? = some x69 := by rw [← hx69]; congr 1; omega
    have hax : x69.way ≤ x := by
      rcases hlow with h | ⟨y, hy, hyt⟩
      · omega
      · rw [h69] at hy
        cases hy
        omega
    refine ol_r (r_ldw rfl (fun w1 hb1 hs1 hB1 => Rd.loads hl ty101 hx69 hb1)) rfl ?_
    refine ol_alloc 10 z101 rfl fun b10 => ?_
    refine ol_store (id := 10) rfl rfl rfl rfl sz101 rfl rfl (by first | decide | exact Nat.zero_lt_succ _ | simp) ?_
    refine ol_nil (to_k0 (fun _ _ h => h) (hK19 _ _ _ _ _ ?_))
    clear hK19
    refine wp_seq' fun K20 hK20 => ?_
    refine wp_regq (by kernel_rfl) (by kernel_rfl) ?_
    refine ql_r (r_fa (o' := 0) rfl fl101_0 rfl) rfl ?_
    refine ql_r (r_ld (id := 10) rfl rfl rfl sc3) rfl ?_
    refine ql_r (r_fa (o' := 1) rfl fl101_1 rfl) rfl ?_
    refine ql_r (r_ld (id := 10) rfl rfl rfl sc3) rfl ?_
    refine ql_r (r_assign rfl) rfl ?_
    refine ql_r (r_assign rfl) rfl ?_
    refine ql_nil (to_k0 (fun _ _ h => h) (hK20 _ _ _ _ _ ?_))
    clear hK20
    refine wp_seq' fun K21 hK21 => ?_
    refine wp_block' ?_
    apply wp_loopM (σ := Int × Int × Nat) (fun s => DblOk sl x (predL sl x none xs) s.1 s.2.1 s.2.2) (fun s => [(11, .int .i64 s.1), (12, .int .i64 s.2.1)]) [(1, _), (2, _)] (fun s => []) [(10, _)] (fun s => s.2.2) ((x69.way, x69.sec, 14))
    ·try dsimp only
     exact DblOk.start hx.2 hax hb69 (predL_last hP (by omega) (by omega) h69)
    ·exact (sub_cons rfl (sub_cons rfl sub_nil))
    ·exact (sub_cons rfl (sub_cons rfl sub_nil))
    ·exact subH_nil
    ·exact (subH_same rfl subH_nil)
    ·rintro ⟨w_, s, f⟩ hD
     dsimp only at hD ⊢
     have hbt := bT_le (j := 14 - f) (by omega)
     have hDs := hD.sbd
     have hDw := hD.wge
     have hDx := hD.wx
     have hdb := dblS_bd hDs.1 hs
     have hmb := mul_bd (a := x - w_) (b := dblS s sl - s) (by omega) (show _ ≤ 10000000 by omega) (by omega) (show _ ≤ 900000000000 by omega)
     have hqb : (x - w_) * (dblS s sl - s) / w_ ≤ (x - w_) * (dblS s sl - s) := Int.ediv_le_self _ hmb.1
     have hqb0 : 0 ≤ (x - w_) * (dblS s sl - s) / w_ := Int.ediv_nonneg hmb.1 (by omega)
     intro K22 hK22
     refine wp_seq' fun K23 hK23 => ?_
     refine wp_seq' fun K24 hK24 => ?_
     refine wp_reg ?_
     refine ol_r (r_move rfl) rfl ?_
     refine ol_r (r_move rfl) rfl ?_
     refine ol_r (r_mul rfl rfl (by omega)) rfl ?_
     refine ol_r (r_geq rfl rfl) rfl ?_
     refine ol_nil (to_k0 (fun _ _ h => h) (hK24 _ _ _ _ _ ?_))
     clear hK24
     first | refine wp_condD rfl (fun hc78 => ?_) (fun hc78 => ?_) | refine wp_condN rfl (fun hc78 => ?_) (fun hc78 => ?_) | refine wp_condNB rfl (fun hc78 => ?_) (fun hc78 => ?_) | refine wp_cond' rfl (fun hc78 => ?_) (fun hc78 => ?_)
     ·refine wp_skip' (to_k0 (fun _ _ h => h) (hK23 _ _ _ _ _ ?_))
      clear hK23
      refine wp_block' ?_
      refine wp_reg ?_
      obtain ⟨g, hfg, hDg⟩ := hD.next hs hc78
      refine ol_r (r_move rfl) rfl ?_
      refine ol_r (r_mul rfl rfl (by omega)) rfl ?_
      refine ol_r (r_move rfl) rfl ?_
      refine ol_r (r_move rfl) rfl ?_
      refine ol_call rfl rfl cb97 rfl (fun w1 hb1 hs1 hB1 => Calls.mono (ref_doubled s sl _ (by omega) hs) ?_)
      rintro e w2 ⟨rfl, hb2⟩
      refine After.below rfl hb1 hs1 hB1 hb2 ?_
      clear hb2 hB1 hs1 hb1 w2 w1
      refine ol_r (r_assign rfl) rfl ?_
      refine ol_r (r_assign rfl) rfl ?_
      refine ol_nil (to_k0 (fun _ _ h => h) (hK22 ((2 * w_, dblS s sl, g)) _ _ ?_ ?_ (sub_cons rfl (sub_cons rfl sub_nil)) (sub_cons rfl (sub_cons rfl sub_nil)) (by exact subH_nil) (subH_same rfl subH_nil)))
      ·try dsimp only
       exact hDg
      ·try dsimp only
       omega
     ·refine wp_exit' (to_k0 (fun _ _ h => h) (hK21 _ _ _ _ _ ?_))
      clear hK21
      refine wp_seq' fun K25 hK25 => ?_
      refine wp_reg ?_
      refine ol_r (r_move rfl) rfl ?_
      refine ol_r (r_move rfl) rfl ?_
      refine ol_r (r_move rfl) rfl ?_
      refine ol_r (r_sub rfl rfl (by omega)) rfl ?_
      refine ol_r (r_move rfl) rfl ?_
      refine ol_r (r_move rfl) rfl ?_
      refine ol_call rfl rfl cb97 rfl (fun w1 hb1 hs1 hB1 => Calls.mono (ref_doubled s sl _ (by omega) hs) ?_)
      rintro e w2 ⟨rfl, hb2⟩
      refine After.below rfl hb1 hs1 hB1 hb2 ?_
      clear hb2 hB1 hs1 hb1 w2 w1
      refine ol_r (r_move rfl) rfl ?_
      refine ol_r (r_sub rfl rfl (by omega)) rfl ?_
      refine ol_r (r_mul rfl rfl (by omega)) rfl ?_
      refine ol_r (r_move rfl) rfl ?_
      first | refine ol_r (r_quo rfl rfl (by omega)) rfl ?_ | refine ol_r (r_tquo rfl rfl (by omega)) rfl ?_
      refine ol_r (r_add rfl rfl (by omega)) rfl ?_
      refine ol_r (r_assign rfl) rfl ?_
      refine ol_nil (to_k0 (fun _ _ h => h) (hK25 _ _ _ _ _ ?_))
      clear hK25
      refine hQ.ret (rvs1 (rv_t rfl)) (fun _ _ h => h) fun w hb hs hB hkd => ?_
      first
        | exact ⟨by rw [predL_hit hP hx18 hc23], hb⟩
        | (have hk0 : k = 0 := by omega
           subst hk0
           exact ⟨by rw [predL_first hP hx18 (by omega)], hb⟩)
        | exact ⟨by rw [predL_seg hP (by omega) h43 hx18 (by omega)]; rfl, hb⟩
        | exact ⟨by rw [hD.stop hc78]; rfl, hb⟩
def slowR (xs : List RaceR) (right : Bool) (sl : Int) : Int := if racesR xs ≠ 0 then racesR xs else if right = false ∨ ¬(0 ≤ sl ∧ sl ≤ 200) then 9 else 0
theorem load_checkSlower (a : Option Addr) (n cap : Nat) (xs : List RaceR) (right : Bool) (sl : Int) (w : World) (hl : Rd encRace w.heap.size w a n cap xs) :
    Calls Try.prog 81 #[.slice a n cap, .bool right, .int .i64 sl] w fun e w' => e = .returned (.int .i64 (slowR xs right sl)) ∧ Below w.heap.size w w' := by
  refine enterQ (N := 20) (C := fun _ => True) (H := []) (B := w.heap.size) (args := [_, _, _]) Try.func81 rfl rfl rfl (Nat.le_refl _) (Sat.nil _ _) fun Q hQ => ?_
  refine wp_seq' fun K1 hK1 => ?_
  refine wp_reg ?_
  refine ol_r (r_assign rfl) rfl ?_
  refine ol_nil (to_k0 (fun _ _ h => h) (hK1 _ _ _ _ _ ?_))
  clear hK1
  refine wp_seq' fun K2 hK2 => ?_
  refine wp_seq' fun K3 hK3 => ?_
  refine wp_reg ?_
  refine ol_r (r_move rfl) rfl ?_
  refine ol_call rfl rfl cb53 rfl (fun w1 hb1 hs1 hB1 => Calls.mono (load_CheckRaces _ _ _ xs _ (hl.at hb1 hB1)) ?_)
  rintro e w2 ⟨rfl, hb2⟩
  refine After.below rfl hb1 hs1 hB1 hb2 ?_
  clear hb2 hB1 hs1 hb1 w2 w1
  refine ol_r (r_assign rfl) rfl ?_
  refine ol_nil (to_k0 (fun _ _ h => h) (hK3 _ _ _ _ _ ?_))
  clear hK3
  refine wp_seq' fun K4 hK4 => ?_
  refine wp_reg ?_
  refine ol_r (r_move rfl) rfl ?_
  refine ol_r (r_neq rfl rfl) rfl ?_
  refine ol_nil (to_k0 (fun _ _ h => h) (hK4 _ _ _ _ _ ?_))
  clear hK4
  first | refine wp_condD rfl (fun hc11 => ?_) (fun hc11 => ?_) | refine wp_condN rfl (fun hc11 => ?_) (fun hc11 => ?_) | refine wp_condNB rfl (fun hc11 => ?_) (fun hc11 => ?_) | refine wp_cond' rfl (fun hc11 => ?_) (fun hc11 => ?_)
  ·refine wp_seq' fun K5 hK5 => ?_
   refine wp_reg ?_
   refine ol_r (r_move rfl) rfl ?_
   refine ol_r (r_assign rfl) rfl ?_
   refine ol_nil (to_k0 (fun _ _ h => h) (hK5 _ _ _ _ _ ?_))
   clear hK5
   refine hQ.ret (rvs1 (rv_t rfl)) (fun _ _ h => h) fun w hb hs hB hkd => ?_
   exact ⟨by unfold slowR; rw [if_pos hc11], hb⟩
  ·refine wp_skip' (to_k0 (fun _ _ h => h) (hK2 _ _ _ _ _ ?_))
   clear hK2
   refine wp_seq' fun K6 hK6 => ?_
   refine wp_seq' fun K7 hK7 => ?_
   refine wp_reg ?_
   refine ol_r (r_move rfl) rfl ?_
   refine ol_r (r_not rfl) rfl ?_
   refine ol_r (r_move rfl) rfl ?_
   refine ol_split (d := 15) rfl (fun hs15 => ?_) (fun hs15 => ?_)
   ·have phs15 := hs15; try simp only [decide_eq_true_eq, decide_eq_false_iff_not, Bool.not_eq_true', Bool.not_eq_false', Bool.not_true, Bool.not_false] at phs15
    refine ol_s rfl rfl hs15 rfl ?_
    refine ol_s rfl rfl hs15 rfl ?_
    refine ol_s rfl rfl hs15 rfl ?_
    refine ol_r (r_pickT rfl hs15 rfl) rfl ?_
    refine ol_nil (to_k0 (fun _ _ h => h) (hK7 _ _ _ _ _ ?_))
    clear hK7
    refine wp_condT rfl ?_
    refine wp_seq' fun K8 hK8 => ?_
    refine wp_reg ?_
    refine ol_r (r_assign rfl) rfl ?_
    refine ol_nil (to_k0 (fun _ _ h => h) (hK8 _ _ _ _ _ ?_))
    clear hK8
    refine hQ.ret (rvs1 (rv_t rfl)) (fun _ _ h => h) fun w hb hs hB hkd => ?_
    exact ⟨by unfold slowR; rw [if_neg hc11, if_pos (.inl (by simpa using hs15))], hb⟩
   ·have phs15 := hs15; try simp only [decide_eq_true_eq, decide_eq_false_iff_not, Bool.not_eq_true', Bool.not_eq_false', Bool.not_true, Bool.not_false] at phs15
    refine ol_g rfl rfl hs15 ?_
    refine ol_r (r_move rfl) rfl ?_
    refine ol_g rfl rfl hs15 ?_
    refine ol_call rfl rfl cb67 rfl (fun w1 hb1 hs1 hB1 => Calls.mono (load_in _ _ _ _) ?_)
    rintro e w2 ⟨rfl, hb2⟩
    refine After.below rfl hb1 hs1 hB1 hb2 ?_
    clear hb2 hB1 hs1 hb1 w2 w1
    refine ol_g rfl rfl hs15 ?_
    refine ol_r (r_not rfl) rfl ?_
    refine ol_r (r_pickF rfl hs15 rfl) rfl ?_
    refine ol_nil (to_k0 (fun _ _ h => h) (hK7 _ _ _ _ _ ?_))
    clear hK7
    first | refine wp_condD rfl (fun hc19 => ?_) (fun hc19 => ?_) | refine wp_condN rfl (fun hc19 => ?_) (fun hc19 => ?_) | refine wp_condNB rfl (fun hc19 => ?_) (fun hc19 => ?_) | refine wp_cond' rfl (fun hc19 => ?_) (fun hc19 => ?_)
    ·refine wp_seq' fun K9 hK9 => ?_
     refine wp_reg ?_
     refine ol_r (r_assign rfl) rfl ?_
     refine ol_nil (to_k0 (fun _ _ h => h) (hK9 _ _ _ _ _ ?_))
     clear hK9
     refine hQ.ret (rvs1 (rv_t rfl)) (fun _ _ h => h) fun w hb hs hB hkd => ?_
     exact ⟨by unfold slowR; rw [if_neg hc11, if_pos (.inr (fun h => by have := inB_iff.2 h; rw [this] at hc19; cases hc19))], hb⟩
    ·refine wp_skip' (to_k0 (fun _ _ h => h) (hK6 _ _ _ _ _ ?_))
     clear hK6
     refine wp_seq' fun K10 hK10 => ?_
     refine wp_reg ?_
     refine ol_r (r_assign rfl) rfl ?_
     refine ol_nil (to_k0 (fun _ _ h => h) (hK10 _ _ _ _ _ ?_))
     clear hK10
     refine hQ.ret (rvs1 (rv_t rfl)) (fun _ _ h => h) fun w hb hs hB hkd => ?_
     have hn1 : ¬(right = false ∨ ¬(0 ≤ sl ∧ sl ≤ 200)) := by
       rintro (h | h)
       · rw [h] at phs15; cases phs15
       · exact h (inB_iff.1 hc19)
     exact ⟨by unfold slowR; rw [if_neg hc11, if_neg hn1], hb⟩
theorem load_Predict (a : Option Addr) (n cap : Nat) (xs : List RaceR) (x sl : Int) (w : World) (hl : Rd encRace w.heap.size w a n cap xs) :
    Calls Try.prog 49 #[.slice a n cap, .int .i64 x, .int .i64 sl] w fun e w' => e = .returned (.tuple #[.int .i64 (predR xs x sl).1, .int .i64 (predR xs x sl).2]) ∧ Below w.heap.size w w' := by
  refine enterQ (N := 21) (C := fun _ => True) (H := []) (B := w.heap.size) (args := [_, _, _]) Try.func49 rfl rfl rfl (Nat.le_refl _) (Sat.nil _ _) fun Q hQ => ?_
  refine wp_seq' fun K1 hK1 => ?_
  refine wp_reg ?_
  refine ol_r (r_assign rfl) rfl ?_
  refine ol_r (r_assign rfl) rfl ?_
  refine ol_nil (to_k0 (fun _ _ h => h) (hK1 _ _ _ _ _ ?_))
  clear hK1
  refine wp_seq' fun K2 hK2 => ?_
  refine wp_seq' fun K3 hK3 => ?_
  refine wp_reg ?_
  refine ol_r (r_move rfl) rfl ?_
  refine ol_r (r_move rfl) rfl ?_
  refine ol_call rfl rfl cb67 rfl (fun w1 hb1 hs1 hB1 => Calls.mono (load_in _ _ _ _) ?_)
  rintro e w2 ⟨rfl, hb2⟩
  refine After.below rfl hb1 hs1 hB1 hb2 ?_
  clear hb2 hB1 hs1 hb1 w2 w1
  refine ol_r (r_move rfl) rfl ?_
  refine ol_call rfl rfl cb81 rfl (fun w1 hb1 hs1 hB1 => Calls.mono (load_checkSlower _ _ _ xs _ _ _ (hl.at hb1 hB1)) ?_)
  rintro e w2 ⟨rfl, hb2⟩
  refine After.below rfl hb1 hs1 hB1 hb2 ?_
  clear hb2 hB1 hs1 hb1 w2 w1
  refine ol_r (r_assign rfl) rfl ?_
  refine ol_nil (to_k0 (fun _ _ h => h) (hK3 _ _ _ _ _ ?_))
  clear hK3
  refine wp_seq' fun K4 hK4 => ?_
  refine wp_reg ?_
  refine ol_r (r_move rfl) rfl ?_
  refine ol_r (r_neq rfl rfl) rfl ?_
  refine ol_nil (to_k0 (fun _ _ h => h) (hK4 _ _ _ _ _ ?_))
  clear hK4
  first | refine wp_condD rfl (fun hc15 => ?_) (fun hc15 => ?_) | refine wp_condN rfl (fun hc15 => ?_) (fun hc15 => ?_) | refine wp_condNB rfl (fun hc15 => ?_) (fun hc15 => ?_) | refine wp_cond' rfl (fun hc15 => ?_) (fun hc15 => ?_)
  ·refine wp_seq' fun K5 hK5 => ?_
   refine wp_reg ?_
   refine ol_r (r_move rfl) rfl ?_
   refine ol_r (r_assign rfl) rfl ?_
   refine ol_r (r_assign rfl) rfl ?_
   refine ol_nil (to_k0 (fun _ _ h => h) (hK5 _ _ _ _ _ ?_))
   clear hK5
   refine hQ.ret (rvs2 (rv_t rfl) (rv_t rfl)) (fun _ _ h => h) fun w hb hs hB hkd => ?_
   by_cases h0 : racesR xs = 0
   · have h9 : ¬((1 ≤ x ∧ x ≤ 10000000) ∧ (0 ≤ sl ∧ sl ≤ 200)) := fun h => hc15 (by unfold slowR; rw [if_neg (fun h2 => h2 h0), if_neg (fun h2 => by rcases h2 with h2 | h2; rw [inB_iff.2 h.1] at h2; cases h2; exact h2 h.2)])
     have h8 : slowR xs (inB x 1 10000000) sl = 9 := by unfold slowR at hc15 ⊢; rw [if_neg (fun h2 => h2 h0)] at hc15 ⊢; by_cases h : inB x 1 10000000 = false ∨ ¬(0 ≤ sl ∧ sl ≤ 200); rw [if_pos h]; rw [if_neg h] at hc15; exact absurd rfl hc15
     exact ⟨by rw [predR_9 h0 h9, h8], hb⟩
   · exact ⟨by rw [predR_e h0]; unfold slowR; rw [if_pos h0], hb⟩
  ·refine wp_skip' (to_k0 (fun _ _ h => h) (hK2 _ _ _ _ _ ?_))
   clear hK2
   refine wp_seq' fun K6 hK6 => ?_
   refine wp_reg ?_
   have h0 : racesR xs = 0 := by
     by_cases h : racesR xs = 0
     · exact h
     · unfold slowR at hc15; rw [if_pos h] at hc15; exact absurd h hc15
   have hin : (1 ≤ x ∧ x ≤ 10000000) ∧ (0 ≤ sl ∧ sl ≤ 200) := by
     by_cases h : inB x 1 10000000 = false ∨ ¬(0 ≤ sl ∧ sl ≤ 200)
     · unfold slowR at hc15; rw [if_neg (fun h2 => h2 h0), if_pos h] at hc15; exact absurd (show ¬((9 : Int) = 0) by omega) hc15
     · refine ⟨?_, ?_⟩
       · by_cases h1 : inB x 1 10000000 = true
         · exact inB_iff.1 h1
         · exact absurd (.inl (by simpa using h1)) h
       · by_cases h1 : 0 ≤ sl ∧ sl ≤ 200
         · exact h1
         · exact absurd (.inr h1) h
   refine ol_r (r_move rfl) rfl ?_
   refine ol_r (r_move rfl) rfl ?_
   refine ol_r (r_move rfl) rfl ?_
   refine ol_call rfl rfl cb82 rfl (fun w1 hb1 hs1 hB1 => Calls.mono (load_predict _ _ _ xs x sl _ (hl.at hb1 hB1) (racesOk h0) hin.1 hin.2) ?_)
   rintro e w2 ⟨rfl, hb2⟩
   refine After.below rfl hb1 hs1 hB1 hb2 ?_
   clear hb2 hB1 hs1 hb1 w2 w1
   refine ol_r (r_assign rfl) rfl ?_
   refine ol_r (r_assign rfl) rfl ?_
   refine ol_nil (to_k0 (fun _ _ h => h) (hK6 _ _ _ _ _ ?_))
   clear hK6
   refine hQ.ret (rvs2 (rv_t rfl) (rv_t rfl)) (fun _ _ h => h) fun w hb hs hB hkd => ?_
   exact ⟨by rw [predR_0 h0 hin], hb⟩
theorem ref_Predict (a : Option Addr) (n cap : Nat) (xs : List RaceR) (x sl : Int) (w : World) (hl : Rd encRace w.heap.size w a n cap xs) :
    Calls Try.prog 50 #[.slice a n cap, .int .i64 x, .int .i64 sl] w fun e w' => e = .returned (.tuple #[.int .i64 (predR xs x sl).1, .int .i64 (predR xs x sl).2]) ∧ Below w.heap.size w w' := by
  refine enterQ (N := 24) (C := fun _ => True) (H := []) (B := w.heap.size) (args := [_, _, _]) Try.func50 rfl rfl rfl (Nat.le_refl _) (Sat.nil _ _) fun Q hQ => ?_
  refine wp_seq' fun K1 hK1 => ?_
  refine wp_reg ?_
  refine ol_r (r_assign rfl) rfl ?_
  refine ol_r (r_assign rfl) rfl ?_
  refine ol_nil (to_k0 (fun _ _ h => h) (hK1 _ _ _ _ _ ?_))
  clear hK1
  refine wp_seq' fun K2 hK2 => ?_
  refine wp_seq' fun K3 hK3 => ?_
  refine wp_reg ?_
  refine ol_r (r_move rfl) rfl ?_
  refine ol_call rfl rfl cb54 rfl (fun w1 hb1 hs1 hB1 => Calls.mono (ref_CheckRaces _ _ _ xs _ (hl.at hb1 hB1)) ?_)
  rintro e w2 ⟨rfl, hb2⟩
  refine After.below rfl hb1 hs1 hB1 hb2 ?_
  clear hb2 hB1 hs1 hb1 w2 w1
  refine ol_r (r_assign rfl) rfl ?_
  refine ol_nil (to_k0 (fun _ _ h => h) (hK3 _ _ _ _ _ ?_))
  clear hK3
  refine wp_seq' fun K4 hK4 => ?_
  refine wp_reg ?_
  refine ol_r (r_move rfl) rfl ?_
  refine ol_r (r_neq rfl rfl) rfl ?_
  refine ol_nil (to_k0 (fun _ _ h => h) (hK4 _ _ _ _ _ ?_))
  clear hK4
  first | refine wp_condD rfl (fun hc12 => ?_) (fun hc12 => ?_) | refine wp_condN rfl (fun hc12 => ?_) (fun hc12 => ?_) | refine wp_condNB rfl (fun hc12 => ?_) (fun hc12 => ?_) | refine wp_cond' rfl (fun hc12 => ?_) (fun hc12 => ?_)
  ·refine wp_seq' fun K5 hK5 => ?_
   refine wp_reg ?_
   refine ol_r (r_move rfl) rfl ?_
   refine ol_r (r_assign rfl) rfl ?_
   refine ol_r (r_assign rfl) rfl ?_
   refine ol_nil (to_k0 (fun _ _ h => h) (hK5 _ _ _ _ _ ?_))
   clear hK5
   refine hQ.ret (rvs2 (rv_t rfl) (rv_t rfl)) (fun _ _ h => h) fun w hb hs hB hkd => ?_
   exact ⟨by rw [predR_e hc12], hb⟩
  ·refine wp_skip' (to_k0 (fun _ _ h => h) (hK2 _ _ _ _ _ ?_))
   clear hK2
   refine wp_seq' fun K6 hK6 => ?_
   refine wp_seq' fun K7 hK7 => ?_
   refine wp_reg ?_
   refine ol_r (r_move rfl) rfl ?_
   refine ol_call rfl rfl cb62 rfl (fun w1 hb1 hs1 hB1 => Calls.mono (ref_outside _ _ _ _) ?_)
   rintro e w2 ⟨rfl, hb2⟩
   refine After.below rfl hb1 hs1 hB1 hb2 ?_
   clear hb2 hB1 hs1 hb1 w2 w1
   refine ol_r (r_move rfl) rfl ?_
   refine ol_split (d := 16) rfl (fun hs16 => ?_) (fun hs16 => ?_)
   ·have phs16 := hs16; try simp only [decide_eq_true_eq, decide_eq_false_iff_not, Bool.not_eq_true', Bool.not_eq_false', Bool.not_true, Bool.not_false] at phs16
    refine ol_s rfl rfl hs16 rfl ?_
    refine ol_s rfl rfl hs16 rfl ?_
    refine ol_r (r_pickT rfl hs16 rfl) rfl ?_
    refine ol_nil (to_k0 (fun _ _ h => h) (hK7 _ _ _ _ _ ?_))
    clear hK7
    refine wp_condT rfl ?_
    refine wp_seq' fun K8 hK8 => ?_
    refine wp_reg ?_
    refine ol_r (r_assign rfl) rfl ?_
    refine ol_r (r_assign rfl) rfl ?_
    refine ol_nil (to_k0 (fun _ _ h => h) (hK8 _ _ _ _ _ ?_))
    clear hK8
    refine hQ.ret (rvs2 (rv_t rfl) (rv_t rfl)) (fun _ _ h => h) fun w hb hs hB hkd => ?_
    exact ⟨by rw [predR_9 (Decidable.not_not.1 hc12) (fun h => by have := inB_iff.2 h.1; rw [this] at hs16; cases hs16)], hb⟩
   ·have phs16 := hs16; try simp only [decide_eq_true_eq, decide_eq_false_iff_not, Bool.not_eq_true', Bool.not_eq_false', Bool.not_true, Bool.not_false] at phs16
    refine ol_g rfl rfl hs16 ?_
    refine ol_r (r_move rfl) rfl ?_
    refine ol_g rfl rfl hs16 ?_
    refine ol_call rfl rfl cb62 rfl (fun w1 hb1 hs1 hB1 => Calls.mono (ref_outside _ _ _ _) ?_)
    rintro e w2 ⟨rfl, hb2⟩
    refine After.below rfl hb1 hs1 hB1 hb2 ?_
    clear hb2 hB1 hs1 hb1 w2 w1
    refine ol_r (r_pickF rfl hs16 rfl) rfl ?_
    refine ol_nil (to_k0 (fun _ _ h => h) (hK7 _ _ _ _ _ ?_))
    clear hK7
    first | refine wp_condD rfl (fun hc19 => ?_) (fun hc19 => ?_) | refine wp_condN rfl (fun hc19 => ?_) (fun hc19 => ?_) | refine wp_condNB rfl (fun hc19 => ?_) (fun hc19 => ?_) | refine wp_cond' rfl (fun hc19 => ?_) (fun hc19 => ?_)
    ·refine wp_seq' fun K9 hK9 => ?_
     refine wp_reg ?_
     refine ol_r (r_assign rfl) rfl ?_
     refine ol_r (r_assign rfl) rfl ?_
     refine ol_nil (to_k0 (fun _ _ h => h) (hK9 _ _ _ _ _ ?_))
     clear hK9
     refine hQ.ret (rvs2 (rv_t rfl) (rv_t rfl)) (fun _ _ h => h) fun w hb hs hB hkd => ?_
     exact ⟨by rw [predR_9 (Decidable.not_not.1 hc12) (fun h => by have := inB_iff.2 h.2; rw [this] at hc19; cases hc19)], hb⟩
    ·refine wp_skip' (to_k0 (fun _ _ h => h) (hK6 _ _ _ _ _ ?_))
     clear hK6
     refine wp_seq' fun K10 hK10 => ?_
     refine wp_reg ?_
     have h0 : racesR xs = 0 := Decidable.not_not.1 hc12
     have hin : (1 ≤ x ∧ x ≤ 10000000) ∧ (0 ≤ sl ∧ sl ≤ 200) := ⟨inB_iff.1 (by simpa using hs16), inB_iff.1 (by simpa using hc19)⟩
     refine ol_r (r_move rfl) rfl ?_
     refine ol_r (r_move rfl) rfl ?_
     refine ol_r (r_move rfl) rfl ?_
     refine ol_call rfl rfl cb83 rfl (fun w1 hb1 hs1 hB1 => Calls.mono (ref_predict _ _ _ xs x sl _ (hl.at hb1 hB1) (racesOk h0) hin.1 hin.2) ?_)
     rintro e w2 ⟨rfl, hb2⟩
     refine After.below rfl hb1 hs1 hB1 hb2 ?_
     clear hb2 hB1 hs1 hb1 w2 w1
     refine ol_r (r_assign rfl) rfl ?_
     refine ol_r (r_assign rfl) rfl ?_
     refine ol_nil (to_k0 (fun _ _ h => h) (hK10 _ _ _ _ _ ?_))
     clear hK10
     refine hQ.ret (rvs2 (rv_t rfl) (rv_t rfl)) (fun _ _ h => h) fun w hb hs hB hkd => ?_
     exact ⟨by rw [predR_0 h0 hin], hb⟩
end Go.Proofs.Ytamlldedmhkobaa
