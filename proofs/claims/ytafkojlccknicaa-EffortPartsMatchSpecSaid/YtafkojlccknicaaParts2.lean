/-
  All streams of an activity (under way).
-/
import Derived.Test.YtafkojlccknicaaParts
namespace Go.Proofs.Ytafkojlccknicaa
open Go Go.RowKit Hx
set_option linter.unusedVariables false
set_option linter.unusedSimpArgs false
set_option maxRecDepth 8000
theorem effort_streams (A : ActV) (w : World) (hA : A.Ok w.heap.size w) (hok : SmpOk A.start A.ss) :
    Calls Try.prog 86 #[.agg #[.string A.name, .int .i64 A.sport, .int .i64 A.start, .slice A.sa A.sn A.sc, .slice A.la A.ln A.lc, .slice A.ta A.tn A.tc]] w fun e w' => ∃ a1 n1 c1 a2 n2 c2 a3 n3 c3 a4 n4 c4 a5 n5 c5, e = .returned (.agg #[.slice none 0 0, .slice a1 n1 c1, .slice a2 n2 c2, .slice a3 n3 c3, .slice a4 n4 c4, .slice a5 n5 c5]) ∧ Below w.heap.size w w' ∧ Sat w.heap.size w' [(2001, .row a1 n1 c1 (encI.enc (strmL 1 A.ss (A.ss.length - 1))) 3 1), (2002, .row a2 n2 c2 (encI.enc (strmL 2 A.ss (A.ss.length - 1))) 3 1), (2003, .row a3 n3 c3 (encI.enc (strmL 3 A.ss (A.ss.length - 1))) 3 1), (2004, .row a4 n4 c4 (encI.enc (strmL 4 A.ss (A.ss.length - 1))) 3 1), (2005, .row a5 n5 c5 (encI.enc (strmL 5 A.ss (A.ss.length - 1))) 3 1)] := by
  refine enterQ (N := 15) (C := fun _ => True) (H := []) (B := w.heap.size) (args := [_]) Try.func86 rfl rfl rfl (Nat.le_refl _) (Sat.nil _ _) fun Q hQ => ?_
  refine wp_seq' fun K1 hK1 => ?_
  refine wp_reg ?_
  refine ol_box 1 rfl rfl rfl fun b1 => ?_
  refine ol_alloc 2 z114 rfl fun b2 => ?_
  refine ol_nil (to_k0 (fun _ _ h => h) (hK1 _ _ _ _ _ ?_))
  clear hK1
  refine wp_seq' fun K2 hK2 => ?_
  refine wp_reg ?_
  refine ol_alloc 3 z114 rfl fun b3 => ?_
  refine ol_nil (to_k0 (fun _ _ h => h) (hK2 _ _ _ _ _ ?_))
  clear hK2
  refine wp_seq' fun K3 hK3 => ?_
  refine wp_seq' fun K4 hK4 => ?_
  refine wp_reg ?_
  refine ol_r (r_assign rfl) rfl ?_
  refine ol_nil (to_k0 (fun _ _ h => h) (hK4 _ _ _ _ _ ?_))
  clear hK4
  refine wp_block' ?_
  refine wp_unroll 6 ?_
  refine kp_unroll fun K5 hK5 => ?_
  refine wp_seq' fun K6 hK6 => ?_
  refine wp_seq' fun K7 hK7 => ?_
  refine wp_reg ?_
  refine ol_r (r_move rfl) rfl ?_
  refine ol_r (r_leq rfl rfl) rfl ?_
  refine ol_nil (to_k0 (fun _ _ h => h) (hK7 _ _ _ _ _ ?_))
  clear hK7
  first | refine wp_condD rfl (fun hc6 => ?_) (fun hc6 => ?_) | refine wp_condN rfl (fun hc6 => ?_) (fun hc6 => ?_) | refine wp_condNB rfl (fun hc6 => ?_) (fun hc6 => ?_) | refine wp_cond' rfl (fun hc6 => ?_) (fun hc6 => ?_)
  ·refine wp_skip' (to_k0 (fun _ _ h => h) (hK6 _ _ _ _ _ ?_))
   clear hK6
   refine wp_seq' fun K8 hK8 => ?_
   refine wp_block' ?_
   refine wp_reg ?_
   refine ol_r (r_move rfl) rfl ?_
   refine ol_r (r_lda (id := 1) (n := 6) rfl rfl rfl ag51) rfl ?_
   refine ol_r (r_move rfl) rfl ?_
   refine ol_call rfl rfl cb81 rfl (fun w1 hb1 hs1 hB1 => Calls.mono (effort_stream A _ _ (hA.at hb1 hB1) hok (by omega)) ?_)
   rintro e w2 ⟨a1012, n1012, c1012, rfl, hf1012⟩
   refine After.fresh (id := 1012) rfl hb1 hs1 hB1 hf1012 ?_
   have hl1012 := hf1012.len; clear hf1012 hB1 hs1 hb1 w2 w1
   refine ol_r (r_ixa (o' := 1) rfl rfl ar114 (by decide) rfl) rfl ?_
   refine ol_store (id := 3) rfl rfl rfl rfl sz22 rfl rfl (by first | decide | exact Nat.zero_lt_succ _ | simp) ?_
   refine ol_nil (to_k0 (fun _ _ h => h) (hK8 _ _ _ _ _ ?_))
   clear hK8
   refine wp_reg ?_
   refine ol_r (r_move rfl) rfl ?_
   refine ol_r (r_add rfl rfl (by omega)) rfl ?_
   refine ol_r (r_assign rfl) rfl ?_
   refine ol_nil (to_k0 (fun _ _ h => h) (hK5 _ _ ?_))
   clear hK5
   refine kp_unroll fun K9 hK9 => ?_
   refine wp_seq' fun K10 hK10 => ?_
   refine wp_seq' fun K11 hK11 => ?_
   refine wp_reg ?_
   refine ol_r (r_move rfl) rfl ?_
   refine ol_r (r_leq rfl rfl) rfl ?_
   refine ol_nil (to_k0 (fun _ _ h => h) (hK11 _ _ _ _ _ ?_))
   clear hK11
   first | refine wp_condD rfl (fun hc6 => ?_) (fun hc6 => ?_) | refine wp_condN rfl (fun hc6 => ?_) (fun hc6 => ?_) | refine wp_condNB rfl (fun hc6 => ?_) (fun hc6 => ?_) | refine wp_cond' rfl (fun hc6 => ?_) (fun hc6 => ?_)
   ·refine wp_skip' (to_k0 (fun _ _ h => h) (hK10 _ _ _ _ _ ?_))
    clear hK10
    refine wp_seq' fun K12 hK12 => ?_
    refine wp_block' ?_
    refine wp_reg ?_
    refine ol_r (r_move rfl) rfl ?_
    refine ol_r (r_lda (id := 1) (n := 6) rfl rfl rfl ag51) rfl ?_
    refine ol_r (r_move rfl) rfl ?_
    refine ol_call rfl rfl cb81 rfl (fun w1 hb1 hs1 hB1 => Calls.mono (effort_stream A _ _ (hA.at hb1 hB1) hok (by omega)) ?_)
    rintro e w2 ⟨a2012, n2012, c2012, rfl, hf2012⟩
    refine After.fresh (id := 2012) rfl hb1 hs1 hB1 hf2012 ?_
    have hl2012 := hf2012.len; clear hf2012 hB1 hs1 hb1 w2 w1
    refine ol_r (r_ixa (o' := 2) rfl rfl ar114 (by decide) rfl) rfl ?_
    refine ol_store (id := 3) rfl rfl rfl rfl sz22 rfl rfl (by first | decide | exact Nat.zero_lt_succ _ | simp) ?_
    refine ol_nil (to_k0 (fun _ _ h => h) (hK12 _ _ _ _ _ ?_))
    clear hK12
    refine wp_reg ?_
    refine ol_r (r_move rfl) rfl ?_
    refine ol_r (r_add rfl rfl (by omega)) rfl ?_
    refine ol_r (r_assign rfl) rfl ?_
    refine ol_nil (to_k0 (fun _ _ h => h) (hK9 _ _ ?_))
    clear hK9
    refine kp_unroll fun K13 hK13 => ?_
    refine wp_seq' fun K14 hK14 => ?_
    refine wp_seq' fun K15 hK15 => ?_
    refine wp_reg ?_
    refine ol_r (r_move rfl) rfl ?_
    refine ol_r (r_leq rfl rfl) rfl ?_
    refine ol_nil (to_k0 (fun _ _ h => h) (hK15 _ _ _ _ _ ?_))
    clear hK15
    first | refine wp_condD rfl (fun hc6 => ?_) (fun hc6 => ?_) | refine wp_condN rfl (fun hc6 => ?_) (fun hc6 => ?_) | refine wp_condNB rfl (fun hc6 => ?_) (fun hc6 => ?_) | refine wp_cond' rfl (fun hc6 => ?_) (fun hc6 => ?_)
    ·refine wp_skip' (to_k0 (fun _ _ h => h) (hK14 _ _ _ _ _ ?_))
     clear hK14
     refine wp_seq' fun K16 hK16 => ?_
     refine wp_block' ?_
     refine wp_reg ?_
     refine ol_r (r_move rfl) rfl ?_
     refine ol_r (r_lda (id := 1) (n := 6) rfl rfl rfl ag51) rfl ?_
     refine ol_r (r_move rfl) rfl ?_
     refine ol_call rfl rfl cb81 rfl (fun w1 hb1 hs1 hB1 => Calls.mono (effort_stream A _ _ (hA.at hb1 hB1) hok (by omega)) ?_)
     rintro e w2 ⟨a3012, n3012, c3012, rfl, hf3012⟩
     refine After.fresh (id := 3012) rfl hb1 hs1 hB1 hf3012 ?_
     have hl3012 := hf3012.len; clear hf3012 hB1 hs1 hb1 w2 w1
     refine ol_r (r_ixa (o' := 3) rfl rfl ar114 (by decide) rfl) rfl ?_
     refine ol_store (id := 3) rfl rfl rfl rfl sz22 rfl rfl (by first | decide | exact Nat.zero_lt_succ _ | simp) ?_
     refine ol_nil (to_k0 (fun _ _ h => h) (hK16 _ _ _ _ _ ?_))
     clear hK16
     refine wp_reg ?_
     refine ol_r (r_move rfl) rfl ?_
     refine ol_r (r_add rfl rfl (by omega)) rfl ?_
     refine ol_r (r_assign rfl) rfl ?_
     refine ol_nil (to_k0 (fun _ _ h => h) (hK13 _ _ ?_))
     clear hK13
     refine kp_unroll fun K17 hK17 => ?_
     refine wp_seq' fun K18 hK18 => ?_
     refine wp_seq' fun K19 hK19 => ?_
     refine wp_reg ?_
     refine ol_r (r_move rfl) rfl ?_
     refine ol_r (r_leq rfl rfl) rfl ?_
     refine ol_nil (to_k0 (fun _ _ h => h) (hK19 _ _ _ _ _ ?_))
     clear hK19
     first | refine wp_condD rfl (fun hc6 => ?_) (fun hc6 => ?_) | refine wp_condN rfl (fun hc6 => ?_) (fun hc6 => ?_) | refine wp_condNB rfl (fun hc6 => ?_) (fun hc6 => ?_) | refine wp_cond' rfl (fun hc6 => ?_) (fun hc6 => ?_)
     ·refine wp_skip' (to_k0 (fun _ _ h => h) (hK18 _ _ _ _ _ ?_))
      clear hK18
      refine wp_seq' fun K20 hK20 => ?_
      refine wp_block' ?_
      refine wp_reg ?_
      refine ol_r (r_move rfl) rfl ?_
      refine ol_r (r_lda (id := 1) (n := 6) rfl rfl rfl ag51) rfl ?_
      refine ol_r (r_move rfl) rfl ?_
      refine ol_call rfl rfl cb81 rfl (fun w1 hb1 hs1 hB1 => Calls.mono (effort_stream A _ _ (hA.at hb1 hB1) hok (by omega)) ?_)
      rintro e w2 ⟨a4012, n4012, c4012, rfl, hf4012⟩
      refine After.fresh (id := 4012) rfl hb1 hs1 hB1 hf4012 ?_
      have hl4012 := hf4012.len; clear hf4012 hB1 hs1 hb1 w2 w1
      refine ol_r (r_ixa (o' := 4) rfl rfl ar114 (by decide) rfl) rfl ?_
      refine ol_store (id := 3) rfl rfl rfl rfl sz22 rfl rfl (by first | decide | exact Nat.zero_lt_succ _ | simp) ?_
      refine ol_nil (to_k0 (fun _ _ h => h) (hK20 _ _ _ _ _ ?_))
      clear hK20
      refine wp_reg ?_
      refine ol_r (r_move rfl) rfl ?_
      refine ol_r (r_add rfl rfl (by omega)) rfl ?_
      refine ol_r (r_assign rfl) rfl ?_
      refine ol_nil (to_k0 (fun _ _ h => h) (hK17 _ _ ?_))
      clear hK17
      refine kp_unroll fun K21 hK21 => ?_
      refine wp_seq' fun K22 hK22 => ?_
      refine wp_seq' fun K23 hK23 => ?_
      refine wp_reg ?_
      refine ol_r (r_move rfl) rfl ?_
      refine ol_r (r_leq rfl rfl) rfl ?_
      refine ol_nil (to_k0 (fun _ _ h => h) (hK23 _ _ _ _ _ ?_))
      clear hK23
      first | refine wp_condD rfl (fun hc6 => ?_) (fun hc6 => ?_) | refine wp_condN rfl (fun hc6 => ?_) (fun hc6 => ?_) | refine wp_condNB rfl (fun hc6 => ?_) (fun hc6 => ?_) | refine wp_cond' rfl (fun hc6 => ?_) (fun hc6 => ?_)
      ·refine wp_skip' (to_k0 (fun _ _ h => h) (hK22 _ _ _ _ _ ?_))
       clear hK22
       refine wp_seq' fun K24 hK24 => ?_
       refine wp_block' ?_
       refine wp_reg ?_
       refine ol_r (r_move rfl) rfl ?_
       refine ol_r (r_lda (id := 1) (n := 6) rfl rfl rfl ag51) rfl ?_
       refine ol_r (r_move rfl) rfl ?_
       refine ol_call rfl rfl cb81 rfl (fun w1 hb1 hs1 hB1 => Calls.mono (effort_stream A _ _ (hA.at hb1 hB1) hok (by omega)) ?_)
       rintro e w2 ⟨a5012, n5012, c5012, rfl, hf5012⟩
       refine After.fresh (id := 5012) rfl hb1 hs1 hB1 hf5012 ?_
       have hl5012 := hf5012.len; clear hf5012 hB1 hs1 hb1 w2 w1
       refine ol_r (r_ixa (o' := 5) rfl rfl ar114 (by decide) rfl) rfl ?_
       refine ol_store (id := 3) rfl rfl rfl rfl sz22 rfl rfl (by first | decide | exact Nat.zero_lt_succ _ | simp) ?_
       refine ol_nil (to_k0 (fun _ _ h => h) (hK24 _ _ _ _ _ ?_))
       clear hK24
       refine wp_reg ?_
       refine ol_r (r_move rfl) rfl ?_
       refine ol_r (r_add rfl rfl (by omega)) rfl ?_
       refine ol_r (r_assign rfl) rfl ?_
       refine ol_nil (to_k0 (fun _ _ h => h) (hK21 _ _ ?_))
       clear hK21
       refine kp_unroll fun K25 hK25 => ?_
       refine wp_seq' fun K26 hK26 => ?_
       refine wp_seq' fun K27 hK27 => ?_
       refine wp_reg ?_
       refine ol_r (r_move rfl) rfl ?_
       refine ol_r (r_leq rfl rfl) rfl ?_
       refine ol_nil (to_k0 (fun _ _ h => h) (hK27 _ _ _ _ _ ?_))
       clear hK27
       first | refine wp_condD rfl (fun hc6 => ?_) (fun hc6 => ?_) | refine wp_condN rfl (fun hc6 => ?_) (fun hc6 => ?_) | refine wp_condNB rfl (fun hc6 => ?_) (fun hc6 => ?_) | refine wp_cond' rfl (fun hc6 => ?_) (fun hc6 => ?_)
       ·exfalso
        omega
       ·refine wp_exit' (to_k0 (fun _ _ h => h) (hK3 _ _ _ _ _ ?_))
        clear hK3
        refine wp_seq' fun K28 hK28 => ?_
        refine wp_reg ?_
        refine ol_r (r_lda (id := 3) (n := 6) rfl rfl rfl ag114) rfl ?_
        refine ol_store (id := 2) rfl rfl rfl rfl sz114 rfl rfl (by first | decide | exact Nat.zero_lt_succ _ | simp) ?_
        refine ol_nil (to_k0 (fun _ _ h => h) (hK28 _ _ _ _ _ ?_))
        clear hK28
        refine hQ.ret (rvs1 (rv_c (id := 2) (n := 6) rfl rfl ag114 rfl)) (fun _ _ h => h) fun w hb hs hB hkd => ?_
        exact ⟨_, _, _, _, _, _, _, _, _, _, _, _, _, _, _, rfl, hb, hs.keys [(1012, 2001), (2012, 2002), (3012, 2003), (4012, 2004), (5012, 2005)] (keyed_cons (i := 1012) rfl (keyed_cons (i := 2012) rfl (keyed_cons (i := 3012) rfl (keyed_cons (i := 4012) rfl (keyed_cons (i := 5012) rfl keyed_nil))))) (by decide)⟩
      ·exfalso
       omega
     ·exfalso
      omega
    ·exfalso
     omega
   ·exfalso
    omega
  ·exfalso
   omega
theorem ref4_streams (A : ActV) (w : World) (hA : A.Ok w.heap.size w) (h0 : chkA A.d = 0) :
    Calls Try.prog 89 #[.agg #[.string A.name, .int .i64 A.sport, .int .i64 A.start, .slice A.sa A.sn A.sc, .slice A.la A.ln A.lc, .slice A.ta A.tn A.tc]] w fun e w' => ∃ a1 n1 c1 a2 n2 c2 a3 n3 c3 a4 n4 c4 a5 n5 c5, e = .returned (.agg #[.slice none 0 0, .slice a1 n1 c1, .slice a2 n2 c2, .slice a3 n3 c3, .slice a4 n4 c4, .slice a5 n5 c5]) ∧ Below w.heap.size w w' ∧ Sat w.heap.size w' [(2001, .row a1 n1 c1 (encI.enc (strmL 1 A.ss (A.ss.length - 1))) 3 1), (2002, .row a2 n2 c2 (encI.enc (strmL 2 A.ss (A.ss.length - 1))) 3 1), (2003, .row a3 n3 c3 (encI.enc (strmL 3 A.ss (A.ss.length - 1))) 3 1), (2004, .row a4 n4 c4 (encI.enc (strmL 4 A.ss (A.ss.length - 1))) 3 1), (2005, .row a5 n5 c5 (encI.enc (strmL 5 A.ss (A.ss.length - 1))) 3 1)] := by
  refine enterQ (N := 18) (C := fun _ => True) (H := []) (B := w.heap.size) (args := [_]) Try.func89 rfl rfl rfl (Nat.le_refl _) (Sat.nil _ _) fun Q hQ => ?_
  refine wp_seq' fun K1 hK1 => ?_
  refine wp_reg ?_
  refine ol_box 1 rfl rfl rfl fun b1 => ?_
  refine ol_alloc 2 z114 rfl fun b2 => ?_
  refine ol_nil (to_k0 (fun _ _ h => h) (hK1 _ _ _ _ _ ?_))
  clear hK1
  refine wp_seq' fun K2 hK2 => ?_
  refine wp_reg ?_
  refine ol_alloc 3 z114 rfl fun b3 => ?_
  refine ol_nil (to_k0 (fun _ _ h => h) (hK2 _ _ _ _ _ ?_))
  clear hK2
  refine wp_seq' fun K3 hK3 => ?_
  refine wp_seq' fun K4 hK4 => ?_
  refine wp_reg ?_
  refine ol_r (r_assign rfl) rfl ?_
  refine ol_nil (to_k0 (fun _ _ h => h) (hK4 _ _ _ _ _ ?_))
  clear hK4
  refine wp_block' ?_
  refine wp_unroll 6 ?_
  refine kp_unroll fun K5 hK5 => ?_
  refine wp_seq' fun K6 hK6 => ?_
  refine wp_seq' fun K7 hK7 => ?_
  refine wp_reg ?_
  refine ol_r (r_move rfl) rfl ?_
  refine ol_r (r_leq rfl rfl) rfl ?_
  refine ol_nil (to_k0 (fun _ _ h => h) (hK7 _ _ _ _ _ ?_))
  clear hK7
  first | refine wp_condD rfl (fun hc6 => ?_) (fun hc6 => ?_) | refine wp_condN rfl (fun hc6 => ?_) (fun hc6 => ?_) | refine wp_condNB rfl (fun hc6 => ?_) (fun hc6 => ?_) | refine wp_cond' rfl (fun hc6 => ?_) (fun hc6 => ?_)
  ·refine wp_skip' (to_k0 (fun _ _ h => h) (hK6 _ _ _ _ _ ?_))
   clear hK6
   refine wp_seq' fun K8 hK8 => ?_
   refine wp_block' ?_
   refine wp_reg ?_
   refine ol_r (r_move rfl) rfl ?_
   refine ol_r (r_lda (id := 1) (n := 6) rfl rfl rfl ag51) rfl ?_
   refine ol_r (r_move rfl) rfl ?_
   refine ol_call rfl rfl cb37 rfl (fun w1 hb1 hs1 hB1 => Calls.mono (ref4_Stream A _ _ (hA.at hb1 hB1)) ?_)
   rintro e w2 ⟨a1013, n1013, c1013, rfl, hf1013⟩
   refine After.fresh (id := 1013) rfl hb1 hs1 hB1 hf1013 ?_
   have hl1013 := hf1013.len; clear hf1013 hB1 hs1 hb1 w2 w1
   refine ol_r (r_move rfl) rfl ?_
   refine ol_r (r_extract rfl rfl) rfl ?_
   refine ol_r (r_extract rfl rfl) rfl ?_
   refine ol_r (r_ixa (o' := 1) rfl rfl ar114 (by decide) rfl) rfl ?_
   refine ol_store (id := 3) rfl rfl rfl rfl sz22 rfl rfl (by first | decide | exact Nat.zero_lt_succ _ | simp) ?_
   refine ol_nil (to_k0 (fun _ _ h => h) (hK8 _ _ _ _ _ ?_))
   clear hK8
   refine wp_reg ?_
   refine ol_r (r_move rfl) rfl ?_
   refine ol_r (r_add rfl rfl (by omega)) rfl ?_
   refine ol_r (r_assign rfl) rfl ?_
   refine ol_nil (to_k0 (fun _ _ h => h) (hK5 _ _ ?_))
   clear hK5
   refine kp_unroll fun K9 hK9 => ?_
   refine wp_seq' fun K10 hK10 => ?_
   refine wp_seq' fun K11 hK11 => ?_
   refine wp_reg ?_
   refine ol_r (r_move rfl) rfl ?_
   refine ol_r (r_leq rfl rfl) rfl ?_
   refine ol_nil (to_k0 (fun _ _ h => h) (hK11 _ _ _ _ _ ?_))
   clear hK11
   first | refine wp_condD rfl (fun hc6 => ?_) (fun hc6 => ?_) | refine wp_condN rfl (fun hc6 => ?_) (fun hc6 => ?_) | refine wp_condNB rfl (fun hc6 => ?_) (fun hc6 => ?_) | refine wp_cond' rfl (fun hc6 => ?_) (fun hc6 => ?_)
   ·refine wp_skip' (to_k0 (fun _ _ h => h) (hK10 _ _ _ _ _ ?_))
    clear hK10
    refine wp_seq' fun K12 hK12 => ?_
    refine wp_block' ?_
    refine wp_reg ?_
    refine ol_r (r_move rfl) rfl ?_
    refine ol_r (r_lda (id := 1) (n := 6) rfl rfl rfl ag51) rfl ?_
    refine ol_r (r_move rfl) rfl ?_
    refine ol_call rfl rfl cb37 rfl (fun w1 hb1 hs1 hB1 => Calls.mono (ref4_Stream A _ _ (hA.at hb1 hB1)) ?_)
    rintro e w2 ⟨a2013, n2013, c2013, rfl, hf2013⟩
    refine After.fresh (id := 2013) rfl hb1 hs1 hB1 hf2013 ?_
    have hl2013 := hf2013.len; clear hf2013 hB1 hs1 hb1 w2 w1
    refine ol_r (r_move rfl) rfl ?_
    refine ol_r (r_extract rfl rfl) rfl ?_
    refine ol_r (r_extract rfl rfl) rfl ?_
    refine ol_r (r_ixa (o' := 2) rfl rfl ar114 (by decide) rfl) rfl ?_
    refine ol_store (id := 3) rfl rfl rfl rfl sz22 rfl rfl (by first | decide | exact Nat.zero_lt_succ _ | simp) ?_
    refine ol_nil (to_k0 (fun _ _ h => h) (hK12 _ _ _ _ _ ?_))
    clear hK12
    refine wp_reg ?_
    refine ol_r (r_move rfl) rfl ?_
    refine ol_r (r_add rfl rfl (by omega)) rfl ?_
    refine ol_r (r_assign rfl) rfl ?_
    refine ol_nil (to_k0 (fun _ _ h => h) (hK9 _ _ ?_))
    clear hK9
    refine kp_unroll fun K13 hK13 => ?_
    refine wp_seq' fun K14 hK14 => ?_
    refine wp_seq' fun K15 hK15 => ?_
    refine wp_reg ?_
    refine ol_r (r_move rfl) rfl ?_
    refine ol_r (r_leq rfl rfl) rfl ?_
    refine ol_nil (to_k0 (fun _ _ h => h) (hK15 _ _ _ _ _ ?_))
    clear hK15
    first | refine wp_condD rfl (fun hc6 => ?_) (fun hc6 => ?_) | refine wp_condN rfl (fun hc6 => ?_) (fun hc6 => ?_) | refine wp_condNB rfl (fun hc6 => ?_) (fun hc6 => ?_) | refine wp_cond' rfl (fun hc6 => ?_) (fun hc6 => ?_)
    ·refine wp_skip' (to_k0 (fun _ _ h => h) (hK14 _ _ _ _ _ ?_))
     clear hK14
     refine wp_seq' fun K16 hK16 => ?_
     refine wp_block' ?_
     refine wp_reg ?_
     refine ol_r (r_move rfl) rfl ?_
     refine ol_r (r_lda (id := 1) (n := 6) rfl rfl rfl ag51) rfl ?_
     refine ol_r (r_move rfl) rfl ?_
     refine ol_call rfl rfl cb37 rfl (fun w1 hb1 hs1 hB1 => Calls.mono (ref4_Stream A _ _ (hA.at hb1 hB1)) ?_)
     rintro e w2 ⟨a3013, n3013, c3013, rfl, hf3013⟩
     refine After.fresh (id := 3013) rfl hb1 hs1 hB1 hf3013 ?_
     have hl3013 := hf3013.len; clear hf3013 hB1 hs1 hb1 w2 w1
     refine ol_r (r_move rfl) rfl ?_
     refine ol_r (r_extract rfl rfl) rfl ?_
     refine ol_r (r_extract rfl rfl) rfl ?_
     refine ol_r (r_ixa (o' := 3) rfl rfl ar114 (by decide) rfl) rfl ?_
     refine ol_store (id := 3) rfl rfl rfl rfl sz22 rfl rfl (by first | decide | exact Nat.zero_lt_succ _ | simp) ?_
     refine ol_nil (to_k0 (fun _ _ h => h) (hK16 _ _ _ _ _ ?_))
     clear hK16
     refine wp_reg ?_
     refine ol_r (r_move rfl) rfl ?_
     refine ol_r (r_add rfl rfl (by omega)) rfl ?_
     refine ol_r (r_assign rfl) rfl ?_
     refine ol_nil (to_k0 (fun _ _ h => h) (hK13 _ _ ?_))
     clear hK13
     refine kp_unroll fun K17 hK17 => ?_
     refine wp_seq' fun K18 hK18 => ?_
     refine wp_seq' fun K19 hK19 => ?_
     refine wp_reg ?_
     refine ol_r (r_move rfl) rfl ?_
     refine ol_r (r_leq rfl rfl) rfl ?_
     refine ol_nil (to_k0 (fun _ _ h => h) (hK19 _ _ _ _ _ ?_))
     clear hK19
     first | refine wp_condD rfl (fun hc6 => ?_) (fun hc6 => ?_) | refine wp_condN rfl (fun hc6 => ?_) (fun hc6 => ?_) | refine wp_condNB rfl (fun hc6 => ?_) (fun hc6 => ?_) | refine wp_cond' rfl (fun hc6 => ?_) (fun hc6 => ?_)
     ·refine wp_skip' (to_k0 (fun _ _ h => h) (hK18 _ _ _ _ _ ?_))
      clear hK18
      refine wp_seq' fun K20 hK20 => ?_
      refine wp_block' ?_
      refine wp_reg ?_
      refine ol_r (r_move rfl) rfl ?_
      refine ol_r (r_lda (id := 1) (n := 6) rfl rfl rfl ag51) rfl ?_
      refine ol_r (r_move rfl) rfl ?_
      refine ol_call rfl rfl cb37 rfl (fun w1 hb1 hs1 hB1 => Calls.mono (ref4_Stream A _ _ (hA.at hb1 hB1)) ?_)
      rintro e w2 ⟨a4013, n4013, c4013, rfl, hf4013⟩
      refine After.fresh (id := 4013) rfl hb1 hs1 hB1 hf4013 ?_
      have hl4013 := hf4013.len; clear hf4013 hB1 hs1 hb1 w2 w1
      refine ol_r (r_move rfl) rfl ?_
      refine ol_r (r_extract rfl rfl) rfl ?_
      refine ol_r (r_extract rfl rfl) rfl ?_
      refine ol_r (r_ixa (o' := 4) rfl rfl ar114 (by decide) rfl) rfl ?_
      refine ol_store (id := 3) rfl rfl rfl rfl sz22 rfl rfl (by first | decide | exact Nat.zero_lt_succ _ | simp) ?_
      refine ol_nil (to_k0 (fun _ _ h => h) (hK20 _ _ _ _ _ ?_))
      clear hK20
      refine wp_reg ?_
      refine ol_r (r_move rfl) rfl ?_
      refine ol_r (r_add rfl rfl (by omega)) rfl ?_
      refine ol_r (r_assign rfl) rfl ?_
      refine ol_nil (to_k0 (fun _ _ h => h) (hK17 _ _ ?_))
      clear hK17
      refine kp_unroll fun K21 hK21 => ?_
      refine wp_seq' fun K22 hK22 => ?_
      refine wp_seq' fun K23 hK23 => ?_
      refine wp_reg ?_
      refine ol_r (r_move rfl) rfl ?_
      refine ol_r (r_leq rfl rfl) rfl ?_
      refine ol_nil (to_k0 (fun _ _ h => h) (hK23 _ _ _ _ _ ?_))
      clear hK23
      first | refine wp_condD rfl (fun hc6 => ?_) (fun hc6 => ?_) | refine wp_condN rfl (fun hc6 => ?_) (fun hc6 => ?_) | refine wp_condNB rfl (fun hc6 => ?_) (fun hc6 => ?_) | refine wp_cond' rfl (fun hc6 => ?_) (fun hc6 => ?_)
      ·refine wp_skip' (to_k0 (fun _ _ h => h) (hK22 _ _ _ _ _ ?_))
       clear hK22
       refine wp_seq' fun K24 hK24 => ?_
       refine wp_block' ?_
       refine wp_reg ?_
       refine ol_r (r_move rfl) rfl ?_
       refine ol_r (r_lda (id := 1) (n := 6) rfl rfl rfl ag51) rfl ?_
       refine ol_r (r_move rfl) rfl ?_
       refine ol_call rfl rfl cb37 rfl (fun w1 hb1 hs1 hB1 => Calls.mono (ref4_Stream A _ _ (hA.at hb1 hB1)) ?_)
       rintro e w2 ⟨a5013, n5013, c5013, rfl, hf5013⟩
       refine After.fresh (id := 5013) rfl hb1 hs1 hB1 hf5013 ?_
       have hl5013 := hf5013.len; clear hf5013 hB1 hs1 hb1 w2 w1
       refine ol_r (r_move rfl) rfl ?_
       refine ol_r (r_extract rfl rfl) rfl ?_
       refine ol_r (r_extract rfl rfl) rfl ?_
       refine ol_r (r_ixa (o' := 5) rfl rfl ar114 (by decide) rfl) rfl ?_
       refine ol_store (id := 3) rfl rfl rfl rfl sz22 rfl rfl (by first | decide | exact Nat.zero_lt_succ _ | simp) ?_
       refine ol_nil (to_k0 (fun _ _ h => h) (hK24 _ _ _ _ _ ?_))
       clear hK24
       refine wp_reg ?_
       refine ol_r (r_move rfl) rfl ?_
       refine ol_r (r_add rfl rfl (by omega)) rfl ?_
       refine ol_r (r_assign rfl) rfl ?_
       refine ol_nil (to_k0 (fun _ _ h => h) (hK21 _ _ ?_))
       clear hK21
       refine kp_unroll fun K25 hK25 => ?_
       refine wp_seq' fun K26 hK26 => ?_
       refine wp_seq' fun K27 hK27 => ?_
       refine wp_reg ?_
       refine ol_r (r_move rfl) rfl ?_
       refine ol_r (r_leq rfl rfl) rfl ?_
       refine ol_nil (to_k0 (fun _ _ h => h) (hK27 _ _ _ _ _ ?_))
       clear hK27
       first | refine wp_condD rfl (fun hc6 => ?_) (fun hc6 => ?_) | refine wp_condN rfl (fun hc6 => ?_) (fun hc6 => ?_) | refine wp_condNB rfl (fun hc6 => ?_) (fun hc6 => ?_) | refine wp_cond' rfl (fun hc6 => ?_) (fun hc6 => ?_)
       ·exfalso
        omega
       ·refine wp_exit' (to_k0 (fun _ _ h => h) (hK3 _ _ _ _ _ ?_))
        clear hK3
        refine wp_seq' fun K28 hK28 => ?_
        refine wp_reg ?_
        refine ol_r (r_lda (id := 3) (n := 6) rfl rfl rfl ag114) rfl ?_
        refine ol_store (id := 2) rfl rfl rfl rfl sz114 rfl rfl (by first | decide | exact Nat.zero_lt_succ _ | simp) ?_
        refine ol_nil (to_k0 (fun _ _ h => h) (hK28 _ _ _ _ _ ?_))
        clear hK28
        refine hQ.ret (rvs1 (rv_c (id := 2) (n := 6) rfl rfl ag114 rfl)) (fun _ _ h => h) fun w hb hs hB hkd => ?_
        have e1 := streamsR_0 (k := 1) h0 (by omega)
        have e2 := streamsR_0 (k := 1 + 1) h0 (by omega)
        have e3 := streamsR_0 (k := 1 + 1 + 1) h0 (by omega)
        have e4 := streamsR_0 (k := 1 + 1 + 1 + 1) h0 (by omega)
        have e5 := streamsR_0 (k := 1 + 1 + 1 + 1 + 1) h0 (by omega)
        rw [e1, e2, e3, e4, e5] at hs
        exact ⟨_, _, _, _, _, _, _, _, _, _, _, _, _, _, _, rfl, hb, hs.keys [(1013, 2001), (2013, 2002), (3013, 2003), (4013, 2004), (5013, 2005)] (keyed_cons (i := 1013) rfl (keyed_cons (i := 2013) rfl (keyed_cons (i := 3013) rfl (keyed_cons (i := 4013) rfl (keyed_cons (i := 5013) rfl keyed_nil))))) (by decide)⟩
      ·exfalso
       omega
     ·exfalso
      omega
    ·exfalso
     omega
   ·exfalso
    omega
  ·exfalso
   omega
end Go.Proofs.Ytafkojlccknicaa
