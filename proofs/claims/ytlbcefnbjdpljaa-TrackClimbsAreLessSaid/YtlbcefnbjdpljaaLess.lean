/-
  TrackClimbsAreLess: the walk of the law.
-/
import Derived.Test.YtlbcefnbjdpljaaLessM
import Derived.Test.YtlbcefnbjdpljaaHill
namespace Go.Proofs.Ytlbcefnbjdpljaa
open Go Go.RowKit Hx
set_option linter.unusedVariables false
set_option linter.unusedSimpArgs false
set_option maxRecDepth 8000
theorem law_less (A : ActV) (lo hi : Int) (la : Option Addr) (ln lc : Nat) (xs : List Int) (w : World) (hA : A.Ok w.heap.size w) (hl : Rd encI w.heap.size w la ln lc xs) :
    Calls Try.prog 4 #[.agg #[.string A.name, .int .i64 A.sport, .int .i64 A.start, .slice A.sa A.sn A.sc, .slice A.la A.ln A.lc, .slice A.ta A.tn A.tc], .int .i64 lo, .int .i64 hi, .slice la ln lc] w fun e w' => e = .returned (.bool true) ∧ Below w.heap.size w w' := by
  have hsn := hA.s.len
  have hsf := hA.s.fit
  have hln := hl.len
  have hlf := hl.fit
  refine enterQ (N := 195) (C := fun _ => True) (H := []) (B := w.heap.size) (args := [_, _, _, _]) Try.func4 rfl rfl rfl (Nat.le_refl _) (Sat.nil _ _) fun Q hQ => ?_
  refine wp_seq' fun K1 hK1 => ?_
  refine wp_reg ?_
  refine ol_box 4 rfl rfl rfl fun b4 => ?_
  refine ol_r (r_assign rfl) rfl ?_
  refine ol_nil (to_k0 (fun _ _ h => h) (hK1 _ _ _ _ _ ?_))
  clear hK1
  refine wp_seq' fun K2 hK2 => ?_
  refine wp_reg ?_
  refine ol_r (r_lda (id := 4) (n := 6) rfl rfl rfl ag26) rfl ?_
  refine ol_r (r_move rfl) rfl ?_
  refine ol_call rfl rfl cb12 rfl (fun w1 hb1 hs1 hB1 => Calls.mono (track_Climb A lo _ (hA.at hb1 hB1)) ?_)
  rintro e w2 ⟨rfl, hb2⟩
  refine After.below rfl hb1 hs1 hB1 hb2 ?_
  clear hb2 hB1 hs1 hb1 w2 w1
  refine ol_r (r_move rfl) rfl ?_
  refine ol_r (r_extract rfl rfl) rfl ?_
  refine ol_r (r_extract rfl rfl) rfl ?_
  refine ol_alloc 9 z28 rfl fun b9 => ?_
  refine ol_store (id := 9) rfl rfl rfl rfl sz28 rfl rfl (by first | decide | exact Nat.zero_lt_succ _ | simp) ?_
  refine ol_r (r_assign rfl) rfl ?_
  refine ol_nil (to_k0 (fun _ _ h => h) (hK2 _ _ _ _ _ ?_))
  clear hK2
  refine wp_seq' fun K3 hK3 => ?_
  refine wp_reg ?_
  refine ol_r (r_lda (id := 4) (n := 6) rfl rfl rfl ag26) rfl ?_
  refine ol_r (r_move rfl) rfl ?_
  refine ol_call rfl rfl cb12 rfl (fun w1 hb1 hs1 hB1 => Calls.mono (track_Climb A hi _ (hA.at hb1 hB1)) ?_)
  rintro e w2 ⟨rfl, hb2⟩
  refine After.below rfl hb1 hs1 hB1 hb2 ?_
  clear hb2 hB1 hs1 hb1 w2 w1
  refine ol_r (r_move rfl) rfl ?_
  refine ol_r (r_extract rfl rfl) rfl ?_
  refine ol_r (r_extract rfl rfl) rfl ?_
  refine ol_alloc 11 z28 rfl fun b11 => ?_
  refine ol_store (id := 11) rfl rfl rfl rfl sz28 rfl rfl (by first | decide | exact Nat.zero_lt_succ _ | simp) ?_
  refine ol_r (r_assign rfl) rfl ?_
  refine ol_nil (to_k0 (fun _ _ h => h) (hK3 _ _ _ _ _ ?_))
  clear hK3
  refine wp_seq' fun K4 hK4 => ?_
  refine wp_seq' fun K5 hK5 => ?_
  refine wp_reg ?_
  refine ol_r (r_move rfl) rfl ?_
  refine ol_r (r_neq rfl rfl) rfl ?_
  refine ol_r (r_move rfl) rfl ?_
  refine ol_split (d := 33) rfl (fun hs33 => ?_) (fun hs33 => ?_)
  · have phs33 := hs33; try simp only [decide_eq_true_eq, decide_eq_false_iff_not, Bool.not_eq_true', Bool.not_eq_false', Bool.not_true, Bool.not_false] at phs33
    refine ol_s rfl rfl hs33 rfl ?_
    refine ol_s rfl rfl hs33 rfl ?_
    refine ol_r (r_pickT rfl hs33 rfl) rfl ?_
    refine ol_r (r_move rfl) rfl ?_
    refine ol_s rfl rfl rfl rfl ?_
    refine ol_s rfl rfl rfl rfl ?_
    refine ol_s rfl rfl rfl rfl ?_
    refine ol_r (r_pickT rfl rfl rfl) rfl ?_
    refine ol_nil (to_k0 (fun _ _ h => h) (hK5 _ _ _ _ _ ?_))
    clear hK5
    refine wp_condT rfl ?_
    refine wp_seq' fun K6 hK6 => ?_
    refine wp_reg ?_
    refine ol_call rfl rfl cb14 rfl (fun w1 hb1 hs1 hB1 => Calls.mono (law3_told _) ?_)
    rintro e w2 ⟨rfl, hb2⟩
    refine After.below rfl hb1 hs1 hB1 hb2 ?_
    clear hb2 hB1 hs1 hb1 w2 w1
    refine ol_r (r_assign rfl) rfl ?_
    refine ol_nil (to_k0 (fun _ _ h => h) (hK6 _ _ _ _ _ ?_))
    clear hK6
    refine hQ.ret (rvs1 (rv_t rfl)) (fun _ _ h => h) fun w hb hs hB hkd => ?_
    first
      | exact ⟨rfl, hb⟩
      | (exfalso
         rw [hx0] at phs51
         exact absurd phs51 (by decide))
      | (exfalso; omega)
      | (exfalso
         have g1 : zAt A.ss (A.ss.length - 1) = x164.z := by refine zAt_eq ?_; rw [← hx164]; congr 1; omega
         have g2 : zAt A.ss (A.ss.length - 1) = x174.z := by refine zAt_eq ?_; rw [← hx174]; congr 1; omega
         have g3 := s7 _ _ _ hR hix
         have g4 : hi * (climbR A.d hi).1.2.2 = hi * c2 := by rw [y3]
         have g5 := absD_or (zAt A.ss (A.ss.length - 1)) (zAt A.ss ix)
         omega)
  · have phs33 := hs33; try simp only [decide_eq_true_eq, decide_eq_false_iff_not, Bool.not_eq_true', Bool.not_eq_false', Bool.not_true, Bool.not_false] at phs33
    refine ol_g rfl rfl hs33 ?_
    refine ol_r (r_move rfl) rfl ?_
    refine ol_g rfl rfl hs33 ?_
    refine ol_r (r_neq rfl rfl) rfl ?_
    refine ol_r (r_pickF rfl hs33 rfl) rfl ?_
    refine ol_r (r_move rfl) rfl ?_
    refine ol_split (d := 37) rfl (fun hs37 => ?_) (fun hs37 => ?_)
    · have phs37 := hs37; try simp only [decide_eq_true_eq, decide_eq_false_iff_not, Bool.not_eq_true', Bool.not_eq_false', Bool.not_true, Bool.not_false] at phs37
      refine ol_s rfl rfl hs37 rfl ?_
      refine ol_s rfl rfl hs37 rfl ?_
      refine ol_s rfl rfl hs37 rfl ?_
      refine ol_r (r_pickT rfl hs37 rfl) rfl ?_
      refine ol_nil (to_k0 (fun _ _ h => h) (hK5 _ _ _ _ _ ?_))
      clear hK5
      refine wp_condT rfl ?_
      refine wp_seq' fun K7 hK7 => ?_
      refine wp_reg ?_
      refine ol_call rfl rfl cb14 rfl (fun w1 hb1 hs1 hB1 => Calls.mono (law3_told _) ?_)
      rintro e w2 ⟨rfl, hb2⟩
      refine After.below rfl hb1 hs1 hB1 hb2 ?_
      clear hb2 hB1 hs1 hb1 w2 w1
      refine ol_r (r_assign rfl) rfl ?_
      refine ol_nil (to_k0 (fun _ _ h => h) (hK7 _ _ _ _ _ ?_))
      clear hK7
      refine hQ.ret (rvs1 (rv_t rfl)) (fun _ _ h => h) fun w hb hs hB hkd => ?_
      first
        | exact ⟨rfl, hb⟩
        | (exfalso
           rw [hx0] at phs51
           exact absurd phs51 (by decide))
        | (exfalso; omega)
        | (exfalso
           have g1 : zAt A.ss (A.ss.length - 1) = x164.z := by refine zAt_eq ?_; rw [← hx164]; congr 1; omega
           have g2 : zAt A.ss (A.ss.length - 1) = x174.z := by refine zAt_eq ?_; rw [← hx174]; congr 1; omega
           have g3 := s7 _ _ _ hR hix
           have g4 : hi * (climbR A.d hi).1.2.2 = hi * c2 := by rw [y3]
           have g5 := absD_or (zAt A.ss (A.ss.length - 1)) (zAt A.ss ix)
           omega)
    · have phs37 := hs37; try simp only [decide_eq_true_eq, decide_eq_false_iff_not, Bool.not_eq_true', Bool.not_eq_false', Bool.not_true, Bool.not_false] at phs37
      refine ol_g rfl rfl hs37 ?_
      refine ol_r (r_move rfl) rfl ?_
      refine ol_g rfl rfl hs37 ?_
      refine ol_r (r_move rfl) rfl ?_
      refine ol_g rfl rfl hs37 ?_
      refine ol_r (r_gtr rfl rfl) rfl ?_
      refine ol_r (r_pickF rfl hs37 rfl) rfl ?_
      refine ol_nil (to_k0 (fun _ _ h => h) (hK5 _ _ _ _ _ ?_))
      clear hK5
      first | refine wp_condD rfl (fun hc41 => ?_) (fun hc41 => ?_) | refine wp_condN rfl (fun hc41 => ?_) (fun hc41 => ?_) | refine wp_condNB rfl (fun hc41 => ?_) (fun hc41 => ?_) | refine wp_cond' rfl (fun hc41 => ?_) (fun hc41 => ?_)
      · refine wp_seq' fun K8 hK8 => ?_
        refine wp_reg ?_
        refine ol_call rfl rfl cb14 rfl (fun w1 hb1 hs1 hB1 => Calls.mono (law3_told _) ?_)
        rintro e w2 ⟨rfl, hb2⟩
        refine After.below rfl hb1 hs1 hB1 hb2 ?_
        clear hb2 hB1 hs1 hb1 w2 w1
        refine ol_r (r_assign rfl) rfl ?_
        refine ol_nil (to_k0 (fun _ _ h => h) (hK8 _ _ _ _ _ ?_))
        clear hK8
        refine hQ.ret (rvs1 (rv_t rfl)) (fun _ _ h => h) fun w hb hs hB hkd => ?_
        first
          | exact ⟨rfl, hb⟩
          | (exfalso
             rw [hx0] at phs51
             exact absurd phs51 (by decide))
          | (exfalso; omega)
          | (exfalso
             have g1 : zAt A.ss (A.ss.length - 1) = x164.z := by refine zAt_eq ?_; rw [← hx164]; congr 1; omega
             have g2 : zAt A.ss (A.ss.length - 1) = x174.z := by refine zAt_eq ?_; rw [← hx174]; congr 1; omega
             have g3 := s7 _ _ _ hR hix
             have g4 : hi * (climbR A.d hi).1.2.2 = hi * c2 := by rw [y3]
             have g5 := absD_or (zAt A.ss (A.ss.length - 1)) (zAt A.ss ix)
             omega)
      · refine wp_skip' (to_k0 (fun _ _ h => h) (hK4 _ _ _ _ _ ?_))
        clear hK4
        refine wp_seq' fun K9 hK9 => ?_
        refine wp_reg ?_
        obtain ⟨h0, hlo, hl0, hlz⟩ := climbR_inv (a := A.d) (th := lo) (by simpa using hs33)
        obtain ⟨_, hhi, hh0, hhz⟩ := climbR_inv (a := A.d) (th := hi) (by simpa using hs37)
        have hok : SmpOk A.start A.ss := (goodA h0).smp
        have hl20 := hok.len
        have hz : ∀ x ∈ A.ss, -100000 ≤ x.z ∧ x.z ≤ 100000 := fun x hx => hok.hgt hx
        refine ol_r (r_fa (o' := 3) rfl fl26_3 rfl) rfl ?_
        refine ol_r (r_ld (id := 4) rfl rfl rfl sc22) rfl ?_
        refine ol_r (r_len rfl sl22) rfl ?_
        refine ol_r (r_assign rfl) rfl ?_
        refine ol_nil (to_k0 (fun _ _ h => h) (hK9 _ _ _ _ _ ?_))
        clear hK9
        refine wp_seq' fun K10 hK10 => ?_
        refine wp_seq' fun K11 hK11 => ?_
        refine wp_reg ?_
        refine ol_r (r_move rfl) rfl ?_
        refine ol_r (r_lss rfl rfl) rfl ?_
        refine ol_nil (to_k0 (fun _ _ h => h) (hK11 _ _ _ _ _ ?_))
        clear hK11
        first | refine wp_condD rfl (fun hc47 => ?_) (fun hc47 => ?_) | refine wp_condN rfl (fun hc47 => ?_) (fun hc47 => ?_) | refine wp_condNB rfl (fun hc47 => ?_) (fun hc47 => ?_) | refine wp_cond' rfl (fun hc47 => ?_) (fun hc47 => ?_)
        · refine wp_seq' fun K12 hK12 => ?_
          refine wp_reg ?_
          have hx0 := hl0 (by show A.ss.length < 2; omega)
          refine ol_r (r_lda (id := 9) (n := 3) rfl rfl rfl ag28) rfl ?_
          refine ol_r (r_build rfl (fun _ => bd28 _)) rfl ?_
          refine ol_r (r_eqs rfl rfl (by kernel_rfl) (fun w => run_eqs (by kernel_rfl) (by kernel_rfl) w)) rfl ?_
          refine ol_r (r_move rfl) rfl ?_
          refine ol_split (d := 51) rfl (fun hs51 => ?_) (fun hs51 => ?_)
          · have phs51 := hs51; try simp only [decide_eq_true_eq, decide_eq_false_iff_not, Bool.not_eq_true', Bool.not_eq_false', Bool.not_true, Bool.not_false] at phs51
            refine ol_g rfl rfl hs51 ?_
            refine ol_call rfl rfl cb14 rfl (fun w1 hb1 hs1 hB1 => Calls.mono (law3_told _) ?_)
            rintro e w2 ⟨rfl, hb2⟩
            refine After.below rfl hb1 hs1 hB1 hb2 ?_
            clear hb2 hB1 hs1 hb1 w2 w1
            refine ol_r (r_pickT rfl hs51 rfl) rfl ?_
            refine ol_r (r_assign rfl) rfl ?_
            refine ol_nil (to_k0 (fun _ _ h => h) (hK12 _ _ _ _ _ ?_))
            clear hK12
            refine hQ.ret (rvs1 (rv_t rfl)) (fun _ _ h => h) fun w hb hs hB hkd => ?_
            first
              | exact ⟨rfl, hb⟩
              | (exfalso
                 rw [hx0] at phs51
                 exact absurd phs51 (by decide))
              | (exfalso; omega)
              | (exfalso
                 have g1 : zAt A.ss (A.ss.length - 1) = x164.z := by refine zAt_eq ?_; rw [← hx164]; congr 1; omega
                 have g2 : zAt A.ss (A.ss.length - 1) = x174.z := by refine zAt_eq ?_; rw [← hx174]; congr 1; omega
                 have g3 := s7 _ _ _ hR hix
                 have g4 : hi * (climbR A.d hi).1.2.2 = hi * c2 := by rw [y3]
                 have g5 := absD_or (zAt A.ss (A.ss.length - 1)) (zAt A.ss ix)
                 omega)
          · have phs51 := hs51; try simp only [decide_eq_true_eq, decide_eq_false_iff_not, Bool.not_eq_true', Bool.not_eq_false', Bool.not_true, Bool.not_false] at phs51
            refine ol_s rfl rfl hs51 rfl ?_
            refine ol_r (r_pickF rfl hs51 rfl) rfl ?_
            refine ol_r (r_assign rfl) rfl ?_
            refine ol_nil (to_k0 (fun _ _ h => h) (hK12 _ _ _ _ _ ?_))
            clear hK12
            refine hQ.ret (rvs1 (rv_t rfl)) (fun _ _ h => h) fun w hb hs hB hkd => ?_
            first
              | exact ⟨rfl, hb⟩
              | (exfalso
                 rw [hx0] at phs51
                 exact absurd phs51 (by decide))
              | (exfalso; omega)
              | (exfalso
                 have g1 : zAt A.ss (A.ss.length - 1) = x164.z := by refine zAt_eq ?_; rw [← hx164]; congr 1; omega
                 have g2 : zAt A.ss (A.ss.length - 1) = x174.z := by refine zAt_eq ?_; rw [← hx174]; congr 1; omega
                 have g3 := s7 _ _ _ hR hix
                 have g4 : hi * (climbR A.d hi).1.2.2 = hi * c2 := by rw [y3]
                 have g5 := absD_or (zAt A.ss (A.ss.length - 1)) (zAt A.ss ix)
                 omega)
        · refine wp_skip' (to_k0 (fun _ _ h => h) (hK10 _ _ _ _ _ ?_))
          clear hK10
          refine wp_seq' fun K13 hK13 => ?_
          refine wp_regq (by kernel_rfl) (by kernel_rfl) ?_
          refine ql_r (r_fa (o' := 3) rfl fl26_3 rfl) rfl ?_
          refine ql_r (r_ld (id := 4) rfl rfl rfl sc22) rfl ?_
          refine ql_r (r_move rfl) rfl ?_
          refine ql_r (r_sub rfl rfl (by omega)) rfl ?_
          refine ql_ixr hA.s rfl rfl sl22 (by omega) rfl fun x58 hx58 => ?_
          try simp only [Int.toNat_natCast] at hx58
          refine ql_r (r_faw rfl (ix_some hA.s (by omega)) fl36_3) rfl ?_
          refine ql_r (r_ldw rfl (fun w1 hb1 hs1 hB1 => Rd.loadsF (o := 3) hA.s sc3 hx58 hb1 rfl)) rfl ?_
          refine ql_r (r_fa (o' := 3) rfl fl26_3 rfl) rfl ?_
          refine ql_r (r_ld (id := 4) rfl rfl rfl sc22) rfl ?_
          refine ql_ixr hA.s rfl rfl sl22 (by omega) rfl fun x63 hx63 => ?_
          try simp only [Int.toNat_natCast] at hx63
          refine ql_r (r_faw rfl (ix_some hA.s (by omega)) fl36_3) rfl ?_
          refine ql_r (r_ldw rfl (fun w1 hb1 hs1 hB1 => Rd.loadsF (o := 3) hA.s sc3 hx63 hb1 rfl)) rfl ?_
          have w1 : zAt A.ss (A.ss.length - 1) = x58.z := by refine zAt_eq ?_; rw [← hx58]; congr 1; omega
          have w0 : zAt A.ss 0 = x63.z := zAt_eq hx63
          have z1 := hz _ (List.mem_of_getElem? hx58)
          have z2 := hz _ (List.mem_of_getElem? hx63)
          refine ql_r (r_sub rfl rfl (by omega)) rfl ?_
          refine ql_r (r_assign rfl) rfl ?_
          refine ql_nil (to_k0 (fun _ _ h => h) (hK13 _ _ _ _ _ ?_))
          clear hK13
          refine wp_seq' fun K14 hK14 => ?_
          refine wp_seq' fun K15 hK15 => ?_
          refine wp_reg ?_
          have hzl := hlz (by show ¬A.ss.length < 2; omega)
          have hzh := hhz (by show ¬A.ss.length < 2; omega)
          have hless := zig_less (ss := A.ss) (lo := lo) (hi := hi) (by omega) hlo.1 (by omega)
          obtain ⟨i1, v1, c1, q1, r1, r2, r3, r4, r5, r6, r7⟩ := zig_facts (ss := A.ss) (th := lo) (by omega)
          obtain ⟨i2, v2, c2, q2, s1, s2, s3, s4, s5, s6, s7⟩ := zig_facts (ss := A.ss) (th := hi) (by omega)
          rw [r6, s6] at hless
          have u1 : (climbR A.d lo).1.1 = zAt A.ss (A.ss.length - 1) - zAt A.ss 0 + q1 := by rw [hzl]; exact congrArg (·.1) r6
          have u2 : (climbR A.d lo).1.2.1 = q1 := by rw [hzl]; exact congrArg (·.2.1) r6
          have y1 : (climbR A.d hi).1.1 = zAt A.ss (A.ss.length - 1) - zAt A.ss 0 + q2 := by rw [hzh]; exact congrArg (·.1) s6
          have y2 : (climbR A.d hi).1.2.1 = q2 := by rw [hzh]; exact congrArg (·.2.1) s6
          have y3 : (climbR A.d hi).1.2.2 = c2 := by rw [hzh]; exact congrArg (·.2.2) s6
          have rb := r1.bd hz
          have sb := s1.bd hz
          have k1 := zAt_bd hz i1
          have k2 := zAt_bd hz i2
          have j1 := absD_or (zAt A.ss (A.ss.length - 1)) (zAt A.ss i1)
          have j2 := absD_or (zAt A.ss (A.ss.length - 1)) (zAt A.ss i2)
          dsimp only at hless
          refine ol_r (r_fa (o' := 0) rfl fl28_0 rfl) rfl ?_
          refine ol_r (r_ld (id := 11) rfl rfl rfl sc3) rfl ?_
          refine ol_r (r_fa (o' := 0) rfl fl28_0 rfl) rfl ?_
          refine ol_r (r_ld (id := 9) rfl rfl rfl sc3) rfl ?_
          refine ol_r (r_gtr rfl rfl) rfl ?_
          refine ol_r (r_move rfl) rfl ?_
          refine ol_split (d := 72) rfl (fun hs72 => ?_) (fun hs72 => ?_)
          · have phs72 := hs72; try simp only [decide_eq_true_eq, decide_eq_false_iff_not, Bool.not_eq_true', Bool.not_eq_false', Bool.not_true, Bool.not_false] at phs72
            exfalso
            omega
          · have phs72 := hs72; try simp only [decide_eq_true_eq, decide_eq_false_iff_not, Bool.not_eq_true', Bool.not_eq_false', Bool.not_true, Bool.not_false] at phs72
            refine ol_g rfl rfl hs72 ?_
            refine ol_r (r_fa (o' := 1) rfl fl28_1 rfl) rfl ?_
            refine ol_g rfl rfl hs72 ?_
            refine ol_r (r_ld (id := 11) rfl rfl rfl sc3) rfl ?_
            refine ol_g rfl rfl hs72 ?_
            refine ol_r (r_fa (o' := 1) rfl fl28_1 rfl) rfl ?_
            refine ol_g rfl rfl hs72 ?_
            refine ol_r (r_ld (id := 9) rfl rfl rfl sc3) rfl ?_
            refine ol_g rfl rfl hs72 ?_
            refine ol_r (r_gtr rfl rfl) rfl ?_
            refine ol_r (r_pickF rfl hs72 rfl) rfl ?_
            refine ol_r (r_move rfl) rfl ?_
            refine ol_split (d := 79) rfl (fun hs79 => ?_) (fun hs79 => ?_)
            · have phs79 := hs79; try simp only [decide_eq_true_eq, decide_eq_false_iff_not, Bool.not_eq_true', Bool.not_eq_false', Bool.not_true, Bool.not_false] at phs79
              exfalso
              omega
            · have phs79 := hs79; try simp only [decide_eq_true_eq, decide_eq_false_iff_not, Bool.not_eq_true', Bool.not_eq_false', Bool.not_true, Bool.not_false] at phs79
              refine ol_g rfl rfl hs79 ?_
              refine ol_r (r_fa (o' := 0) rfl fl28_0 rfl) rfl ?_
              refine ol_g rfl rfl hs79 ?_
              refine ol_r (r_ld (id := 9) rfl rfl rfl sc3) rfl ?_
              refine ol_g rfl rfl hs79 ?_
              refine ol_r (r_fa (o' := 1) rfl fl28_1 rfl) rfl ?_
              refine ol_g rfl rfl hs79 ?_
              refine ol_r (r_ld (id := 9) rfl rfl rfl sc3) rfl ?_
              refine ol_g rfl rfl hs79 ?_
              refine ol_r (r_sub rfl rfl (by omega)) rfl ?_
              refine ol_g rfl rfl hs79 ?_
              refine ol_r (r_move rfl) rfl ?_
              refine ol_g rfl rfl hs79 ?_
              refine ol_r (r_neq rfl rfl) rfl ?_
              refine ol_r (r_pickF rfl hs79 rfl) rfl ?_
              refine ol_r (r_move rfl) rfl ?_
              refine ol_split (d := 88) rfl (fun hs88 => ?_) (fun hs88 => ?_)
              · have phs88 := hs88; try simp only [decide_eq_true_eq, decide_eq_false_iff_not, Bool.not_eq_true', Bool.not_eq_false', Bool.not_true, Bool.not_false] at phs88
                exfalso
                omega
              · have phs88 := hs88; try simp only [decide_eq_true_eq, decide_eq_false_iff_not, Bool.not_eq_true', Bool.not_eq_false', Bool.not_true, Bool.not_false] at phs88
                refine ol_g rfl rfl hs88 ?_
                refine ol_r (r_fa (o' := 0) rfl fl28_0 rfl) rfl ?_
                refine ol_g rfl rfl hs88 ?_
                refine ol_r (r_ld (id := 11) rfl rfl rfl sc3) rfl ?_
                refine ol_g rfl rfl hs88 ?_
                refine ol_r (r_fa (o' := 1) rfl fl28_1 rfl) rfl ?_
                refine ol_g rfl rfl hs88 ?_
                refine ol_r (r_ld (id := 11) rfl rfl rfl sc3) rfl ?_
                refine ol_g rfl rfl hs88 ?_
                refine ol_r (r_sub rfl rfl (by omega)) rfl ?_
                refine ol_g rfl rfl hs88 ?_
                refine ol_r (r_move rfl) rfl ?_
                refine ol_g rfl rfl hs88 ?_
                refine ol_r (r_neq rfl rfl) rfl ?_
                refine ol_r (r_pickF rfl hs88 rfl) rfl ?_
                refine ol_nil (to_k0 (fun _ _ h => h) (hK15 _ _ _ _ _ ?_))
                clear hK15
                first | refine wp_condD rfl (fun hc96 => ?_) (fun hc96 => ?_) | refine wp_condN rfl (fun hc96 => ?_) (fun hc96 => ?_) | refine wp_condNB rfl (fun hc96 => ?_) (fun hc96 => ?_) | refine wp_cond' rfl (fun hc96 => ?_) (fun hc96 => ?_)
                · refine wp_seq' fun K16 hK16 => ?_
                  refine wp_reg ?_
                  refine ol_r (r_assign rfl) rfl ?_
                  refine ol_nil (to_k0 (fun _ _ h => h) (hK16 _ _ _ _ _ ?_))
                  clear hK16
                  refine hQ.ret (rvs1 (rv_t rfl)) (fun _ _ h => h) fun w hb hs hB hkd => ?_
                  first
                    | exact ⟨rfl, hb⟩
                    | (exfalso
                       rw [hx0] at phs51
                       exact absurd phs51 (by decide))
                    | (exfalso; omega)
                    | (exfalso
                       have g1 : zAt A.ss (A.ss.length - 1) = x164.z := by refine zAt_eq ?_; rw [← hx164]; congr 1; omega
                       have g2 : zAt A.ss (A.ss.length - 1) = x174.z := by refine zAt_eq ?_; rw [← hx174]; congr 1; omega
                       have g3 := s7 _ _ _ hR hix
                       have g4 : hi * (climbR A.d hi).1.2.2 = hi * c2 := by rw [y3]
                       have g5 := absD_or (zAt A.ss (A.ss.length - 1)) (zAt A.ss ix)
                       omega)
                · refine wp_skip' (to_k0 (fun _ _ h => h) (hK14 _ _ _ _ _ ?_))
                  clear hK14
                  refine wp_seq' fun K17 hK17 => ?_
                  refine wp_regq (by kernel_rfl) (by kernel_rfl) ?_
                  refine ql_r (r_fa (o' := 3) rfl fl26_3 rfl) rfl ?_
                  refine ql_r (r_ld (id := 4) rfl rfl rfl sc22) rfl ?_
                  refine ql_ixr hA.s rfl rfl sl22 (by omega) rfl fun x99 hx99 => ?_
                  try simp only [Int.toNat_natCast] at hx99
                  refine ql_r (r_faw rfl (ix_some hA.s (by omega)) fl36_3) rfl ?_
                  refine ql_r (r_ldw rfl (fun w1 hb1 hs1 hB1 => Rd.loadsF (o := 3) hA.s sc3 hx99 hb1 rfl)) rfl ?_
                  refine ql_r (r_assign rfl) rfl ?_
                  refine ql_r (r_assign rfl) rfl ?_
                  refine ql_nil (to_k0 (fun _ _ h => h) (hK17 _ _ _ _ _ ?_))
                  clear hK17
                  refine wp_seq' fun K18 hK18 => ?_
                  refine wp_seq' fun K19 hK19 => ?_
                  refine wp_reg ?_
                  refine ol_r (r_move rfl) rfl ?_
                  refine ol_r (r_len rfl sl34) rfl ?_
                  refine ol_r (r_move rfl) rfl ?_
                  refine ol_nil (to_k0 (fun _ _ h => h) (hK19 _ _ _ _ _ ?_))
                  clear hK19
                  refine wp_block' ?_
                  apply wp_loopM (σ := Nat × Int × Int) (fun s => s.1 ≤ xs.length ∧ ∃ ix v, Reach A.ss ix v s.1 ∧ (s.1 = 0 → ix = 0) ∧ (0 < s.1 → xs[s.1 - 1]? = some (ix : Int)) ∧ ix + 1 < A.ss.length ∧ s.2.1 = v - hi * s.1 ∧ s.2.2 = zAt A.ss ix) (fun s => [(104, .int .i64 s.1), (15, .int .i64 s.2.1), (16, .int .i64 s.2.2)]) [(2, _), (3, _), (4, _), (11, _), (13, _), (102, _), (103, _)] (fun s => []) [(4, _), (9, _), (11, _)] (fun s => xs.length - s.1) ((0, 0, x99.z))
                  · try dsimp only
                    exact ⟨Nat.zero_le _, 0, 0, .zero, fun _ => rfl, fun h => absurd h (by decide), by omega, by simp, (zAt_eq hx99).symm⟩
                  · exact (sub_cons rfl (sub_cons rfl (sub_cons rfl sub_nil)))
                  · exact (sub_cons rfl (sub_cons rfl (sub_cons rfl (sub_cons rfl (sub_cons rfl (sub_cons rfl (sub_cons rfl sub_nil)))))))
                  · exact subH_nil
                  · exact (subH_same rfl (subH_same rfl (subH_same rfl subH_nil)))
                  · rintro ⟨k, sm, ls⟩ ⟨hk, ix, v, hR, hk0, hk1, hix, hsm, hls⟩
                    dsimp only at hk hR hk0 hk1 hix hsm hls ⊢
                    have hRb := hR.bd hz
                    have hmul := mul_bd (a := hi) (b := (k : Int)) (A := 200000) (B := 20000) (by omega) (by omega) (by omega) (by omega)
                    have zb := zAt_bd hz ix
                    intro K20 hK20
                    refine wp_seq' fun K21 hK21 => ?_
                    refine wp_reg ?_
                    refine ol_r (r_lss rfl rfl) rfl ?_
                    refine ol_nil (to_k0 (fun _ _ h => h) (hK21 _ _ _ _ _ ?_))
                    clear hK21
                    refine wp_seq' fun K22 hK22 => ?_
                    first | refine wp_condD rfl (fun hc105 => ?_) (fun hc105 => ?_) | refine wp_condN rfl (fun hc105 => ?_) (fun hc105 => ?_) | refine wp_condNB rfl (fun hc105 => ?_) (fun hc105 => ?_) | refine wp_cond' rfl (fun hc105 => ?_) (fun hc105 => ?_)
                    · refine wp_skip' (to_k0 (fun _ _ h => h) (hK22 _ _ _ _ _ ?_))
                      clear hK22
                      refine wp_seq' fun K23 hK23 => ?_
                      refine wp_block' ?_
                      refine wp_seq' fun K24 hK24 => ?_
                      refine wp_reg ?_
                      refine ol_r (r_move rfl) rfl ?_
                      refine ol_ixr hl rfl rfl sl34 (by omega) rfl fun x107 hx107 => ?_
                      try simp only [Int.toNat_natCast] at hx107
                      refine ol_r (r_ldw rfl (fun w1 hb1 hs1 hB1 => show Loads _ _ _ _ (.int .i64 x107) from Rd.loads hl ty3 hx107 hb1)) rfl ?_
                      refine ol_r (r_assign rfl) rfl ?_
                      refine ol_r (r_assign rfl) rfl ?_
                      refine ol_nil (to_k0 (fun _ _ h => h) (hK24 _ _ _ _ _ ?_))
                      clear hK24
                      refine wp_seq' fun K25 hK25 => ?_
                      refine wp_seq' fun K26 hK26 => ?_
                      refine wp_reg ?_
                      refine ol_r (r_move rfl) rfl ?_
                      refine ol_r (r_lss rfl rfl) rfl ?_
                      refine ol_r (r_move rfl) rfl ?_
                      refine ol_split (d := 111) rfl (fun hs111 => ?_) (fun hs111 => ?_)
                      · have phs111 := hs111; try simp only [decide_eq_true_eq, decide_eq_false_iff_not, Bool.not_eq_true', Bool.not_eq_false', Bool.not_true, Bool.not_false] at phs111
                        refine ol_s rfl rfl hs111 rfl ?_
                        refine ol_s rfl rfl hs111 rfl ?_
                        refine ol_s rfl rfl hs111 rfl ?_
                        refine ol_s rfl rfl hs111 rfl ?_
                        refine ol_r (r_pickT rfl hs111 rfl) rfl ?_
                        refine ol_r (r_move rfl) rfl ?_
                        refine ol_s rfl rfl rfl rfl ?_
                        refine ol_s rfl rfl rfl rfl ?_
                        refine ol_s rfl rfl rfl rfl ?_
                        refine ol_u rfl rfl rfl ?_
                        refine ol_u rfl rfl rfl ?_
                        refine ol_u rfl rfl rfl ?_
                        refine ol_u rfl rfl rfl ?_
                        refine ol_u rfl rfl rfl ?_
                        refine ol_u rfl rfl rfl ?_
                        refine ol_u rfl rfl rfl ?_
                        refine ol_s rfl rfl rfl rfl ?_
                        refine ol_r (r_pickT rfl rfl rfl) rfl ?_
                        refine ol_nil (to_k0 (fun _ _ h => h) (hK26 _ _ _ _ _ ?_))
                        clear hK26
                        refine wp_condT rfl ?_
                        refine wp_seq' fun K27 hK27 => ?_
                        refine wp_reg ?_
                        refine ol_call rfl rfl cb14 rfl (fun w1 hb1 hs1 hB1 => Calls.mono (law3_told _) ?_)
                        rintro e w2 ⟨rfl, hb2⟩
                        refine After.below rfl hb1 hs1 hB1 hb2 ?_
                        clear hb2 hB1 hs1 hb1 w2 w1
                        refine ol_r (r_assign rfl) rfl ?_
                        refine ol_nil (to_k0 (fun _ _ h => h) (hK27 _ _ _ _ _ ?_))
                        clear hK27
                        refine hQ.ret (rvs1 (rv_t rfl)) (fun _ _ h => h) fun w hb hs hB hkd => ?_
                        first
                          | exact ⟨rfl, hb⟩
                          | (exfalso
                             rw [hx0] at phs51
                             exact absurd phs51 (by decide))
                          | (exfalso; omega)
                          | (exfalso
                             have g1 : zAt A.ss (A.ss.length - 1) = x164.z := by refine zAt_eq ?_; rw [← hx164]; congr 1; omega
                             have g2 : zAt A.ss (A.ss.length - 1) = x174.z := by refine zAt_eq ?_; rw [← hx174]; congr 1; omega
                             have g3 := s7 _ _ _ hR hix
                             have g4 : hi * (climbR A.d hi).1.2.2 = hi * c2 := by rw [y3]
                             have g5 := absD_or (zAt A.ss (A.ss.length - 1)) (zAt A.ss ix)
                             omega)
                      · have phs111 := hs111; try simp only [decide_eq_true_eq, decide_eq_false_iff_not, Bool.not_eq_true', Bool.not_eq_false', Bool.not_true, Bool.not_false] at phs111
                        refine ol_g rfl rfl hs111 ?_
                        refine ol_r (r_move rfl) rfl ?_
                        refine ol_g rfl rfl hs111 ?_
                        refine ol_r (r_move rfl) rfl ?_
                        refine ol_g rfl rfl hs111 ?_
                        refine ol_r (r_sub rfl rfl (by omega)) rfl ?_
                        refine ol_g rfl rfl hs111 ?_
                        refine ol_r (r_geq rfl rfl) rfl ?_
                        refine ol_r (r_pickF rfl hs111 rfl) rfl ?_
                        refine ol_r (r_move rfl) rfl ?_
                        refine ol_split (d := 117) rfl (fun hs117 => ?_) (fun hs117 => ?_)
                        · have phs117 := hs117; try simp only [decide_eq_true_eq, decide_eq_false_iff_not, Bool.not_eq_true', Bool.not_eq_false', Bool.not_true, Bool.not_false] at phs117
                          refine ol_s rfl rfl hs117 rfl ?_
                          refine ol_s rfl rfl hs117 rfl ?_
                          refine ol_s rfl rfl hs117 rfl ?_
                          refine ol_u rfl rfl rfl ?_
                          refine ol_u rfl rfl rfl ?_
                          refine ol_u rfl rfl rfl ?_
                          refine ol_u rfl rfl rfl ?_
                          refine ol_u rfl rfl rfl ?_
                          refine ol_u rfl rfl rfl ?_
                          refine ol_u rfl rfl rfl ?_
                          refine ol_s rfl rfl hs117 rfl ?_
                          refine ol_r (r_pickT rfl hs117 rfl) rfl ?_
                          refine ol_nil (to_k0 (fun _ _ h => h) (hK26 _ _ _ _ _ ?_))
                          clear hK26
                          refine wp_condT rfl ?_
                          refine wp_seq' fun K28 hK28 => ?_
                          refine wp_reg ?_
                          refine ol_call rfl rfl cb14 rfl (fun w1 hb1 hs1 hB1 => Calls.mono (law3_told _) ?_)
                          rintro e w2 ⟨rfl, hb2⟩
                          refine After.below rfl hb1 hs1 hB1 hb2 ?_
                          clear hb2 hB1 hs1 hb1 w2 w1
                          refine ol_r (r_assign rfl) rfl ?_
                          refine ol_nil (to_k0 (fun _ _ h => h) (hK28 _ _ _ _ _ ?_))
                          clear hK28
                          refine hQ.ret (rvs1 (rv_t rfl)) (fun _ _ h => h) fun w hb hs hB hkd => ?_
                          first
                            | exact ⟨rfl, hb⟩
                            | (exfalso
                               rw [hx0] at phs51
                               exact absurd phs51 (by decide))
                            | (exfalso; omega)
                            | (exfalso
                               have g1 : zAt A.ss (A.ss.length - 1) = x164.z := by refine zAt_eq ?_; rw [← hx164]; congr 1; omega
                               have g2 : zAt A.ss (A.ss.length - 1) = x174.z := by refine zAt_eq ?_; rw [← hx174]; congr 1; omega
                               have g3 := s7 _ _ _ hR hix
                               have g4 : hi * (climbR A.d hi).1.2.2 = hi * c2 := by rw [y3]
                               have g5 := absD_or (zAt A.ss (A.ss.length - 1)) (zAt A.ss ix)
                               omega)
                        · have phs117 := hs117; try simp only [decide_eq_true_eq, decide_eq_false_iff_not, Bool.not_eq_true', Bool.not_eq_false', Bool.not_true, Bool.not_false] at phs117
                          refine ol_g rfl rfl hs117 ?_
                          refine ol_r (r_move rfl) rfl ?_
                          refine ol_g rfl rfl hs117 ?_
                          refine ol_r (r_gtr rfl rfl) rfl ?_
                          refine ol_g rfl rfl hs117 ?_
                          refine ol_r (r_move rfl) rfl ?_
                          refine ol_split (d := 120) rfl (fun hs120 => ?_) (fun hs120 => ?_)
                          · have phs120 := hs120; try simp only [decide_eq_true_eq, decide_eq_false_iff_not, Bool.not_eq_true', Bool.not_eq_false', Bool.not_true, Bool.not_false] at phs120
                            refine ol_g rfl rfl hs120 ?_
                            refine ol_r (r_move rfl) rfl ?_
                            refine ol_g rfl rfl hs120 ?_
                            refine ol_r (r_move rfl) rfl ?_
                            refine ol_g rfl rfl hs120 ?_
                            refine ol_r (r_move rfl) rfl ?_
                            refine ol_g rfl rfl hs120 ?_
                            refine ol_r (r_sub rfl rfl (by omega)) rfl ?_
                            refine ol_g rfl rfl hs120 ?_
                            refine ol_ixr hl rfl rfl sl34 (by omega) rfl fun x125 hx125 => ?_
                            try simp only [Int.toNat_natCast] at hx125
                            refine ol_g rfl rfl hs120 ?_
                            refine ol_r (r_ldw rfl (fun w1 hb1 hs1 hB1 => show Loads _ _ _ _ (.int .i64 x125) from Rd.loads hl ty3 hx125 hb1)) rfl ?_
                            refine ol_g rfl rfl hs120 ?_
                            refine ol_r (r_leq rfl rfl) rfl ?_
                            refine ol_g rfl rfl hs117 ?_
                            refine ol_r (r_pickT rfl hs120 rfl) rfl ?_
                            refine ol_r (r_pickF rfl hs117 rfl) rfl ?_
                            refine ol_nil (to_k0 (fun _ _ h => h) (hK26 _ _ _ _ _ ?_))
                            clear hK26
                            first | refine wp_condD rfl (fun hc129 => ?_) (fun hc129 => ?_) | refine wp_condN rfl (fun hc129 => ?_) (fun hc129 => ?_) | refine wp_condNB rfl (fun hc129 => ?_) (fun hc129 => ?_) | refine wp_cond' rfl (fun hc129 => ?_) (fun hc129 => ?_)
                            · refine wp_seq' fun K29 hK29 => ?_
                              refine wp_reg ?_
                              refine ol_call rfl rfl cb14 rfl (fun w1 hb1 hs1 hB1 => Calls.mono (law3_told _) ?_)
                              rintro e w2 ⟨rfl, hb2⟩
                              refine After.below rfl hb1 hs1 hB1 hb2 ?_
                              clear hb2 hB1 hs1 hb1 w2 w1
                              refine ol_r (r_assign rfl) rfl ?_
                              refine ol_nil (to_k0 (fun _ _ h => h) (hK29 _ _ _ _ _ ?_))
                              clear hK29
                              refine hQ.ret (rvs1 (rv_t rfl)) (fun _ _ h => h) fun w hb hs hB hkd => ?_
                              first
                                | exact ⟨rfl, hb⟩
                                | (exfalso
                                   rw [hx0] at phs51
                                   exact absurd phs51 (by decide))
                                | (exfalso; omega)
                                | (exfalso
                                   have g1 : zAt A.ss (A.ss.length - 1) = x164.z := by refine zAt_eq ?_; rw [← hx164]; congr 1; omega
                                   have g2 : zAt A.ss (A.ss.length - 1) = x174.z := by refine zAt_eq ?_; rw [← hx174]; congr 1; omega
                                   have g3 := s7 _ _ _ hR hix
                                   have g4 : hi * (climbR A.d hi).1.2.2 = hi * c2 := by rw [y3]
                                   have g5 := absD_or (zAt A.ss (A.ss.length - 1)) (zAt A.ss ix)
                                   omega)
                            · refine wp_skip' (to_k0 (fun _ _ h => h) (hK25 _ _ _ _ _ ?_))
                              clear hK25
                              refine wp_seq' fun K30 hK30 => ?_
                              refine wp_regq (by kernel_rfl) (by kernel_rfl) ?_
                              have hlt : (ix : Int) < x107 := by
                                first
                                  | (have e1 : ((k : Int) - 1).toNat = k - 1 := by omega
                                     rw [e1, hk1 (by omega)] at hx125
                                     cases hx125
                                     omega)
                                  | (have := hk0 (by omega)
                                     omega)
                              obtain ⟨kk, rfl⟩ := Int.eq_ofNat_of_zero_le (show 0 ≤ x107 by omega)
                              refine ql_r (r_move rfl) rfl ?_
                              refine ql_r (r_fa (o' := 3) rfl fl26_3 rfl) rfl ?_
                              refine ql_r (r_ld (id := 4) rfl rfl rfl sc22) rfl ?_
                              refine ql_r (r_move rfl) rfl ?_
                              refine ql_ixr hA.s rfl rfl sl22 (by omega) rfl fun x135 hx135 => ?_
                              try simp only [Int.toNat_natCast] at hx135
                              refine ql_r (r_faw rfl (ix_some hA.s (by omega)) fl36_3) rfl ?_
                              refine ql_r (r_ldw rfl (fun w1 hb1 hs1 hB1 => Rd.loadsF (o := 3) hA.s sc3 hx135 hb1 rfl)) rfl ?_
                              refine ql_r (r_move rfl) rfl ?_
                              have z3 := hz _ (List.mem_of_getElem? hx135)
                              refine ql_r (r_sub rfl rfl (by omega)) rfl ?_
                              refine ql_r (r_move rfl) rfl ?_
                              refine ql_r (r_fa (o' := 3) rfl fl26_3 rfl) rfl ?_
                              refine ql_r (r_ld (id := 4) rfl rfl rfl sc22) rfl ?_
                              refine ql_r (r_move rfl) rfl ?_
                              refine ql_ixr hA.s rfl rfl sl22 (by omega) rfl fun x144 hx144 => ?_
                              try simp only [Int.toNat_natCast] at hx144
                              refine ql_r (r_faw rfl (ix_some hA.s (by omega)) fl36_3) rfl ?_
                              refine ql_r (r_ldw rfl (fun w1 hb1 hs1 hB1 => Rd.loadsF (o := 3) hA.s sc3 hx144 hb1 rfl)) rfl ?_
                              have z4 := hz _ (List.mem_of_getElem? hx144)
                              refine ql_r (r_sub rfl rfl (by omega)) rfl ?_
                              refine ql_r (r_max rfl rfl) rfl ?_
                              refine ql_r (r_move rfl) rfl ?_
                              refine ql_r (r_sub rfl rfl (by omega)) rfl ?_
                              refine ql_r (r_add rfl rfl (by omega)) rfl ?_
                              refine ql_r (r_assign rfl) rfl ?_
                              refine ql_nil (to_k0 (fun _ _ h => h) (hK30 _ _ _ _ _ ?_))
                              clear hK30
                              refine wp_reg ?_
                              refine ol_r (r_fa (o' := 3) rfl fl26_3 rfl) rfl ?_
                              refine ol_r (r_ld (id := 4) rfl rfl rfl sc22) rfl ?_
                              refine ol_r (r_move rfl) rfl ?_
                              refine ol_ixr hA.s rfl rfl sl22 (by omega) rfl fun x155 hx155 => ?_
                              try simp only [Int.toNat_natCast] at hx155
                              refine ol_r (r_faw rfl (ix_some hA.s (by omega)) fl36_3) rfl ?_
                              refine ol_r (r_ldw rfl (fun w1 hb1 hs1 hB1 => Rd.loadsF (o := 3) hA.s sc3 hx155 hb1 rfl)) rfl ?_
                              refine ol_r (r_assign rfl) rfl ?_
                              refine ol_nil (to_k0 (fun _ _ h => h) (hK23 _ _ _ _ _ ?_))
                              clear hK23
                              refine wp_reg ?_
                              refine ol_r (r_add rfl rfl (by omega)) rfl ?_
                              refine ol_r (r_move rfl) rfl ?_
                              refine ol_nil (to_k0 (fun _ _ h => h) (hK20 ((k + 1, _, _)) _ _ ?_ ?_ (sub_cons rfl (sub_cons rfl (sub_cons rfl sub_nil))) (sub_cons rfl (sub_cons rfl (sub_cons rfl (sub_cons rfl (sub_cons rfl (sub_cons rfl (sub_cons rfl sub_nil))))))) (by exact subH_nil) (subH_same rfl (subH_same rfl (subH_same rfl subH_nil)))))
                              · try dsimp only
                                have g1 := zAt_eq hx135
                                have g2 := zAt_eq hx144
                                have g3 := zAt_eq hx155
                                have hm : hi * ((k + 1 : Nat) : Int) = hi * k + hi := by rw [Int.natCast_add, Int.mul_add]; simp
                                have ha := absD_or (zAt A.ss kk) (zAt A.ss ix)
                                refine ⟨by omega, kk, _, hR.step (show ix < kk by omega), fun h => absurd h (by omega), fun _ => by simpa using hx107, by omega, ?_, g3.symm⟩
                                rw [hm]
                                omega
                              · try dsimp only
                                omega
                          · have phs120 := hs120; try simp only [decide_eq_true_eq, decide_eq_false_iff_not, Bool.not_eq_true', Bool.not_eq_false', Bool.not_true, Bool.not_false] at phs120
                            refine ol_s rfl rfl hs120 rfl ?_
                            refine ol_s rfl rfl hs120 rfl ?_
                            refine ol_s rfl rfl hs120 rfl ?_
                            refine ol_s rfl rfl hs120 rfl ?_
                            refine ol_s rfl rfl hs120 rfl ?_
                            refine ol_s rfl rfl hs120 rfl ?_
                            refine ol_s rfl rfl hs120 rfl ?_
                            refine ol_g rfl rfl hs117 ?_
                            refine ol_r (r_pickF rfl hs120 rfl) rfl ?_
                            refine ol_r (r_pickF rfl hs117 rfl) rfl ?_
                            refine ol_nil (to_k0 (fun _ _ h => h) (hK26 _ _ _ _ _ ?_))
                            clear hK26
                            refine wp_condF rfl ?_
                            refine wp_skip' (to_k0 (fun _ _ h => h) (hK25 _ _ _ _ _ ?_))
                            clear hK25
                            refine wp_seq' fun K31 hK31 => ?_
                            refine wp_regq (by kernel_rfl) (by kernel_rfl) ?_
                            have hlt : (ix : Int) < x107 := by
                              first
                                | (have e1 : ((k : Int) - 1).toNat = k - 1 := by omega
                                   rw [e1, hk1 (by omega)] at hx125
                                   cases hx125
                                   omega)
                                | (have := hk0 (by omega)
                                   omega)
                            obtain ⟨kk, rfl⟩ := Int.eq_ofNat_of_zero_le (show 0 ≤ x107 by omega)
                            refine ql_r (r_move rfl) rfl ?_
                            refine ql_r (r_fa (o' := 3) rfl fl26_3 rfl) rfl ?_
                            refine ql_r (r_ld (id := 4) rfl rfl rfl sc22) rfl ?_
                            refine ql_r (r_move rfl) rfl ?_
                            refine ql_ixr hA.s rfl rfl sl22 (by omega) rfl fun x135 hx135 => ?_
                            try simp only [Int.toNat_natCast] at hx135
                            refine ql_r (r_faw rfl (ix_some hA.s (by omega)) fl36_3) rfl ?_
                            refine ql_r (r_ldw rfl (fun w1 hb1 hs1 hB1 => Rd.loadsF (o := 3) hA.s sc3 hx135 hb1 rfl)) rfl ?_
                            refine ql_r (r_move rfl) rfl ?_
                            have z3 := hz _ (List.mem_of_getElem? hx135)
                            refine ql_r (r_sub rfl rfl (by omega)) rfl ?_
                            refine ql_r (r_move rfl) rfl ?_
                            refine ql_r (r_fa (o' := 3) rfl fl26_3 rfl) rfl ?_
                            refine ql_r (r_ld (id := 4) rfl rfl rfl sc22) rfl ?_
                            refine ql_r (r_move rfl) rfl ?_
                            refine ql_ixr hA.s rfl rfl sl22 (by omega) rfl fun x144 hx144 => ?_
                            try simp only [Int.toNat_natCast] at hx144
                            refine ql_r (r_faw rfl (ix_some hA.s (by omega)) fl36_3) rfl ?_
                            refine ql_r (r_ldw rfl (fun w1 hb1 hs1 hB1 => Rd.loadsF (o := 3) hA.s sc3 hx144 hb1 rfl)) rfl ?_
                            have z4 := hz _ (List.mem_of_getElem? hx144)
                            refine ql_r (r_sub rfl rfl (by omega)) rfl ?_
                            refine ql_r (r_max rfl rfl) rfl ?_
                            refine ql_r (r_move rfl) rfl ?_
                            refine ql_r (r_sub rfl rfl (by omega)) rfl ?_
                            refine ql_r (r_add rfl rfl (by omega)) rfl ?_
                            refine ql_r (r_assign rfl) rfl ?_
                            refine ql_nil (to_k0 (fun _ _ h => h) (hK31 _ _ _ _ _ ?_))
                            clear hK31
                            refine wp_reg ?_
                            refine ol_r (r_fa (o' := 3) rfl fl26_3 rfl) rfl ?_
                            refine ol_r (r_ld (id := 4) rfl rfl rfl sc22) rfl ?_
                            refine ol_r (r_move rfl) rfl ?_
                            refine ol_ixr hA.s rfl rfl sl22 (by omega) rfl fun x155 hx155 => ?_
                            try simp only [Int.toNat_natCast] at hx155
                            refine ol_r (r_faw rfl (ix_some hA.s (by omega)) fl36_3) rfl ?_
                            refine ol_r (r_ldw rfl (fun w1 hb1 hs1 hB1 => Rd.loadsF (o := 3) hA.s sc3 hx155 hb1 rfl)) rfl ?_
                            refine ol_r (r_assign rfl) rfl ?_
                            refine ol_nil (to_k0 (fun _ _ h => h) (hK23 _ _ _ _ _ ?_))
                            clear hK23
                            refine wp_reg ?_
                            refine ol_r (r_add rfl rfl (by omega)) rfl ?_
                            refine ol_r (r_move rfl) rfl ?_
                            refine ol_nil (to_k0 (fun _ _ h => h) (hK20 ((k + 1, _, _)) _ _ ?_ ?_ (sub_cons rfl (sub_cons rfl (sub_cons rfl sub_nil))) (sub_cons rfl (sub_cons rfl (sub_cons rfl (sub_cons rfl (sub_cons rfl (sub_cons rfl (sub_cons rfl sub_nil))))))) (by exact subH_nil) (subH_same rfl (subH_same rfl (subH_same rfl subH_nil)))))
                            · try dsimp only
                              have g1 := zAt_eq hx135
                              have g2 := zAt_eq hx144
                              have g3 := zAt_eq hx155
                              have hm : hi * ((k + 1 : Nat) : Int) = hi * k + hi := by rw [Int.natCast_add, Int.mul_add]; simp
                              have ha := absD_or (zAt A.ss kk) (zAt A.ss ix)
                              refine ⟨by omega, kk, _, hR.step (show ix < kk by omega), fun h => absurd h (by omega), fun _ => by simpa using hx107, by omega, ?_, g3.symm⟩
                              rw [hm]
                              omega
                            · try dsimp only
                              omega
                    · refine wp_exit' (to_k0 (fun _ _ h => h) (hK18 _ _ _ _ _ ?_))
                      clear hK18
                      refine wp_seq' fun K32 hK32 => ?_
                      refine wp_regq (by kernel_rfl) (by kernel_rfl) ?_
                      refine ql_r (r_move rfl) rfl ?_
                      refine ql_r (r_fa (o' := 3) rfl fl26_3 rfl) rfl ?_
                      refine ql_r (r_ld (id := 4) rfl rfl rfl sc22) rfl ?_
                      refine ql_r (r_move rfl) rfl ?_
                      refine ql_r (r_sub rfl rfl (by omega)) rfl ?_
                      refine ql_ixr hA.s rfl rfl sl22 (by omega) rfl fun x164 hx164 => ?_
                      try simp only [Int.toNat_natCast] at hx164
                      refine ql_r (r_faw rfl (ix_some hA.s (by omega)) fl36_3) rfl ?_
                      refine ql_r (r_ldw rfl (fun w1 hb1 hs1 hB1 => Rd.loadsF (o := 3) hA.s sc3 hx164 hb1 rfl)) rfl ?_
                      refine ql_r (r_move rfl) rfl ?_
                      have z5 := hz _ (List.mem_of_getElem? hx164)
                      refine ql_r (r_sub rfl rfl (by omega)) rfl ?_
                      refine ql_r (r_move rfl) rfl ?_
                      refine ql_r (r_fa (o' := 3) rfl fl26_3 rfl) rfl ?_
                      refine ql_r (r_ld (id := 4) rfl rfl rfl sc22) rfl ?_
                      refine ql_r (r_move rfl) rfl ?_
                      refine ql_r (r_sub rfl rfl (by omega)) rfl ?_
                      refine ql_ixr hA.s rfl rfl sl22 (by omega) rfl fun x174 hx174 => ?_
                      try simp only [Int.toNat_natCast] at hx174
                      refine ql_r (r_faw rfl (ix_some hA.s (by omega)) fl36_3) rfl ?_
                      refine ql_r (r_ldw rfl (fun w1 hb1 hs1 hB1 => Rd.loadsF (o := 3) hA.s sc3 hx174 hb1 rfl)) rfl ?_
                      have z6 := hz _ (List.mem_of_getElem? hx174)
                      refine ql_r (r_sub rfl rfl (by omega)) rfl ?_
                      refine ql_r (r_max rfl rfl) rfl ?_
                      refine ql_r (r_add rfl rfl (by omega)) rfl ?_
                      refine ql_r (r_assign rfl) rfl ?_
                      refine ql_nil (to_k0 (fun _ _ h => h) (hK32 _ _ _ _ _ ?_))
                      clear hK32
                      refine wp_seq' fun K33 hK33 => ?_
                      refine wp_reg ?_
                      refine ol_r (r_move rfl) rfl ?_
                      refine ol_r (r_fa (o' := 0) rfl fl28_0 rfl) rfl ?_
                      refine ol_r (r_ld (id := 11) rfl rfl rfl sc3) rfl ?_
                      refine ol_r (r_fa (o' := 1) rfl fl28_1 rfl) rfl ?_
                      refine ol_r (r_ld (id := 11) rfl rfl rfl sc3) rfl ?_
                      refine ol_r (r_add rfl rfl (by omega)) rfl ?_
                      refine ol_r (r_move rfl) rfl ?_
                      refine ol_r (r_fa (o' := 2) rfl fl28_2 rfl) rfl ?_
                      refine ol_r (r_ld (id := 11) rfl rfl rfl sc3) rfl ?_
                      have hmy := mul_bd (a := hi) (b := (climbR A.d hi).1.2.2) (A := 200000) (B := 20000) (by omega) (by omega) (by omega) (by omega)
                      refine ol_r (r_mul rfl rfl (by omega)) rfl ?_
                      refine ol_r (r_sub rfl rfl (by omega)) rfl ?_
                      refine ol_r (r_leq rfl rfl) rfl ?_
                      refine ol_r (r_move rfl) rfl ?_
                      refine ol_split (d := 192) rfl (fun hs192 => ?_) (fun hs192 => ?_)
                      · have phs192 := hs192; try simp only [decide_eq_true_eq, decide_eq_false_iff_not, Bool.not_eq_true', Bool.not_eq_false', Bool.not_true, Bool.not_false] at phs192
                        refine ol_g rfl rfl hs192 ?_
                        refine ol_call rfl rfl cb14 rfl (fun w1 hb1 hs1 hB1 => Calls.mono (law3_told _) ?_)
                        rintro e w2 ⟨rfl, hb2⟩
                        refine After.below rfl hb1 hs1 hB1 hb2 ?_
                        clear hb2 hB1 hs1 hb1 w2 w1
                        refine ol_r (r_pickT rfl hs192 rfl) rfl ?_
                        refine ol_r (r_assign rfl) rfl ?_
                        refine ol_nil (to_k0 (fun _ _ h => h) (hK33 _ _ _ _ _ ?_))
                        clear hK33
                        refine hQ.ret (rvs1 (rv_t rfl)) (fun _ _ h => h) fun w hb hs hB hkd => ?_
                        first
                          | exact ⟨rfl, hb⟩
                          | (exfalso
                             rw [hx0] at phs51
                             exact absurd phs51 (by decide))
                          | (exfalso; omega)
                          | (exfalso
                             have g1 : zAt A.ss (A.ss.length - 1) = x164.z := by refine zAt_eq ?_; rw [← hx164]; congr 1; omega
                             have g2 : zAt A.ss (A.ss.length - 1) = x174.z := by refine zAt_eq ?_; rw [← hx174]; congr 1; omega
                             have g3 := s7 _ _ _ hR hix
                             have g4 : hi * (climbR A.d hi).1.2.2 = hi * c2 := by rw [y3]
                             have g5 := absD_or (zAt A.ss (A.ss.length - 1)) (zAt A.ss ix)
                             omega)
                      · have phs192 := hs192; try simp only [decide_eq_true_eq, decide_eq_false_iff_not, Bool.not_eq_true', Bool.not_eq_false', Bool.not_true, Bool.not_false] at phs192
                        refine ol_s rfl rfl hs192 rfl ?_
                        refine ol_r (r_pickF rfl hs192 rfl) rfl ?_
                        refine ol_r (r_assign rfl) rfl ?_
                        refine ol_nil (to_k0 (fun _ _ h => h) (hK33 _ _ _ _ _ ?_))
                        clear hK33
                        refine hQ.ret (rvs1 (rv_t rfl)) (fun _ _ h => h) fun w hb hs hB hkd => ?_
                        first
                          | exact ⟨rfl, hb⟩
                          | (exfalso
                             rw [hx0] at phs51
                             exact absurd phs51 (by decide))
                          | (exfalso; omega)
                          | (exfalso
                             have g1 : zAt A.ss (A.ss.length - 1) = x164.z := by refine zAt_eq ?_; rw [← hx164]; congr 1; omega
                             have g2 : zAt A.ss (A.ss.length - 1) = x174.z := by refine zAt_eq ?_; rw [← hx174]; congr 1; omega
                             have g3 := s7 _ _ _ hR hix
                             have g4 : hi * (climbR A.d hi).1.2.2 = hi * c2 := by rw [y3]
                             have g5 := absD_or (zAt A.ss (A.ss.length - 1)) (zAt A.ss ix)
                             omega)
end Go.Proofs.Ytlbcefnbjdpljaa
