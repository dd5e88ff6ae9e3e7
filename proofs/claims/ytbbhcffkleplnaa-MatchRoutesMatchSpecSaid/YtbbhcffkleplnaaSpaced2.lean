/-
  Spaced of the reference; MatchRoutesMatchSpec.
-/
import Derived.Test.YtbbhcffkleplnaaSpaced
import Derived.Test.YtbbhcffkleplnaaTold
namespace Go.Proofs.Ytbbhcffkleplnaa
open Go Go.RowKit Hx
set_option linter.unusedVariables false
set_option linter.unusedSimpArgs false
set_option maxRecDepth 8000
theorem ref5_outside2 (n a b : Int) (w : World) : Calls Try.prog 48 #[.int .i64 n, .int .i64 a, .int .i64 b] w fun e w' => e = .returned (.bool (!inB n a b)) ∧ Below w.heap.size w w' := ref5_outside n a b w
theorem ref5_Spaced (A : ActV) (n : Int) (w : World) (hA : A.Ok w.heap.size w) :
    Calls Try.prog 32 #[.agg #[.string A.name, .int .i64 A.sport, .int .i64 A.start, .slice A.sa A.sn A.sc, .slice A.la A.ln A.lc, .slice A.ta A.tn A.tc], .int .i64 n] w fun e w' => ∃ b m k, e = .returned (.tuple #[.slice b m k, .int .i64 (spR A.d n).2]) ∧ Fresh encPoint 62 w w' b m k (spR A.d n).1 := by
  have hsn := hA.s.len
  have hsf := hA.s.fit
  refine enterQ (N := 141) (C := fun _ => True) (H := []) (B := w.heap.size) (args := [_, _]) Try.func32 rfl rfl rfl (Nat.le_refl _) (Sat.nil _ _) fun Q hQ => ?_
  refine wp_seq' fun K1 hK1 => ?_
  refine wp_reg ?_
  refine ol_box 2 rfl rfl rfl fun b2 => ?_
  refine ol_r (r_assign rfl) rfl ?_
  refine ol_r (r_assign rfl) rfl ?_
  refine ol_nil (to_k0 (fun _ _ h => h) (hK1 _ _ _ _ _ ?_))
  clear hK1
  refine wp_seq' fun K2 hK2 => ?_
  refine wp_reg ?_
  refine ol_r (r_lda (id := 2) (n := 6) rfl rfl rfl ag29) rfl ?_
  refine ol_call rfl rfl cb67 rfl (fun w1 hb1 hs1 hB1 => Calls.mono (ref3_WaysX A _ (hA.at hb1 hB1)) ?_)
  rintro e w2 ⟨a20, n20, c20, rfl, hf20⟩
  refine After.fresh (id := 20) rfl hb1 hs1 hB1 hf20 ?_
  have hl20 := hf20.len; clear hf20 hB1 hs1 hb1 w2 w1
  refine ol_r (r_move rfl) rfl ?_
  refine ol_r (r_extract rfl rfl) rfl ?_
  refine ol_r (r_extract rfl rfl) rfl ?_
  refine ol_r (r_assign rfl) rfl ?_
  refine ol_r (r_assign rfl) rfl ?_
  refine ol_nil (to_k0 (fun _ _ h => h) (hK2 _ _ _ _ _ ?_))
  clear hK2
  refine wp_seq' fun K3 hK3 => ?_
  refine wp_seq' fun K4 hK4 => ?_
  refine wp_reg ?_
  refine ol_r (r_move rfl) rfl ?_
  refine ol_r (r_neq rfl rfl) rfl ?_
  refine ol_nil (to_k0 (fun _ _ h => h) (hK4 _ _ _ _ _ ?_))
  clear hK4
  refine wp_condD rfl (fun hc24 => ?_) (fun hc24 => ?_)
  ·refine wp_seq' fun K5 hK5 => ?_
   refine wp_reg ?_
   refine ol_r (r_move rfl) rfl ?_
   refine ol_r (r_assign rfl) rfl ?_
   refine ol_r (r_assign rfl) rfl ?_
   refine ol_nil (to_k0 (fun _ _ h => h) (hK5 _ _ _ _ _ ?_))
   clear hK5
   refine hQ.ret (rvs2 (rv_t rfl) (rv_t rfl)) (fun _ _ h => h) fun w hb hs hB hkd => ?_
   rw [waysR_snd] at hc24 ⊢
   exact ⟨none, 0, 0, by rw [spR_e hc24], by rw [spR_e hc24]; exact Fresh.nil hb⟩
  ·refine wp_skip' (to_k0 (fun _ _ h => h) (hK3 _ _ _ _ _ ?_))
   clear hK3
   refine wp_seq' fun K6 hK6 => ?_
   refine wp_seq' fun K7 hK7 => ?_
   refine wp_reg ?_
   refine ol_r (r_move rfl) rfl ?_
   refine ol_call rfl rfl cb48 rfl (fun w1 hb1 hs1 hB1 => Calls.mono (ref5_outside _ _ _ _) ?_)
   rintro e w2 ⟨rfl, hb2⟩
   refine After.below rfl hb1 hs1 hB1 hb2 ?_
   clear hb2 hB1 hs1 hb1 w2 w1
   refine ol_nil (to_k0 (fun _ _ h => h) (hK7 _ _ _ _ _ ?_))
   clear hK7
   refine wp_condNB rfl (fun hc27 => ?_) (fun hc27 => ?_)
   ·refine wp_seq' fun K8 hK8 => ?_
    refine wp_reg ?_
    refine ol_r (r_assign rfl) rfl ?_
    refine ol_r (r_assign rfl) rfl ?_
    refine ol_nil (to_k0 (fun _ _ h => h) (hK8 _ _ _ _ _ ?_))
    clear hK8
    refine hQ.ret (rvs2 (rv_t rfl) (rv_t rfl)) (fun _ _ h => h) fun w hb hs hB hkd => ?_
    rw [waysR_snd] at hc24
    have h9 := spR_9 hc24 (by simpa using hc27)
    exact ⟨none, 0, 0, by rw [h9], by rw [h9]; exact Fresh.nil hb⟩
   ·refine wp_skip' (to_k0 (fun _ _ h => h) (hK6 _ _ _ _ _ ?_))
    clear hK6
    refine wp_seq' fun K9 hK9 => ?_
    refine wp_seq' fun K10 hK10 => ?_
    refine wp_reg ?_
    refine ol_r (r_move rfl) rfl ?_
    refine ol_r (r_len rfl sl47) rfl ?_
    refine ol_r (r_eql rfl rfl) rfl ?_
    refine ol_nil (to_k0 (fun _ _ h => h) (hK10 _ _ _ _ _ ?_))
    clear hK10
    refine wp_condD rfl (fun hc30 => ?_) (fun hc30 => ?_)
    ·refine wp_seq' fun K11 hK11 => ?_
     refine wp_reg ?_
     refine ol_r (r_assign rfl) rfl ?_
     refine ol_r (r_assign rfl) rfl ?_
     refine ol_nil (to_k0 (fun _ _ h => h) (hK11 _ _ _ _ _ ?_))
     clear hK11
     refine hQ.ret (rvs2 (rv_t rfl) (rv_t rfl)) (fun _ _ h => h) fun w hb hs hB hkd => ?_
     rw [waysR_snd] at hc24
     have hl : A.ss.length = n20 := by rw [← wayL_len]; rw [waysR_0 hc24] at hl20; exact hl20
     have h9 := spR_13 hc24 (by simpa using hc27) (by show A.ss.length = 0; omega)
     exact ⟨none, 0, 0, by rw [h9], by rw [h9]; exact Fresh.nil hb⟩
    ·refine wp_skip' (to_k0 (fun _ _ h => h) (hK9 _ _ _ _ _ ?_))
     clear hK9
     refine wp_seq' fun K12 hK12 => ?_
     refine wp_reg ?_
     refine ol_nilrow 8 62 2 ?_
     refine ol_r (r_assign rfl) rfl ?_
     refine ol_nil (to_k0 (fun _ _ h => h) (hK12 _ _ _ _ _ ?_))
     clear hK12
     refine wp_seq' fun K13 hK13 => ?_
     refine wp_reg ?_
     refine ol_r (r_assign rfl) rfl ?_
     refine ol_nil (to_k0 (fun _ _ h => h) (hK13 _ _ _ _ _ ?_))
     clear hK13
     refine wp_seq' fun K14 hK14 => ?_
     refine wp_seq' fun K15 hK15 => ?_
     refine wp_reg ?_
     first
       | (have h0 : ¬chkA A.d ≠ 0 := by rw [waysR_snd] at hc24; exact hc24
          have hin : inB n 2 300 = true := by simpa using hc27
          have hnn := inB_iff.1 hin
          have hw : waysR A.d = (wayL A.ss, 0) := waysR_0 h0
          have hok : SmpOk A.start A.ss := (goodA (Decidable.not_not.1 h0)).smp
          have hl : A.ss.length = n20 := by rw [← wayL_len]; rw [hw] at hl20; exact hl20
          clear hl20
          rw [hw]
          dsimp only
          have hwl := wayL_len A.ss
          obtain ⟨N, rfl⟩ := Int.eq_ofNat_of_zero_le (show 0 ≤ n by omega))
       | skip
     refine ol_r (r_assign rfl) rfl ?_
     refine ol_nil (to_k0 (fun _ _ h => h) (hK15 _ _ _ _ _ ?_))
     clear hK15
     refine wp_block' ?_
     apply wp_loopM (σ := Nat × Nat × Option Addr × Nat × Nat) (fun s => s.1 ≤ N ∧ s.2.2.2.1 = s.1 ∧ s.2.1 < A.ss.length ∧ (s.2.1 = 0 ∨ ∃ i : Nat, i < s.1 ∧ wayN A.ss (s.2.1 - 1) < spD A.ss N i)) (fun s => [(10, .int .i64 s.1), (9, .int .i64 s.2.1), (8, .slice s.2.2.1 s.2.2.2.1 s.2.2.2.2)]) [(1, _), (2, _), (4, _), (5, _), (6, _)] (fun s => [(8, .row s.2.2.1 s.2.2.2.1 s.2.2.2.2 (encPoint.enc (spL A.ss N s.1)) 62 2)]) [(2, _), (20, _)] (fun s => N - s.1) ((0, 0, none, 0, 0))
     ·try dsimp only
      exact ⟨Nat.zero_le _, rfl, by omega, .inl rfl⟩
     ·exact (sub_cons rfl (sub_cons rfl (sub_cons rfl sub_nil)))
     ·exact (sub_cons rfl (sub_cons rfl (sub_cons rfl (sub_cons rfl (sub_cons rfl sub_nil)))))
     ·exact (subH_row rfl (by dsimp only; rfl) subH_nil)
     ·exact (subH_same rfl (subH_same rfl subH_nil))
     ·rintro ⟨j, i, oa, on, oc⟩ ⟨hj, hon, hi, hlo⟩
      dsimp only at hj hon hi hlo ⊢
      intro K16 hK16
      refine wp_seq' fun K17 hK17 => ?_
      refine wp_seq' fun K18 hK18 => ?_
      refine wp_reg ?_
      refine ol_r (r_move rfl) rfl ?_
      refine ol_r (r_move rfl) rfl ?_
      refine ol_r (r_lss rfl rfl) rfl ?_
      refine ol_nil (to_k0 (fun _ _ h => h) (hK18 _ _ _ _ _ ?_))
      clear hK18
      refine wp_condD rfl (fun hc33 => ?_) (fun hc33 => ?_)
      ·refine wp_skip' (to_k0 (fun _ _ h => h) (hK17 _ _ _ _ _ ?_))
       clear hK17
       refine wp_seq' fun K19 hK19 => ?_
       refine wp_block' ?_
       refine wp_seq' fun K20 hK20 => ?_
       refine wp_reg ?_
       refine ol_r (r_move rfl) rfl ?_
       refine ol_r (r_move rfl) rfl ?_
       refine ol_r (r_len rfl sl47) rfl ?_
       refine ol_r (r_sub rfl rfl (by omega)) rfl ?_
       refine ol_ixo (id := 20) encI _ rfl rfl rfl rfl sl47 (by omega) rfl fun x40 hx40 => ?_
       try simp only [Int.toNat_natCast] at hx40
       try simp only [Int.toNat_natCast] at hx40
       refine ol_r (r_ldw rfl (fun w1 hb1 hs1 hB1 => show Loads _ _ _ _ (.int .i64 x40) from ld_own (id := 20) hs1 rfl rfl ty3 hx40)) rfl ?_
       have h40 := runW_get (k := A.ss.length) hx40
       rw [show ((n20 : Int) - 1).toNat = A.ss.length - 1 by omega] at h40
       subst h40
       have hD := spD_bd hok hnn (j := (j : Int)) ⟨by omega, by omega⟩
       refine ol_r (r_move rfl) rfl ?_
       refine ol_r (r_mul rfl rfl (by omega)) rfl ?_
       refine ol_r (r_move rfl) rfl ?_
       refine ol_r (r_sub rfl rfl (by omega)) rfl ?_
       first | refine ol_r (r_quo rfl rfl (by omega)) rfl ?_ | refine ol_r (r_tquo rfl rfl (by omega)) rfl ?_
       rw [show wayN A.ss (A.ss.length - 1) * (j : Int) / ((N : Int) - 1) = spD A.ss N j from rfl]
       refine ol_r (r_assign rfl) rfl ?_
       refine ol_nil (to_k0 (fun _ _ h => h) (hK20 _ _ _ _ _ ?_))
       clear hK20
       refine wp_seq' fun K21 hK21 => ?_
       refine wp_block' ?_
       apply wp_loopM (σ := Nat) (fun s => s < A.ss.length ∧ (s = 0 ∨ wayN A.ss (s - 1) < spD A.ss N j)) (fun s => [(9, .int .i64 s)]) [(1, _), (2, _), (4, _), (5, _), (6, _), (8, _), (10, _), (11, _)] (fun s => []) [(2, _), (8, _), (20, _)] (fun s => A.ss.length - s) (i)
       ·try dsimp only
        refine ⟨hi, ?_⟩
        rcases hlo with h | ⟨i0, h1, h2⟩
        · exact .inl h
        · have := spD_mono hok (n := N) (i := i0) (j := j) (by omega) (by omega)
          exact .inr (by omega)
       ·exact (sub_cons rfl sub_nil)
       ·exact (sub_cons rfl (sub_cons rfl (sub_cons rfl (sub_cons rfl (sub_cons rfl (sub_cons rfl (sub_cons rfl (sub_cons rfl sub_nil))))))))
       ·exact subH_nil
       ·exact (subH_same rfl (subH_same rfl (subH_same rfl subH_nil)))
       ·rintro i2 ⟨hi2, hlo2⟩
        intro K22 hK22
        refine wp_seq' fun K23 hK23 => ?_
        refine wp_seq' fun K24 hK24 => ?_
        refine wp_reg ?_
        refine ol_r (r_move rfl) rfl ?_
        refine ol_r (r_move rfl) rfl ?_
        refine ol_ixo (id := 20) encI _ rfl rfl rfl rfl sl47 (by omega) rfl fun x49 hx49 => ?_
        try simp only [Int.toNat_natCast] at hx49
        try simp only [Int.toNat_natCast] at hx49
        refine ol_r (r_ldw rfl (fun w1 hb1 hs1 hB1 => show Loads _ _ _ _ (.int .i64 x49) from ld_own (id := 20) hs1 rfl rfl ty3 hx49)) rfl ?_
        refine ol_r (r_move rfl) rfl ?_
        refine ol_r (r_lss rfl rfl) rfl ?_
        refine ol_nil (to_k0 (fun _ _ h => h) (hK24 _ _ _ _ _ ?_))
        clear hK24
        refine wp_condD rfl (fun hc52 => ?_) (fun hc52 => ?_)
        ·refine wp_skip' (to_k0 (fun _ _ h => h) (hK23 _ _ _ _ _ ?_))
         clear hK23
         refine wp_block' ?_
         refine wp_reg ?_
         refine ol_r (r_move rfl) rfl ?_
         refine ol_r (r_add rfl rfl (by omega)) rfl ?_
         refine ol_r (r_assign rfl) rfl ?_
         refine ol_nil (to_k0 (fun _ _ h => h) (hK22 (i2 + 1) _ _ ?_ ?_ (sub_cons rfl sub_nil) (sub_cons rfl (sub_cons rfl (sub_cons rfl (sub_cons rfl (sub_cons rfl (sub_cons rfl (sub_cons rfl (sub_cons rfl sub_nil)))))))) (by exact subH_nil) (subH_same rfl (subH_same rfl (subH_same rfl subH_nil)))))
         ·try dsimp only
          have h49 := runW_get (k := A.ss.length) hx49
          rw [h49] at hc52
          have hlt : i2 + 1 < A.ss.length := by
            apply Decidable.byContradiction
            intro hn
            have : i2 = A.ss.length - 1 := by omega
            subst this
            omega
          exact ⟨hlt, .inr (by rw [Nat.add_sub_cancel]; exact hc52)⟩
         ·try dsimp only
          omega
        ·refine wp_exit' (to_k0 (fun _ _ h => h) (hK21 _ _ _ _ _ ?_))
         clear hK21
         refine wp_seq' fun K25 hK25 => ?_
         refine wp_reg ?_
         have h49 := runW_get (k := A.ss.length) hx49
         have hdk : spD A.ss N j ≤ wayN A.ss i2 := by rw [← h49]; omega
         have hkk := spK_at hok hi2 hlo2 hdk
         refine ol_r (r_fa (o' := 3) rfl fl29_3 rfl) rfl ?_
         refine ol_r (r_ld (id := 2) rfl rfl rfl sc25) rfl ?_
         refine ol_r (r_move rfl) rfl ?_
         refine ol_ixr hA.s rfl rfl sl25 (by omega) rfl fun x58 hx58 => ?_
         try simp only [Int.toNat_natCast] at hx58
         refine ol_r (r_ldw rfl (fun w1 hb1 hs1 hB1 => Rd.loads hA.s ty73 hx58 hb1)) rfl ?_
         refine ol_call rfl rfl cb39 rfl (fun w1 hb1 hs1 hB1 => Calls.mono (ref5_point _ _) ?_)
         rintro e w2 ⟨rfl, hb2⟩
         refine After.below rfl hb1 hs1 hB1 hb2 ?_
         clear hb2 hB1 hs1 hb1 w2 w1
         refine ol_alloc 12 z62 rfl fun b12 => ?_
         refine ol_store (id := 12) rfl rfl rfl rfl sz62 rfl rfl (by first | decide | exact Nat.zero_lt_succ _ | simp) ?_
         refine ol_nil (to_k0 (fun _ _ h => h) (hK25 _ _ _ _ _ ?_))
         clear hK25
         refine wp_seq' fun K26 hK26 => ?_
         refine wp_seq' fun K27 hK27 => ?_
         refine wp_reg ?_
         refine ol_r (r_move rfl) rfl ?_
         refine ol_r (r_move rfl) rfl ?_
         refine ol_ixo (id := 20) encI _ rfl rfl rfl rfl sl47 (by omega) rfl fun x63 hx63 => ?_
         try simp only [Int.toNat_natCast] at hx63
         try simp only [Int.toNat_natCast] at hx63
         refine ol_r (r_ldw rfl (fun w1 hb1 hs1 hB1 => show Loads _ _ _ _ (.int .i64 x63) from ld_own (id := 20) hs1 rfl rfl ty3 hx63)) rfl ?_
         refine ol_r (r_move rfl) rfl ?_
         have e63 := runW_get (k := A.ss.length) hx63
         subst e63
         refine ol_r (r_gtr rfl rfl) rfl ?_
         refine ol_nil (to_k0 (fun _ _ h => h) (hK27 _ _ _ _ _ ?_))
         clear hK27
         refine wp_condD rfl (fun hc66 => ?_) (fun hc66 => ?_)
         ·refine wp_seq' fun K28 hK28 => ?_
          refine wp_reg ?_
          have hne : wayN A.ss i2 ≠ spD A.ss N j := by omega
          have hk0 : 0 < i2 := by
            rcases Nat.eq_zero_or_pos i2 with h | h
            · subst h; rw [wayN_zero] at hne hdk; exact absurd (by omega) hne
            · exact h
          have hlow : wayN A.ss (i2 - 1) < spD A.ss N j := by
            rcases hlo2 with h | h
            · omega
            · exact h
          refine ol_r (r_lda (id := 12) (n := 2) rfl rfl rfl ag62) rfl ?_
          refine ol_alloc 13 z62 rfl fun b13 => ?_
          refine ol_store (id := 13) rfl rfl rfl rfl sz62 rfl rfl (by first | decide | exact Nat.zero_lt_succ _ | simp) ?_
          refine ol_nil (to_k0 (fun _ _ h => h) (hK28 _ _ _ _ _ ?_))
          clear hK28
          refine wp_seq' fun K29 hK29 => ?_
          refine wp_reg ?_
          refine ol_r (r_fa (o' := 3) rfl fl29_3 rfl) rfl ?_
          refine ol_r (r_ld (id := 2) rfl rfl rfl sc25) rfl ?_
          refine ol_r (r_move rfl) rfl ?_
          refine ol_r (r_sub rfl rfl (by omega)) rfl ?_
          refine ol_ixr hA.s rfl rfl sl25 (by omega) rfl fun x72 hx72 => ?_
          try simp only [Int.toNat_natCast] at hx72
          refine ol_r (r_ldw rfl (fun w1 hb1 hs1 hB1 => Rd.loads hA.s ty73 hx72 hb1)) rfl ?_
          have hx72' := hx72
          rw [show ((i2 : Int) - 1).toNat = i2 - 1 by omega] at hx72'
          obtain ⟨a1, a2, a3⟩ := sp_args hok hx58 hx72' hk0 hlow (by omega)
          obtain ⟨p1, p2⟩ := hok.place (List.mem_of_getElem? hx58)
          obtain ⟨p3, p4⟩ := hok.place (List.mem_of_getElem? hx72')
          have bx := sp_prod (a := x58.x - x72.x) (by omega) a1
          have by_ := sp_prod (a := x58.y - x72.y) (by omega) a1
          have nx := nearV_bd (a := x58.x - x72.x) a1.1 a2.1 a3
          have ny := nearV_bd (a := x58.y - x72.y) a1.1 a2.1 a3
          refine ol_call rfl rfl cb39 rfl (fun w1 hb1 hs1 hB1 => Calls.mono (ref5_point _ _) ?_)
          rintro e w2 ⟨rfl, hb2⟩
          refine After.below rfl hb1 hs1 hB1 hb2 ?_
          clear hb2 hB1 hs1 hb1 w2 w1
          refine ol_store (id := 12) rfl rfl rfl rfl sz62 rfl rfl (by first | decide | exact Nat.zero_lt_succ _ | simp) ?_
          refine ol_nil (to_k0 (fun _ _ h => h) (hK29 _ _ _ _ _ ?_))
          clear hK29
          refine wp_seq' fun K30 hK30 => ?_
          refine wp_regq (by kernel_rfl) (by kernel_rfl) ?_
          refine ql_r (r_fa (o' := 0) rfl fl62_0 rfl) rfl ?_
          refine ql_r (r_ld (id := 13) rfl rfl rfl sc3) rfl ?_
          refine ql_r (r_fa (o' := 0) rfl fl62_0 rfl) rfl ?_
          refine ql_r (r_ld (id := 12) rfl rfl rfl sc3) rfl ?_
          refine ql_r (r_sub rfl rfl (by omega)) rfl ?_
          refine ql_r (r_move rfl) rfl ?_
          refine ql_r (r_move rfl) rfl ?_
          refine ql_r (r_move rfl) rfl ?_
          refine ql_r (r_sub rfl rfl (by omega)) rfl ?_
          refine ql_ixo (id := 20) encI _ rfl rfl rfl rfl sl47 (by omega) (by omega) rfl fun x85 hx85 => ?_
          try simp only [Int.toNat_natCast] at hx85
          try simp only [Int.toNat_natCast] at hx85
          refine ql_r (r_ldw rfl (fun w1 hb1 hs1 hB1 => show Loads _ _ _ _ (.int .i64 x85) from ld_own (id := 20) hs1 rfl rfl ty3 hx85)) rfl ?_
          have e85 := runW_get (k := A.ss.length) hx85
          rw [show ((i2 : Int) - 1).toNat = i2 - 1 by omega] at e85
          subst e85
          refine ql_r (r_sub rfl rfl (by omega)) rfl ?_
          refine ql_r (r_move rfl) rfl ?_
          refine ql_r (r_move rfl) rfl ?_
          refine ql_ixo (id := 20) encI _ rfl rfl rfl rfl sl47 (by omega) (by omega) rfl fun x90 hx90 => ?_
          try simp only [Int.toNat_natCast] at hx90
          try simp only [Int.toNat_natCast] at hx90
          refine ql_r (r_ldw rfl (fun w1 hb1 hs1 hB1 => show Loads _ _ _ _ (.int .i64 x90) from ld_own (id := 20) hs1 rfl rfl ty3 hx90)) rfl ?_
          have e90 := runW_get (k := A.ss.length) hx90
          subst e90
          refine ql_r (r_move rfl) rfl ?_
          refine ql_r (r_move rfl) rfl ?_
          refine ql_r (r_sub rfl rfl (by omega)) rfl ?_
          refine ql_ixo (id := 20) encI _ rfl rfl rfl rfl sl47 (by omega) (by omega) rfl fun x95 hx95 => ?_
          try simp only [Int.toNat_natCast] at hx95
          try simp only [Int.toNat_natCast] at hx95
          refine ql_r (r_ldw rfl (fun w1 hb1 hs1 hB1 => show Loads _ _ _ _ (.int .i64 x95) from ld_own (id := 20) hs1 rfl rfl ty3 hx95)) rfl ?_
          have e95 := runW_get (k := A.ss.length) hx95
          rw [show ((i2 : Int) - 1).toNat = i2 - 1 by omega] at e95
          subst e95
          refine ql_r (r_sub rfl rfl (by omega)) rfl ?_
          refine ql_call rfl rfl cb41 rfl (fun w1 hb1 hs1 hB1 => ref1_ScaleNear (x58.x - x72.x) (spD A.ss N j - wayN A.ss (i2 - 1)) (wayN A.ss i2 - wayN A.ss (i2 - 1)) _ (by omega) (by omega) (by omega) bx.1 bx.2) ?_
          refine ql_r (r_move rfl) rfl ?_
          refine ql_r (r_extract rfl rfl) rfl ?_
          refine ql_r (r_extract rfl rfl) rfl ?_
          refine ql_r (r_assign rfl) rfl ?_
          refine ql_r (r_assign rfl) rfl ?_
          refine ql_nil (to_k0 (fun _ _ h => h) (hK30 _ _ _ _ _ ?_))
          clear hK30
          refine wp_seq' fun K31 hK31 => ?_
          refine wp_regq (by kernel_rfl) (by kernel_rfl) ?_
          refine ql_r (r_fa (o' := 1) rfl fl62_1 rfl) rfl ?_
          refine ql_r (r_ld (id := 13) rfl rfl rfl sc3) rfl ?_
          refine ql_r (r_fa (o' := 1) rfl fl62_1 rfl) rfl ?_
          refine ql_r (r_ld (id := 12) rfl rfl rfl sc3) rfl ?_
          refine ql_r (r_sub rfl rfl (by omega)) rfl ?_
          refine ql_r (r_move rfl) rfl ?_
          refine ql_r (r_move rfl) rfl ?_
          refine ql_r (r_move rfl) rfl ?_
          refine ql_r (r_sub rfl rfl (by omega)) rfl ?_
          refine ql_ixo (id := 20) encI _ rfl rfl rfl rfl sl47 (by omega) (by omega) rfl fun x111 hx111 => ?_
          try simp only [Int.toNat_natCast] at hx111
          try simp only [Int.toNat_natCast] at hx111
          refine ql_r (r_ldw rfl (fun w1 hb1 hs1 hB1 => show Loads _ _ _ _ (.int .i64 x111) from ld_own (id := 20) hs1 rfl rfl ty3 hx111)) rfl ?_
          have e111 := runW_get (k := A.ss.length) hx111
          rw [show ((i2 : Int) - 1).toNat = i2 - 1 by omega] at e111
          subst e111
          refine ql_r (r_sub rfl rfl (by omega)) rfl ?_
          refine ql_r (r_move rfl) rfl ?_
          refine ql_r (r_move rfl) rfl ?_
          refine ql_ixo (id := 20) encI _ rfl rfl rfl rfl sl47 (by omega) (by omega) rfl fun x116 hx116 => ?_
          try simp only [Int.toNat_natCast] at hx116
          try simp only [Int.toNat_natCast] at hx116
          refine ql_r (r_ldw rfl (fun w1 hb1 hs1 hB1 => show Loads _ _ _ _ (.int .i64 x116) from ld_own (id := 20) hs1 rfl rfl ty3 hx116)) rfl ?_
          have e116 := runW_get (k := A.ss.length) hx116
          subst e116
          refine ql_r (r_move rfl) rfl ?_
          refine ql_r (r_move rfl) rfl ?_
          refine ql_r (r_sub rfl rfl (by omega)) rfl ?_
          refine ql_ixo (id := 20) encI _ rfl rfl rfl rfl sl47 (by omega) (by omega) rfl fun x121 hx121 => ?_
          try simp only [Int.toNat_natCast] at hx121
          try simp only [Int.toNat_natCast] at hx121
          refine ql_r (r_ldw rfl (fun w1 hb1 hs1 hB1 => show Loads _ _ _ _ (.int .i64 x121) from ld_own (id := 20) hs1 rfl rfl ty3 hx121)) rfl ?_
          have e121 := runW_get (k := A.ss.length) hx121
          rw [show ((i2 : Int) - 1).toNat = i2 - 1 by omega] at e121
          subst e121
          refine ql_r (r_sub rfl rfl (by omega)) rfl ?_
          refine ql_call rfl rfl cb41 rfl (fun w1 hb1 hs1 hB1 => ref1_ScaleNear (x58.y - x72.y) (spD A.ss N j - wayN A.ss (i2 - 1)) (wayN A.ss i2 - wayN A.ss (i2 - 1)) _ (by omega) (by omega) (by omega) by_.1 by_.2) ?_
          refine ql_r (r_move rfl) rfl ?_
          refine ql_r (r_extract rfl rfl) rfl ?_
          refine ql_r (r_extract rfl rfl) rfl ?_
          refine ql_r (r_assign rfl) rfl ?_
          refine ql_r (r_assign rfl) rfl ?_
          refine ql_nil (to_k0 (fun _ _ h => h) (hK31 _ _ _ _ _ ?_))
          clear hK31
          refine wp_reg ?_
          refine ol_r (r_fa (o' := 0) rfl fl62_0 rfl) rfl ?_
          refine ol_r (r_ld (id := 12) rfl rfl rfl sc3) rfl ?_
          refine ol_r (r_move rfl) rfl ?_
          refine ol_r (r_add rfl rfl (by omega)) rfl ?_
          refine ol_r (r_fa (o' := 1) rfl fl62_1 rfl) rfl ?_
          refine ol_r (r_ld (id := 12) rfl rfl rfl sc3) rfl ?_
          refine ol_r (r_move rfl) rfl ?_
          refine ol_r (r_add rfl rfl (by omega)) rfl ?_
          refine ol_r (r_build rfl (fun _ => bd62_0_1 _ _ _)) rfl ?_
          refine ol_store (id := 12) rfl rfl rfl rfl sz62 rfl rfl (by first | decide | exact Nat.zero_lt_succ _ | simp) ?_
          refine ol_nil (to_k0 (fun _ _ h => h) (hK26 _ _ _ _ _ ?_))
          clear hK26
          refine wp_reg ?_
          first
            | (have hne : wayN A.ss i2 ≠ spD A.ss N j := by omega
               skip)
            | (have hex : wayN A.ss i2 = spD A.ss N j := by omega
               skip)
          refine ol_r (r_move rfl) rfl ?_
          refine ol_r (r_lda (id := 12) (n := 2) rfl rfl rfl ag62) rfl ?_
          refine ol_bs1 138 rfl rfl rw57 rfl rfl rfl fun a138 => ?_
          refine ol_append1 (id := 8) (id2 := 138) rfl rfl rfl rfl rfl rw57 (by omega) rfl fun a139 c139 => ?_
          refine ol_r (r_assign rfl) rfl ?_
          refine ol_nil (to_k0 (fun _ _ h => h) (hK19 _ _ _ _ _ ?_))
          clear hK19
          refine wp_reg ?_
          refine ol_r (r_move rfl) rfl ?_
          refine ol_r (r_add rfl rfl (by omega)) rfl ?_
          first
            | (have h0 : ¬chkA A.d ≠ 0 := by rw [waysR_snd] at hc24; exact hc24
               have hin : inB n 2 300 = true := by simpa using hc27
               have hnn := inB_iff.1 hin
               have hw : waysR A.d = (wayL A.ss, 0) := waysR_0 h0
               have hok : SmpOk A.start A.ss := (goodA (Decidable.not_not.1 h0)).smp
               have hl : A.ss.length = n20 := by rw [← wayL_len]; rw [hw] at hl20; exact hl20
               clear hl20
               rw [hw]
               dsimp only
               have hwl := wayL_len A.ss
               obtain ⟨N, rfl⟩ := Int.eq_ofNat_of_zero_le (show 0 ≤ n by omega))
            | skip
          refine ol_r (r_assign rfl) rfl ?_
          refine ol_nil (to_k0 (fun _ _ h => h) (hK16 ((j + 1, i2, _, _, _)) _ _ ?_ ?_ (sub_cons rfl (sub_cons rfl (sub_cons rfl sub_nil))) (sub_cons rfl (sub_cons rfl (sub_cons rfl (sub_cons rfl (sub_cons rfl sub_nil))))) (by exact (subH_row rfl (by dsimp only; first | (rw [spL_succ, spPt_on hkk hx58 hex, Enc.enc_append]; rfl) | (rw [spL_succ, spPt_off hkk hx58 hx72' hne, Enc.enc_append]; rfl)) subH_nil)) (subH_same rfl (subH_same rfl subH_nil))))
          ·try dsimp only
           refine ⟨by omega, by omega, hi2, ?_⟩
           rcases hlo2 with h | h
           · exact .inl h
           · exact .inr ⟨j, by omega, h⟩
          ·try dsimp only
           omega
         ·refine wp_skip' (to_k0 (fun _ _ h => h) (hK26 _ _ _ _ _ ?_))
          clear hK26
          refine wp_reg ?_
          first
            | (have hne : wayN A.ss i2 ≠ spD A.ss N j := by omega
               skip)
            | (have hex : wayN A.ss i2 = spD A.ss N j := by omega
               skip)
          refine ol_r (r_move rfl) rfl ?_
          refine ol_r (r_lda (id := 12) (n := 2) rfl rfl rfl ag62) rfl ?_
          refine ol_bs1 138 rfl rfl rw57 rfl rfl rfl fun a138 => ?_
          refine ol_append1 (id := 8) (id2 := 138) rfl rfl rfl rfl rfl rw57 (by omega) rfl fun a139 c139 => ?_
          refine ol_r (r_assign rfl) rfl ?_
          refine ol_nil (to_k0 (fun _ _ h => h) (hK19 _ _ _ _ _ ?_))
          clear hK19
          refine wp_reg ?_
          refine ol_r (r_move rfl) rfl ?_
          refine ol_r (r_add rfl rfl (by omega)) rfl ?_
          first
            | (have h0 : ¬chkA A.d ≠ 0 := by rw [waysR_snd] at hc24; exact hc24
               have hin : inB n 2 300 = true := by simpa using hc27
               have hnn := inB_iff.1 hin
               have hw : waysR A.d = (wayL A.ss, 0) := waysR_0 h0
               have hok : SmpOk A.start A.ss := (goodA (Decidable.not_not.1 h0)).smp
               have hl : A.ss.length = n20 := by rw [← wayL_len]; rw [hw] at hl20; exact hl20
               clear hl20
               rw [hw]
               dsimp only
               have hwl := wayL_len A.ss
               obtain ⟨N, rfl⟩ := Int.eq_ofNat_of_zero_le (show 0 ≤ n by omega))
            | skip
          refine ol_r (r_assign rfl) rfl ?_
          refine ol_nil (to_k0 (fun _ _ h => h) (hK16 ((j + 1, i2, _, _, _)) _ _ ?_ ?_ (sub_cons rfl (sub_cons rfl (sub_cons rfl sub_nil))) (sub_cons rfl (sub_cons rfl (sub_cons rfl (sub_cons rfl (sub_cons rfl sub_nil))))) (by exact (subH_row rfl (by first | (dsimp only; first | (rw [spL_succ, spPt_on hkk hx58 hex, Enc.enc_append]; rfl) | (rw [spL_succ, spPt_off hkk hx58 hx72' hne, Enc.enc_append]; rfl); done) | (first | (rw [spL_succ, spPt_on hkk hx58 hex, Enc.enc_append]; rfl) | (rw [spL_succ, spPt_off hkk hx58 hx72' hne, Enc.enc_append]; rfl); done) | (dsimp only; done)) subH_nil)) (subH_same rfl (subH_same rfl subH_nil))))
          ·try dsimp only
           refine ⟨by omega, by omega, hi2, ?_⟩
           rcases hlo2 with h | h
           · exact .inl h
           · exact .inr ⟨j, by omega, h⟩
          ·try dsimp only
           omega
      ·refine wp_exit' (to_k0 (fun _ _ h => h) (hK14 _ _ _ _ _ ?_))
       clear hK14
       refine wp_seq' fun K32 hK32 => ?_
       refine wp_reg ?_
       refine ol_r (r_move rfl) rfl ?_
       refine ol_r (r_assign rfl) rfl ?_
       refine ol_r (r_assign rfl) rfl ?_
       refine ol_nil (to_k0 (fun _ _ h => h) (hK32 _ _ _ _ _ ?_))
       clear hK32
       refine hQ.ret (rvs2 (rv_t rfl) (rv_t rfl)) (fun _ _ h => h) fun w hb hs hB hkd => ?_
       have h9 := spR_0 h0 hin (by show ¬A.ss.length = 0; omega)
       obtain rfl : j = N := by omega
       rw [h9, Int.toNat_natCast]
       exact ⟨_, _, _, rfl, hb, hs.ok 8 _ rfl⟩
theorem equal_pt_same (a b : Option Addr) (n c1 c2 : Nat) (xs : List PtR) (w : World) (hx : Rd encPoint w.heap.size w a n c1 xs) (hy : Rd encPoint w.heap.size w b n c2 xs) :
    Calls Try.prog 34 #[.slice a n c1, .slice b n c2] w fun e w' => e = .returned (.bool true) ∧ Below w.heap.size w w' := by
  have hn := hx.len
  have hfit := hx.fit
  refine enterQ (N := 26) (C := fun _ => True) (H := []) (B := w.heap.size) (args := [_, _]) Try.func34 rfl rfl rfl (Nat.le_refl _) (Sat.nil _ _) fun Q hQ => ?_
  refine wp_seq' fun K1 hK1 => ?_
  refine wp_reg ?_
  refine ol_r (r_assign rfl) rfl ?_
  refine ol_nil (to_k0 (fun _ _ h => h) (hK1 _ _ _ _ _ ?_))
  clear hK1
  refine wp_seq' fun K2 hK2 => ?_
  refine wp_seq' fun K3 hK3 => ?_
  refine wp_reg ?_
  refine ol_r (r_move rfl) rfl ?_
  refine ol_r (r_len rfl sl57) rfl ?_
  refine ol_r (r_move rfl) rfl ?_
  refine ol_r (r_len rfl sl57) rfl ?_
  refine ol_r (r_neq rfl rfl) rfl ?_
  refine ol_nil (to_k0 (fun _ _ h => h) (hK3 _ _ _ _ _ ?_))
  clear hK3
  refine wp_condD rfl (fun hc10 => ?_) (fun hc10 => ?_)
  ·exfalso
   exact hc10 rfl
  ·refine wp_skip' (to_k0 (fun _ _ h => h) (hK2 _ _ _ _ _ ?_))
   clear hK2
   refine wp_seq' fun K4 hK4 => ?_
   refine wp_seq' fun K5 hK5 => ?_
   refine wp_reg ?_
   refine ol_r (r_move rfl) rfl ?_
   refine ol_r (r_len rfl sl57) rfl ?_
   refine ol_r (r_move rfl) rfl ?_
   refine ol_nil (to_k0 (fun _ _ h => h) (hK5 _ _ _ _ _ ?_))
   clear hK5
   refine wp_block' ?_
   apply wp_loopM (σ := Nat) (fun s => s ≤ n) (fun s => [(13, .int .i64 s)]) [(0, _), (1, _), (12, _)] (fun s => []) [] (fun s => n - s) (0)
   ·try dsimp only
    exact Nat.zero_le _
   ·exact (sub_cons rfl sub_nil)
   ·exact (sub_cons rfl (sub_cons rfl (sub_cons rfl sub_nil)))
   ·exact subH_nil
   ·exact subH_nil
   ·rintro k hk
    intro K6 hK6
    refine wp_seq' fun K7 hK7 => ?_
    refine wp_reg ?_
    refine ol_r (r_lss rfl rfl) rfl ?_
    refine ol_nil (to_k0 (fun _ _ h => h) (hK7 _ _ _ _ _ ?_))
    clear hK7
    refine wp_seq' fun K8 hK8 => ?_
    refine wp_condD rfl (fun hc14 => ?_) (fun hc14 => ?_)
    ·refine wp_skip' (to_k0 (fun _ _ h => h) (hK8 _ _ _ _ _ ?_))
     clear hK8
     refine wp_seq' fun K9 hK9 => ?_
     refine wp_block' ?_
     refine wp_seq' fun K10 hK10 => ?_
     refine wp_reg ?_
     refine ol_r (r_move rfl) rfl ?_
     refine ol_r (r_assign rfl) rfl ?_
     refine ol_nil (to_k0 (fun _ _ h => h) (hK10 _ _ _ _ _ ?_))
     clear hK10
     refine wp_seq' fun K11 hK11 => ?_
     refine wp_regq (by kernel_rfl) (by kernel_rfl) ?_
     refine ql_r (r_move rfl) rfl ?_
     refine ql_r (r_move rfl) rfl ?_
     refine ql_ixr hx rfl rfl sl57 (by omega) rfl fun x18 hx18 => ?_
     try simp only [Int.toNat_natCast] at hx18
     refine ql_r (r_ldw rfl (fun w1 hb1 hs1 hB1 => Rd.loads hx ty62 hx18 hb1)) rfl ?_
     refine ql_r (r_move rfl) rfl ?_
     refine ql_r (r_move rfl) rfl ?_
     refine ql_ixr hy rfl rfl sl57 (by omega) rfl fun x22 hx22 => ?_
     try simp only [Int.toNat_natCast] at hx22
     obtain rfl : x18 = x22 := Option.some.inj (hx18.symm.trans hx22)
     refine ql_r (r_ldw rfl (fun w1 hb1 hs1 hB1 => Rd.loads hy ty62 hx22 hb1)) rfl ?_
     refine ql_r (r_nes rfl rfl (by kernel_rfl) (fun w => run_eqs (by kernel_rfl) (by kernel_rfl) w)) rfl ?_
     refine ql_nil (to_k0 (fun _ _ h => h) (hK11 _ _ _ _ _ ?_))
     clear hK11
     refine wp_condNB rfl (fun hc24 => ?_) (fun hc24 => ?_)
     ·refine wp_seq' fun K12 hK12 => ?_
      refine wp_reg ?_
      refine ol_r (r_assign rfl) rfl ?_
      refine ol_nil (to_k0 (fun _ _ h => h) (hK12 _ _ _ _ _ ?_))
      clear hK12
      refine hQ.ret (rvs1 (rv_t rfl)) (fun _ _ h => h) fun w hb hs hB hkd => ?_
      first
        | (exfalso; simp [eqs, eqV] at hc24; done)
     ·refine wp_skip' (to_k0 (fun _ _ h => h) (hK9 _ _ _ _ _ ?_))
      clear hK9
      refine wp_reg ?_
      refine ol_r (r_add rfl rfl (by omega)) rfl ?_
      refine ol_r (r_move rfl) rfl ?_
      refine ol_nil (to_k0 (fun _ _ h => h) (hK6 (k + 1) _ _ ?_ ?_ (sub_cons rfl sub_nil) (sub_cons rfl (sub_cons rfl (sub_cons rfl sub_nil))) (by exact subH_nil) subH_nil))
      ·try dsimp only
       omega
      ·try dsimp only
       omega
    ·refine wp_exit' (to_k0 (fun _ _ h => h) (hK4 _ _ _ _ _ ?_))
     clear hK4
     refine wp_seq' fun K13 hK13 => ?_
     refine wp_reg ?_
     refine ol_r (r_assign rfl) rfl ?_
     refine ol_nil (to_k0 (fun _ _ h => h) (hK13 _ _ _ _ _ ?_))
     clear hK13
     refine hQ.ret (rvs1 (rv_t rfl)) (fun _ _ h => h) fun w hb hs hB hkd => ?_
     first
       | exact ⟨rfl, hb⟩
theorem law_routes (A : ActV) (n : Int) (a : Option Addr) (k c1 : Nat) (xs : List PtR) (b : Option Addr) (m c2 : Nat) (ys : List PtR) (w : World) (hA : A.Ok w.heap.size w) (hx : Rd encPoint w.heap.size w a k c1 xs) (hy : Rd encPoint w.heap.size w b m c2 ys) :
    Calls Try.prog 8 #[.agg #[.string A.name, .int .i64 A.sport, .int .i64 A.start, .slice A.sa A.sn A.sc, .slice A.la A.ln A.lc, .slice A.ta A.tn A.tc], .int .i64 n, .slice a k c1, .slice b m c2] w fun e w' => e = .returned (.bool true) ∧ Below w.heap.size w w' := by
  refine enterQ (N := 62) (C := fun _ => True) (H := []) (B := w.heap.size) (args := [_, _, _, _]) Try.func8 rfl rfl rfl (Nat.le_refl _) (Sat.nil _ _) fun Q hQ => ?_
  refine wp_seq' fun K1 hK1 => ?_
  refine wp_reg ?_
  refine ol_box 4 rfl rfl rfl fun b4 => ?_
  refine ol_r (r_assign rfl) rfl ?_
  refine ol_nil (to_k0 (fun _ _ h => h) (hK1 _ _ _ _ _ ?_))
  clear hK1
  refine wp_seq' fun K2 hK2 => ?_
  refine wp_reg ?_
  refine ol_r (r_lda (id := 4) (n := 6) rfl rfl rfl ag29) rfl ?_
  refine ol_r (r_move rfl) rfl ?_
  refine ol_call rfl rfl cb31 rfl (fun w1 hb1 hs1 hB1 => Calls.mono (match_Spaced A n _ (hA.at hb1 hB1)) ?_)
  rintro e w2 ⟨a20, n20, c20, rfl, hf20⟩
  refine After.fresh (id := 20) rfl hb1 hs1 hB1 hf20 ?_
  have hl20 := hf20.len; clear hf20 hB1 hs1 hb1 w2 w1
  refine ol_r (r_move rfl) rfl ?_
  refine ol_r (r_extract rfl rfl) rfl ?_
  refine ol_r (r_extract rfl rfl) rfl ?_
  refine ol_r (r_assign rfl) rfl ?_
  refine ol_r (r_assign rfl) rfl ?_
  refine ol_nil (to_k0 (fun _ _ h => h) (hK2 _ _ _ _ _ ?_))
  clear hK2
  refine wp_seq' fun K3 hK3 => ?_
  refine wp_reg ?_
  refine ol_r (r_lda (id := 4) (n := 6) rfl rfl rfl ag29) rfl ?_
  refine ol_r (r_move rfl) rfl ?_
  refine ol_call rfl rfl cb32 rfl (fun w1 hb1 hs1 hB1 => Calls.mono (ref5_Spaced A n _ (hA.at hb1 hB1)) ?_)
  rintro e w2 ⟨a26, n26, c26, rfl, hf26⟩
  refine After.fresh (id := 26) rfl hb1 hs1 hB1 hf26 ?_
  have hl26 := hf26.len; clear hf26 hB1 hs1 hb1 w2 w1
  refine ol_r (r_move rfl) rfl ?_
  refine ol_r (r_extract rfl rfl) rfl ?_
  refine ol_r (r_extract rfl rfl) rfl ?_
  refine ol_r (r_assign rfl) rfl ?_
  refine ol_r (r_assign rfl) rfl ?_
  refine ol_nil (to_k0 (fun _ _ h => h) (hK3 _ _ _ _ _ ?_))
  clear hK3
  refine wp_seq' fun K4 hK4 => ?_
  refine wp_reg ?_
  refine ol_r (r_move rfl) rfl ?_
  refine ol_r (r_move rfl) rfl ?_
  refine ol_call rfl rfl cb27 rfl (fun w1 hb1 hs1 hB1 => Calls.mono (match_Apart _ _ _ _ _ _ xs ys _ (hx.at hb1 hB1) (hy.at hb1 hB1)) ?_)
  rintro e w2 ⟨rfl, hb2⟩
  refine After.below rfl hb1 hs1 hB1 hb2 ?_
  clear hb2 hB1 hs1 hb1 w2 w1
  refine ol_r (r_move rfl) rfl ?_
  refine ol_r (r_extract rfl rfl) rfl ?_
  refine ol_r (r_extract rfl rfl) rfl ?_
  refine ol_r (r_assign rfl) rfl ?_
  refine ol_r (r_assign rfl) rfl ?_
  refine ol_nil (to_k0 (fun _ _ h => h) (hK4 _ _ _ _ _ ?_))
  clear hK4
  refine wp_seq' fun K5 hK5 => ?_
  refine wp_reg ?_
  refine ol_r (r_move rfl) rfl ?_
  refine ol_r (r_move rfl) rfl ?_
  refine ol_call rfl rfl cb33 rfl (fun w1 hb1 hs1 hB1 => Calls.mono (ref5_Apart _ _ _ _ _ _ xs ys _ (hx.at hb1 hB1) (hy.at hb1 hB1)) ?_)
  rintro e w2 ⟨rfl, hb2⟩
  refine After.below rfl hb1 hs1 hB1 hb2 ?_
  clear hb2 hB1 hs1 hb1 w2 w1
  refine ol_r (r_move rfl) rfl ?_
  refine ol_r (r_extract rfl rfl) rfl ?_
  refine ol_r (r_extract rfl rfl) rfl ?_
  refine ol_r (r_assign rfl) rfl ?_
  refine ol_r (r_assign rfl) rfl ?_
  refine ol_nil (to_k0 (fun _ _ h => h) (hK5 _ _ _ _ _ ?_))
  clear hK5
  refine wp_seq' fun K6 hK6 => ?_
  refine wp_reg ?_
  obtain rfl : n20 = n26 := by rw [← hl20, ← hl26]
  refine ol_r (r_move rfl) rfl ?_
  refine ol_r (r_move rfl) rfl ?_
  refine ol_call rfl rfl cb34 rfl (fun w1 hb1 hs1 hB1 => Calls.mono (equal_pt_same _ _ _ _ _ _ _ (Sat.rd hs1 (id := 20) rfl rfl) (Sat.rd hs1 (id := 26) rfl rfl)) ?_)
  rintro e w2 ⟨rfl, hb2⟩
  refine After.below rfl hb1 hs1 hB1 hb2 ?_
  clear hb2 hB1 hs1 hb1 w2 w1
  refine ol_r (r_move rfl) rfl ?_
  refine ol_split (d := 44) rfl (fun hs44 => ?_) (fun hs44 => ?_)
  ·have phs44 := hs44; try simp only [decide_eq_true_eq, decide_eq_false_iff_not, Bool.not_eq_true', Bool.not_eq_false', Bool.not_true, Bool.not_false] at phs44
   refine ol_g rfl rfl hs44 ?_
   refine ol_r (r_move rfl) rfl ?_
   refine ol_g rfl rfl hs44 ?_
   refine ol_r (r_move rfl) rfl ?_
   refine ol_g rfl rfl hs44 ?_
   refine ol_r (r_eql rfl rfl) rfl ?_
   refine ol_r (r_pickT rfl hs44 rfl) rfl ?_
   refine ol_r (r_move rfl) rfl ?_
   refine ol_split (d := 49) rfl (fun hs49 => ?_) (fun hs49 => ?_)
   ·have phs49 := hs49; try simp only [decide_eq_true_eq, decide_eq_false_iff_not, Bool.not_eq_true', Bool.not_eq_false', Bool.not_true, Bool.not_false] at phs49
    refine ol_g rfl rfl hs49 ?_
    refine ol_r (r_move rfl) rfl ?_
    refine ol_g rfl rfl hs49 ?_
    refine ol_r (r_move rfl) rfl ?_
    refine ol_g rfl rfl hs49 ?_
    refine ol_r (r_eql rfl rfl) rfl ?_
    refine ol_r (r_pickT rfl hs49 rfl) rfl ?_
    refine ol_r (r_move rfl) rfl ?_
    refine ol_split (d := 54) rfl (fun hs54 => ?_) (fun hs54 => ?_)
    ·have phs54 := hs54; try simp only [decide_eq_true_eq, decide_eq_false_iff_not, Bool.not_eq_true', Bool.not_eq_false', Bool.not_true, Bool.not_false] at phs54
     refine ol_g rfl rfl hs54 ?_
     refine ol_r (r_move rfl) rfl ?_
     refine ol_g rfl rfl hs54 ?_
     refine ol_r (r_move rfl) rfl ?_
     refine ol_g rfl rfl hs54 ?_
     refine ol_r (r_eql rfl rfl) rfl ?_
     refine ol_r (r_pickT rfl hs54 rfl) rfl ?_
     refine ol_r (r_move rfl) rfl ?_
     refine ol_split (d := 59) rfl (fun hs59 => ?_) (fun hs59 => ?_)
     ·have phs59 := hs59; try simp only [decide_eq_true_eq, decide_eq_false_iff_not, Bool.not_eq_true', Bool.not_eq_false', Bool.not_true, Bool.not_false] at phs59
      refine ol_g rfl rfl hs59 ?_
      refine ol_call rfl rfl cb12 rfl (fun w1 hb1 hs1 hB1 => Calls.mono (law5_told _) ?_)
      rintro e w2 ⟨rfl, hb2⟩
      refine After.below rfl hb1 hs1 hB1 hb2 ?_
      clear hb2 hB1 hs1 hb1 w2 w1
      refine ol_r (r_pickT rfl hs59 rfl) rfl ?_
      refine ol_r (r_assign rfl) rfl ?_
      refine ol_nil (to_k0 (fun _ _ h => h) (hK6 _ _ _ _ _ ?_))
      clear hK6
      refine hQ.ret (rvs1 (rv_t rfl)) (fun _ _ h => h) fun w hb hs hB hkd => ?_
      first
        | exact ⟨rfl, hb⟩
     ·have phs59 := hs59; try simp only [decide_eq_true_eq, decide_eq_false_iff_not, Bool.not_eq_true', Bool.not_eq_false', Bool.not_true, Bool.not_false] at phs59
      refine ol_s rfl rfl hs59 rfl ?_
      refine ol_r (r_pickF rfl hs59 rfl) rfl ?_
      refine ol_r (r_assign rfl) rfl ?_
      refine ol_nil (to_k0 (fun _ _ h => h) (hK6 _ _ _ _ _ ?_))
      clear hK6
      refine hQ.ret (rvs1 (rv_t rfl)) (fun _ _ h => h) fun w hb hs hB hkd => ?_
      first
        | (exfalso; simp at hs59; done)
    ·have phs54 := hs54; try simp only [decide_eq_true_eq, decide_eq_false_iff_not, Bool.not_eq_true', Bool.not_eq_false', Bool.not_true, Bool.not_false] at phs54
     refine ol_s rfl rfl hs54 rfl ?_
     refine ol_s rfl rfl hs54 rfl ?_
     refine ol_s rfl rfl hs54 rfl ?_
     refine ol_r (r_pickF rfl hs54 rfl) rfl ?_
     refine ol_r (r_move rfl) rfl ?_
     refine ol_s rfl rfl rfl rfl ?_
     refine ol_r (r_pickF rfl rfl rfl) rfl ?_
     refine ol_r (r_assign rfl) rfl ?_
     refine ol_nil (to_k0 (fun _ _ h => h) (hK6 _ _ _ _ _ ?_))
     clear hK6
     refine hQ.ret (rvs1 (rv_t rfl)) (fun _ _ h => h) fun w hb hs hB hkd => ?_
     first
       | (exfalso; simp at hs54; done)
   ·have phs49 := hs49; try simp only [decide_eq_true_eq, decide_eq_false_iff_not, Bool.not_eq_true', Bool.not_eq_false', Bool.not_true, Bool.not_false] at phs49
    refine ol_s rfl rfl hs49 rfl ?_
    refine ol_s rfl rfl hs49 rfl ?_
    refine ol_s rfl rfl hs49 rfl ?_
    refine ol_r (r_pickF rfl hs49 rfl) rfl ?_
    refine ol_r (r_move rfl) rfl ?_
    refine ol_s rfl rfl rfl rfl ?_
    refine ol_s rfl rfl rfl rfl ?_
    refine ol_s rfl rfl rfl rfl ?_
    refine ol_r (r_pickF rfl rfl rfl) rfl ?_
    refine ol_r (r_move rfl) rfl ?_
    refine ol_s rfl rfl rfl rfl ?_
    refine ol_r (r_pickF rfl rfl rfl) rfl ?_
    refine ol_r (r_assign rfl) rfl ?_
    refine ol_nil (to_k0 (fun _ _ h => h) (hK6 _ _ _ _ _ ?_))
    clear hK6
    refine hQ.ret (rvs1 (rv_t rfl)) (fun _ _ h => h) fun w hb hs hB hkd => ?_
    first
      | (exfalso; simp at hs49; done)
  ·have phs44 := hs44; try simp only [decide_eq_true_eq, decide_eq_false_iff_not, Bool.not_eq_true', Bool.not_eq_false', Bool.not_true, Bool.not_false] at phs44
   refine ol_s rfl rfl hs44 rfl ?_
   refine ol_s rfl rfl hs44 rfl ?_
   refine ol_s rfl rfl hs44 rfl ?_
   refine ol_r (r_pickF rfl hs44 rfl) rfl ?_
   refine ol_r (r_move rfl) rfl ?_
   refine ol_s rfl rfl rfl rfl ?_
   refine ol_s rfl rfl rfl rfl ?_
   refine ol_s rfl rfl rfl rfl ?_
   refine ol_r (r_pickF rfl rfl rfl) rfl ?_
   refine ol_r (r_move rfl) rfl ?_
   refine ol_s rfl rfl rfl rfl ?_
   refine ol_s rfl rfl rfl rfl ?_
   refine ol_s rfl rfl rfl rfl ?_
   refine ol_r (r_pickF rfl rfl rfl) rfl ?_
   refine ol_r (r_move rfl) rfl ?_
   refine ol_s rfl rfl rfl rfl ?_
   refine ol_r (r_pickF rfl rfl rfl) rfl ?_
   refine ol_r (r_assign rfl) rfl ?_
   refine ol_nil (to_k0 (fun _ _ h => h) (hK6 _ _ _ _ _ ?_))
   clear hK6
   refine hQ.ret (rvs1 (rv_t rfl)) (fun _ _ h => h) fun w hb hs hB hkd => ?_
   first
     | (exfalso; simp at hs44; done)
end Go.Proofs.Ytbbhcffkleplnaa
