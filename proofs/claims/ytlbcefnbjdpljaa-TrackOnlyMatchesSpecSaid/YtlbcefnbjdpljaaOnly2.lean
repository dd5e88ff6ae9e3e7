/-
  Only: the reference; Same.
-/
import Derived.Test.YtlbcefnbjdpljaaOnlyM
import Derived.Test.YtlbcefnbjdpljaaHill
import Derived.Test.YtlbcefnbjdpljaaOnly
namespace Go.Proofs.Ytlbcefnbjdpljaa
open Go Go.RowKit Hx
set_option linter.unusedVariables false
set_option linter.unusedSimpArgs false
set_option maxRecDepth 8000
theorem ref3_Only (A : ActV) (a : Option Addr) (n c : Nat) (l : List Int) (w : World) (hA : A.Ok w.heap.size w) (hl : Rd encI w.heap.size w a n c l) :
    Calls Try.prog 29 #[.agg #[.string A.name, .int .i64 A.sport, .int .i64 A.start, .slice A.sa A.sn A.sc, .slice A.la A.ln A.lc, .slice A.ta A.tn A.tc], .slice a n c] w fun e w' => OutA w.heap.size w' (onlyR A.d l) e ∧ Below w.heap.size w w' := by
  have hsn := hA.s.len
  have hsf := hA.s.fit
  have hln := hl.len
  have hlf := hl.fit
  refine enterQ (N := 71) (C := fun _ => True) (H := []) (B := w.heap.size) (args := [_, _]) Try.func29 rfl rfl rfl (Nat.le_refl _) (Sat.nil _ _) fun Q hQ => ?_
  refine wp_seq' fun K1 hK1 => ?_
  refine wp_reg ?_
  refine ol_box 2 rfl rfl rfl fun b2 => ?_
  refine ol_alloc 4 z26 rfl fun b4 => ?_
  refine ol_r (r_assign rfl) rfl ?_
  refine ol_nil (to_k0 (fun _ _ h => h) (hK1 _ _ _ _ _ ?_))
  clear hK1
  refine wp_seq' fun K2 hK2 => ?_
  refine wp_seq' fun K3 hK3 => ?_
  refine wp_reg ?_
  refine ol_r (r_lda (id := 2) (n := 6) rfl rfl rfl ag26) rfl ?_
  refine ol_call rfl rfl cb40 rfl (fun w1 hb1 hs1 hB1 => Calls.mono (ref2_Check A _ (hA.at hb1 hB1)) ?_)
  rintro e w2 ⟨rfl, hb2⟩
  refine After.below rfl hb1 hs1 hB1 hb2 ?_
  clear hb2 hB1 hs1 hb1 w2 w1
  refine ol_r (r_assign rfl) rfl ?_
  refine ol_nil (to_k0 (fun _ _ h => h) (hK3 _ _ _ _ _ ?_))
  clear hK3
  refine wp_seq' fun K4 hK4 => ?_
  refine wp_reg ?_
  refine ol_r (r_move rfl) rfl ?_
  refine ol_r (r_neq rfl rfl) rfl ?_
  refine ol_nil (to_k0 (fun _ _ h => h) (hK4 _ _ _ _ _ ?_))
  clear hK4
  first | refine wp_condD rfl (fun hc15 => ?_) (fun hc15 => ?_) | refine wp_condN rfl (fun hc15 => ?_) (fun hc15 => ?_) | refine wp_condNB rfl (fun hc15 => ?_) (fun hc15 => ?_) | refine wp_cond' rfl (fun hc15 => ?_) (fun hc15 => ?_)
  ·refine wp_seq' fun K5 hK5 => ?_
   refine wp_reg ?_
   refine ol_r (r_build rfl (fun _ => bd26 _)) rfl ?_
   refine ol_r (r_move rfl) rfl ?_
   refine ol_store (id := 4) rfl rfl rfl rfl sz26 rfl rfl (by first | decide | exact Nat.zero_lt_succ _ | simp) ?_
   refine ol_r (r_assign rfl) rfl ?_
   refine ol_nil (to_k0 (fun _ _ h => h) (hK5 _ _ _ _ _ ?_))
   clear hK5
   refine hQ.ret (rvs2 (rv_c (id := 4) (n := 6) rfl rfl ag26 rfl) (rv_t rfl)) (fun _ _ h => h) fun w hb hs hB hkd => ?_
   exact ⟨outA_no (onlyR_e hc15), hb⟩
  ·refine wp_skip' (to_k0 (fun _ _ h => h) (hK2 _ _ _ _ _ ?_))
   clear hK2
   refine wp_seq' fun K6 hK6 => ?_
   refine wp_seq' fun K7 hK7 => ?_
   refine wp_reg ?_
   have h0 : chkA A.d = 0 := Decidable.not_not.1 hc15
   have hg := goodA h0
   have hok : SmpOk A.start A.ss := hg.smp
   have hl20 := hok.len
   refine ol_r (r_assign rfl) rfl ?_
   refine ol_nil (to_k0 (fun _ _ h => h) (hK7 _ _ _ _ _ ?_))
   clear hK7
   refine wp_block' ?_
   apply wp_loopM (σ := Nat) (fun s => s + 1 ≤ l.length + 1 ∧ ∀ (i : Nat) (x y : Int), i < s → l[i]? = some x → l[i + 1]? = some y → x < y) (fun s => [(7, .int .i64 (s + 1))]) [(1, _), (2, _), (4, _)] (fun s => []) [(2, _), (4, _)] (fun s => l.length - s) (0)
   ·try dsimp only
    exact ⟨by omega, fun i x y h => absurd h (by omega)⟩
   ·exact (sub_cons rfl sub_nil)
   ·exact (sub_cons rfl (sub_cons rfl (sub_cons rfl sub_nil)))
   ·exact subH_nil
   ·exact (subH_same rfl (subH_same rfl subH_nil))
   ·rintro k ⟨hk, hR⟩
    intro K8 hK8
    refine wp_seq' fun K9 hK9 => ?_
    refine wp_seq' fun K10 hK10 => ?_
    refine wp_reg ?_
    refine ol_r (r_move rfl) rfl ?_
    refine ol_r (r_move rfl) rfl ?_
    refine ol_r (r_len rfl sl34) rfl ?_
    refine ol_r (r_lss rfl rfl) rfl ?_
    refine ol_nil (to_k0 (fun _ _ h => h) (hK10 _ _ _ _ _ ?_))
    clear hK10
    first | refine wp_condD rfl (fun hc21 => ?_) (fun hc21 => ?_) | refine wp_condN rfl (fun hc21 => ?_) (fun hc21 => ?_) | refine wp_condNB rfl (fun hc21 => ?_) (fun hc21 => ?_) | refine wp_cond' rfl (fun hc21 => ?_) (fun hc21 => ?_)
    ·refine wp_skip' (to_k0 (fun _ _ h => h) (hK9 _ _ _ _ _ ?_))
     clear hK9
     refine wp_seq' fun K11 hK11 => ?_
     refine wp_block' ?_
     refine wp_seq' fun K12 hK12 => ?_
     refine wp_regq (by kernel_rfl) (by kernel_rfl) ?_
     refine ql_r (r_move rfl) rfl ?_
     refine ql_r (r_move rfl) rfl ?_
     refine ql_ixr hl rfl rfl sl34 (by omega) rfl fun x26 hx26 => ?_
     try simp only [Int.toNat_natCast] at hx26
     refine ql_r (r_ldw rfl (fun w1 hb1 hs1 hB1 => show Loads _ _ _ _ (.int .i64 x26) from Rd.loads hl ty3 hx26 hb1)) rfl ?_
     refine ql_r (r_move rfl) rfl ?_
     refine ql_r (r_move rfl) rfl ?_
     refine ql_r (r_sub rfl rfl (by omega)) rfl ?_
     refine ql_ixr hl rfl rfl sl34 (by omega) rfl fun x31 hx31 => ?_
     try simp only [Int.toNat_natCast] at hx31
     refine ql_r (r_ldw rfl (fun w1 hb1 hs1 hB1 => show Loads _ _ _ _ (.int .i64 x31) from Rd.loads hl ty3 hx31 hb1)) rfl ?_
     refine ql_r (r_leq rfl rfl) rfl ?_
     refine ql_nil (to_k0 (fun _ _ h => h) (hK12 _ _ _ _ _ ?_))
     clear hK12
     first | refine wp_condD rfl (fun hc33 => ?_) (fun hc33 => ?_) | refine wp_condN rfl (fun hc33 => ?_) (fun hc33 => ?_) | refine wp_condNB rfl (fun hc33 => ?_) (fun hc33 => ?_) | refine wp_cond' rfl (fun hc33 => ?_) (fun hc33 => ?_)
     ·refine wp_seq' fun K13 hK13 => ?_
      refine wp_reg ?_
      refine ol_r (r_build rfl (fun _ => bd26 _)) rfl ?_
      refine ol_store (id := 4) rfl rfl rfl rfl sz26 rfl rfl (by first | decide | exact Nat.zero_lt_succ _ | simp) ?_
      refine ol_r (r_assign rfl) rfl ?_
      refine ol_nil (to_k0 (fun _ _ h => h) (hK13 _ _ _ _ _ ?_))
      clear hK13
      refine hQ.ret (rvs2 (rv_c (id := 4) (n := 6) rfl rfl ag26 rfl) (rv_t rfl)) (fun _ _ h => h) fun w hb hs hB hkd => ?_
      have e1 : ((k : Int) + 1).toNat = k + 1 := by omega
      have e2 : ((k : Int) + 1 - 1).toNat = k := by omega
      rw [e1] at hx26
      rw [e2] at hx31
      exact ⟨outA_no (onlyR_10 h0 (fun h => by have := h k _ _ hx31 hx26; omega)), hb⟩
     ·refine wp_skip' (to_k0 (fun _ _ h => h) (hK11 _ _ _ _ _ ?_))
      clear hK11
      refine wp_reg ?_
      refine ol_r (r_move rfl) rfl ?_
      refine ol_r (r_add rfl rfl (by omega)) rfl ?_
      have h0 : chkA A.d = 0 := Decidable.not_not.1 hc15
      have hg := goodA h0
      have hok : SmpOk A.start A.ss := hg.smp
      have hl20 := hok.len
      refine ol_r (r_assign rfl) rfl ?_
      refine ol_nil (to_k0 (fun _ _ h => h) (hK8 (k + 1) _ _ ?_ ?_ (sub_cons rfl sub_nil) (sub_cons rfl (sub_cons rfl (sub_cons rfl sub_nil))) (by exact subH_nil) (subH_same rfl (subH_same rfl subH_nil))))
      ·try dsimp only
       refine ⟨by omega, fun i x y h hx hy => ?_⟩
       by_cases hik : i < k
       · exact hR i x y hik hx hy
       · have : i = k := by omega
         subst this
         have e1 : ((i : Int) + 1).toNat = i + 1 := by omega
         have e2 : ((i : Int) + 1 - 1).toNat = i := by omega
         rw [e1] at hx26
         rw [e2] at hx31
         rw [hx26] at hy
         rw [hx31] at hx
         cases hx
         cases hy
         omega
      ·try dsimp only
       omega
    ·refine wp_exit' (to_k0 (fun _ _ h => h) (hK6 _ _ _ _ _ ?_))
     clear hK6
     refine wp_seq' fun K14 hK14 => ?_
     refine wp_reg ?_
     have hR2 : RisP l := ris_end hR (by omega)
     refine ol_nilrow 8 36 7 ?_
     refine ol_r (r_assign rfl) rfl ?_
     refine ol_nil (to_k0 (fun _ _ h => h) (hK14 _ _ _ _ _ ?_))
     clear hK14
     refine wp_seq' fun K15 hK15 => ?_
     refine wp_seq' fun K16 hK16 => ?_
     refine wp_reg ?_
     refine ol_r (r_move rfl) rfl ?_
     refine ol_r (r_len rfl sl34) rfl ?_
     refine ol_r (r_move rfl) rfl ?_
     refine ol_nil (to_k0 (fun _ _ h => h) (hK16 _ _ _ _ _ ?_))
     clear hK16
     refine wp_block' ?_
     apply wp_loopM (σ := Nat × Option Addr × Nat) (fun s => s.1 ≤ l.length ∧ (∀ x ∈ l.take s.1, 0 ≤ x ∧ x ≤ (A.ss.length : Int) - 1) ∧ (keptL A.ss (l.take s.1)).length = s.1) (fun s => [(37, .int .i64 s.1), (8, .slice s.2.1 s.1 s.2.2)]) [(2, _), (4, _), (35, _), (36, _)] (fun s => [(8, .row s.2.1 s.1 s.2.2 (encSmp.enc (keptL A.ss (l.take s.1))) 36 7)]) [(2, _), (4, _)] (fun s => l.length - s.1) ((0, none, 0))
     ·try dsimp only
      exact ⟨Nat.zero_le _, fun x hx => by simp at hx, rfl⟩
     ·exact (sub_cons rfl (sub_cons rfl sub_nil))
     ·exact (sub_cons rfl (sub_cons rfl (sub_cons rfl (sub_cons rfl sub_nil))))
     ·exact (subH_row rfl (by first | (dsimp only; rfl; done) | (rfl; done) | (dsimp only; done)) subH_nil)
     ·exact (subH_same rfl (subH_same rfl subH_nil))
     ·rintro ⟨k, oa, oc⟩ ⟨hk, hP, hkl⟩
      dsimp only at hk hP hkl ⊢
      intro K17 hK17
      refine wp_seq' fun K18 hK18 => ?_
      refine wp_reg ?_
      refine ol_r (r_lss rfl rfl) rfl ?_
      refine ol_nil (to_k0 (fun _ _ h => h) (hK18 _ _ _ _ _ ?_))
      clear hK18
      refine wp_seq' fun K19 hK19 => ?_
      first | refine wp_condD rfl (fun hc38 => ?_) (fun hc38 => ?_) | refine wp_condN rfl (fun hc38 => ?_) (fun hc38 => ?_) | refine wp_condNB rfl (fun hc38 => ?_) (fun hc38 => ?_) | refine wp_cond' rfl (fun hc38 => ?_) (fun hc38 => ?_)
      ·refine wp_skip' (to_k0 (fun _ _ h => h) (hK19 _ _ _ _ _ ?_))
       clear hK19
       refine wp_seq' fun K20 hK20 => ?_
       refine wp_block' ?_
       refine wp_seq' fun K21 hK21 => ?_
       refine wp_reg ?_
       refine ol_ixr hl rfl rfl sl34 (by omega) rfl fun x39 hx39 => ?_
       try simp only [Int.toNat_natCast] at hx39
       refine ol_r (r_ldw rfl (fun w1 hb1 hs1 hB1 => show Loads _ _ _ _ (.int .i64 x39) from Rd.loads hl ty3 hx39 hb1)) rfl ?_
       refine ol_r (r_assign rfl) rfl ?_
       refine ol_nil (to_k0 (fun _ _ h => h) (hK21 _ _ _ _ _ ?_))
       clear hK21
       refine wp_seq' fun K22 hK22 => ?_
       refine wp_seq' fun K23 hK23 => ?_
       refine wp_reg ?_
       refine ol_r (r_move rfl) rfl ?_
       refine ol_r (r_fa (o' := 3) rfl fl26_3 rfl) rfl ?_
       refine ol_r (r_ld (id := 2) rfl rfl rfl sc22) rfl ?_
       refine ol_r (r_len rfl sl22) rfl ?_
       refine ol_r (r_sub rfl rfl (by omega)) rfl ?_
       refine ol_call rfl rfl cb41 rfl (fun w1 hb1 hs1 hB1 => Calls.mono (ref3_outside _ _ _ _) ?_)
       rintro e w2 ⟨rfl, hb2⟩
       refine After.below rfl hb1 hs1 hB1 hb2 ?_
       clear hb2 hB1 hs1 hb1 w2 w1
       refine ol_nil (to_k0 (fun _ _ h => h) (hK23 _ _ _ _ _ ?_))
       clear hK23
       first | refine wp_condD rfl (fun hc46 => ?_) (fun hc46 => ?_) | refine wp_condN rfl (fun hc46 => ?_) (fun hc46 => ?_) | refine wp_condNB rfl (fun hc46 => ?_) (fun hc46 => ?_) | refine wp_cond' rfl (fun hc46 => ?_) (fun hc46 => ?_)
       ·refine wp_seq' fun K24 hK24 => ?_
        refine wp_reg ?_
        refine ol_r (r_build rfl (fun _ => bd26 _)) rfl ?_
        refine ol_store (id := 4) rfl rfl rfl rfl sz26 rfl rfl (by first | decide | exact Nat.zero_lt_succ _ | simp) ?_
        refine ol_r (r_assign rfl) rfl ?_
        refine ol_nil (to_k0 (fun _ _ h => h) (hK24 _ _ _ _ _ ?_))
        clear hK24
        refine hQ.ret (rvs2 (rv_c (id := 4) (n := 6) rfl rfl ag26 rfl) (rv_t rfl)) (fun _ _ h => h) fun w hb hs hB hkd => ?_
        exact ⟨outA_no (onlyR_4 h0 hR2 (fun h => by have := h _ (List.mem_of_getElem? hx39); have h2 := inB_not.1 hc46; dsimp only [ActV.d] at this; omega)), hb⟩
       ·refine wp_skip' (to_k0 (fun _ _ h => h) (hK22 _ _ _ _ _ ?_))
        clear hK22
        refine wp_reg ?_
        refine ol_r (r_move rfl) rfl ?_
        refine ol_r (r_fa (o' := 3) rfl fl26_3 rfl) rfl ?_
        refine ol_r (r_ld (id := 2) rfl rfl rfl sc22) rfl ?_
        refine ol_r (r_move rfl) rfl ?_
        have hin := inB_iff.1 hc46
        have hk3 := ris_len (ris_take k hR2) hP
        rw [List.length_take] at hk3
        refine ol_ixr hA.s rfl rfl sl22 (by omega) rfl fun x52 hx52 => ?_
        try simp only [Int.toNat_natCast] at hx52
        refine ol_r (r_ldw rfl (fun w1 hb1 hs1 hB1 => Rd.loads hA.s ty36 hx52 hb1)) rfl ?_
        refine ol_bs1 54 rfl rfl rw22 rfl rfl rfl fun a54 => ?_
        refine ol_append1 (id := 8) (id2 := 54) rfl rfl rfl rfl rfl rw22 (by omega) rfl fun a55 c55 => ?_
        have hR2 : RisP l := ris_end hR (by omega)
        refine ol_r (r_assign rfl) rfl ?_
        refine ol_nil (to_k0 (fun _ _ h => h) (hK20 _ _ _ _ _ ?_))
        clear hK20
        refine wp_reg ?_
        refine ol_r (r_add rfl rfl (by omega)) rfl ?_
        refine ol_r (r_move rfl) rfl ?_
        refine ol_nil (to_k0 (fun _ _ h => h) (hK17 ((k + 1, _, _)) _ _ ?_ ?_ (sub_cons rfl (sub_cons rfl sub_nil)) (sub_cons rfl (sub_cons rfl (sub_cons rfl (sub_cons rfl sub_nil)))) (by exact (subH_row rfl (by first | (dsimp only; (rw [keptL_succ hx39 hx52, Enc.enc_append]; rfl); done) | ((rw [keptL_succ hx39 hx52, Enc.enc_append]; rfl); done) | (dsimp only; done)) subH_nil)) (subH_same rfl (subH_same rfl subH_nil))))
        ·try dsimp only
         refine ⟨by omega, fun x hx => ?_, by rw [keptL_succ hx39 hx52, List.length_append, hkl]; rfl⟩
         rw [take_succ_get hx39] at hx
         rcases List.mem_append.1 hx with h | h
         · exact hP x h
         · simp at h
           subst h
           have := inB_iff.1 hc46
           omega
        ·try dsimp only
         omega
      ·refine wp_exit' (to_k0 (fun _ _ h => h) (hK15 _ _ _ _ _ ?_))
       clear hK15
       refine wp_seq' fun K25 hK25 => ?_
       refine wp_reg ?_
       refine ol_r (r_assign rfl) rfl ?_
       refine ol_nil (to_k0 (fun _ _ h => h) (hK25 _ _ _ _ _ ?_))
       clear hK25
       refine wp_seq' fun K26 hK26 => ?_
       refine wp_seq' fun K27 hK27 => ?_
       refine wp_reg ?_
       have hkk : k = l.length := by omega
       subst hkk
       rw [List.take_of_length_le (Nat.le_refl _)] at hP hkl
       rw [List.take_of_length_le (Nat.le_refl _)]
       have hlen2 := ris_len hR2 hP
       refine ol_r (r_move rfl) rfl ?_
       refine ol_r (r_len rfl sl22) rfl ?_
       refine ol_r (r_gtr rfl rfl) rfl ?_
       refine ol_nil (to_k0 (fun _ _ h => h) (hK27 _ _ _ _ _ ?_))
       clear hK27
       first | refine wp_condD rfl (fun hc59 => ?_) (fun hc59 => ?_) | refine wp_condN rfl (fun hc59 => ?_) (fun hc59 => ?_) | refine wp_condNB rfl (fun hc59 => ?_) (fun hc59 => ?_) | refine wp_cond' rfl (fun hc59 => ?_) (fun hc59 => ?_)
       ·refine wp_reg ?_
        refine ol_r (r_move rfl) rfl ?_
        refine ol_ixo (id := 8) encSmp _ rfl rfl rfl rfl sl22 (by omega) rfl fun x61 hx61 => ?_
        try simp only [Int.toNat_natCast] at hx61
        try simp only [Int.toNat_natCast] at hx61
        refine ol_r (r_faO (id := 8) rfl rfl rfl hx61 fl36_0) rfl ?_
        have hf := firstAt_eq (l := keptL A.ss l) (x := x61) hx61
        have hfb := hok.bd x61 (kept_in _ (List.mem_of_getElem? hx61))
        refine ol_r (r_ldw rfl (fun w1 hb1 hs1 hB1 => ld_ownF (id := 8) (o := 0) hs1 rfl rfl sc3 hx61 rfl)) rfl ?_
        refine ol_r (r_assign rfl) rfl ?_
        refine ol_nil (to_k0 (fun _ _ h => h) (hK26 _ _ _ _ _ ?_))
        clear hK26
        refine wp_seq' fun K28 hK28 => ?_
        refine wp_reg ?_
        refine ol_r (r_lda (id := 2) (n := 6) rfl rfl rfl ag26) rfl ?_
        refine ol_r (r_move rfl) rfl ?_
        refine ol_r (r_move rfl) rfl ?_
        refine ol_call rfl rfl cb61 rfl (fun w1 hb1 hs1 hB1 => ?_)
        refine Calls.mono (ref3_moved A _ _ _ (keptL A.ss l) _ _ (hA.at hb1 hB1) (Sat.rd hs1 (id := 8) rfl rfl) hg (by omega) (fun x hx => by have := hok.bd x (kept_in x hx); omega) (by omega)) ?_
        rintro e w2 ⟨sa, sn, sc, la, ln, lc, ta, tn, tc, rfl, hb2, hs2⟩
        refine After.more rfl hb1 hs1 hB1 hb2 hs2 ?_
        clear hs2 hb2 hB1 hs1 hb1 w2 w1
        refine ol_call rfl rfl cb60 rfl (fun w1 hb1 hs1 hB1 => ?_)
        refine Calls.mono (ref3_checked ⟨A.name, A.sport, A.start + x61.at_, sa, sn, sc, la, ln, lc, ta, tn, tc, backS x61.at_ (keptL A.ss l), backL x61.at_ (spanL (backS x61.at_ (keptL A.ss l))) A.ls, A.ts⟩ _ ⟨Sat.rd hs1 (id := 1001) rfl rfl, Sat.rd hs1 (id := 1002) rfl rfl, Sat.rd hs1 (id := 1003) rfl rfl, hA.nm, back_lm hA.lm, hA.tm, back_lo (fun x hx => by have := hok.bd x (kept_in x hx); omega) (by omega)⟩) ?_
        rintro e w2 ⟨⟨nm, sp, st, za, zn, zc, ma, mn, mc, ua, un, uc, rfl, hC⟩, hb2⟩
        refine After.below rfl hb1 hs1 hB1 hb2 ?_
        clear hb2 hB1 hs1 hb1 w2 w1
        refine ol_r (r_extract rfl rfl) rfl ?_
        refine ol_r (r_extract rfl rfl) rfl ?_
        refine ol_store (id := 4) rfl rfl rfl rfl sz26 rfl rfl (by first | decide | exact Nat.zero_lt_succ _ | simp) ?_
        refine ol_r (r_assign rfl) rfl ?_
        refine ol_nil (to_k0 (fun _ _ h => h) (hK28 _ _ _ _ _ ?_))
        clear hK28
        refine hQ.ret (rvs2 (rv_c (id := 4) (n := 6) rfl rfl ag26 rfl) (rv_t rfl)) (fun _ _ h => h) fun w hb hs hB hkd => ?_
        have h := onlyR_0 h0 hR2 hP
        change onlyR A.d l = partR A.d (keptL A.ss l) (firstAt (keptL A.ss l)) at h
        rw [hf] at h
        rcases hC with ⟨hne, rfl, rfl, rfl, ⟨rfl, rfl, rfl⟩, ⟨rfl, rfl, rfl⟩, ⟨rfl, rfl, rfl⟩⟩ | ⟨h00, rfl, rfl, rfl, ⟨rfl, rfl, rfl⟩, ⟨rfl, rfl, rfl⟩, ⟨rfl, rfl, rfl⟩⟩
        · have h2 := partR_e (a := A.d) (l := keptL A.ss l) (b := x61.at_) hne
          exact ⟨outA_no (h.trans h2), hb⟩
        · have h2 := partR_0 (a := A.d) (l := keptL A.ss l) (b := x61.at_) (fun h3 => h3 h00)
          refine ⟨?_, hb⟩
          rw [h, h2]
          exact ⟨za, zn, zc, ma, mn, mc, ua, un, uc, by rw [h00]; rfl, hs.three 1001 1002 1003 1001 1002 1003 (by decide) (by decide) (by decide) rfl rfl rfl (Ent.le_refl _) (Ent.le_refl _) (Ent.le_refl _)⟩
       ·refine wp_skip' (to_k0 (fun _ _ h => h) (hK26 _ _ _ _ _ ?_))
        clear hK26
        refine wp_seq' fun K29 hK29 => ?_
        refine wp_reg ?_
        refine ol_r (r_lda (id := 2) (n := 6) rfl rfl rfl ag26) rfl ?_
        refine ol_r (r_move rfl) rfl ?_
        refine ol_r (r_move rfl) rfl ?_
        refine ol_call rfl rfl cb61 rfl (fun w1 hb1 hs1 hB1 => ?_)
        refine Calls.mono (ref3_moved A _ _ _ (keptL A.ss l) _ _ (hA.at hb1 hB1) (Sat.rd hs1 (id := 8) rfl rfl) hg (by omega) (fun x hx => by have := hok.bd x (kept_in x hx); omega) (by omega)) ?_
        rintro e w2 ⟨sa, sn, sc, la, ln, lc, ta, tn, tc, rfl, hb2, hs2⟩
        refine After.more rfl hb1 hs1 hB1 hb2 hs2 ?_
        clear hs2 hb2 hB1 hs1 hb1 w2 w1
        refine ol_call rfl rfl cb60 rfl (fun w1 hb1 hs1 hB1 => ?_)
        refine Calls.mono (ref3_checked ⟨A.name, A.sport, A.start + 0, sa, sn, sc, la, ln, lc, ta, tn, tc, backS 0 (keptL A.ss l), backL 0 (spanL (backS 0 (keptL A.ss l))) A.ls, A.ts⟩ _ ⟨Sat.rd hs1 (id := 1001) rfl rfl, Sat.rd hs1 (id := 1002) rfl rfl, Sat.rd hs1 (id := 1003) rfl rfl, hA.nm, back_lm hA.lm, hA.tm, back_lo (fun x hx => by have := hok.bd x (kept_in x hx); omega) (by omega)⟩) ?_
        rintro e w2 ⟨⟨nm, sp, st, za, zn, zc, ma, mn, mc, ua, un, uc, rfl, hC⟩, hb2⟩
        refine After.below rfl hb1 hs1 hB1 hb2 ?_
        clear hb2 hB1 hs1 hb1 w2 w1
        refine ol_r (r_extract rfl rfl) rfl ?_
        refine ol_r (r_extract rfl rfl) rfl ?_
        refine ol_store (id := 4) rfl rfl rfl rfl sz26 rfl rfl (by first | decide | exact Nat.zero_lt_succ _ | simp) ?_
        refine ol_r (r_assign rfl) rfl ?_
        refine ol_nil (to_k0 (fun _ _ h => h) (hK29 _ _ _ _ _ ?_))
        clear hK29
        refine hQ.ret (rvs2 (rv_c (id := 4) (n := 6) rfl rfl ag26 rfl) (rv_t rfl)) (fun _ _ h => h) fun w hb hs hB hkd => ?_
        have h := onlyR_0 h0 hR2 hP
        change onlyR A.d l = partR A.d (keptL A.ss l) (firstAt (keptL A.ss l)) at h
        rw [firstAt_nil (by omega)] at h
        rcases hC with ⟨hne, rfl, rfl, rfl, ⟨rfl, rfl, rfl⟩, ⟨rfl, rfl, rfl⟩, ⟨rfl, rfl, rfl⟩⟩ | ⟨h00, rfl, rfl, rfl, ⟨rfl, rfl, rfl⟩, ⟨rfl, rfl, rfl⟩, ⟨rfl, rfl, rfl⟩⟩
        · have h2 := partR_e (a := A.d) (l := keptL A.ss l) (b := 0) hne
          exact ⟨outA_no (h.trans h2), hb⟩
        · have h2 := partR_0 (a := A.d) (l := keptL A.ss l) (b := 0) (fun h3 => h3 h00)
          refine ⟨?_, hb⟩
          rw [h, h2]
          exact ⟨za, zn, zc, ma, mn, mc, ua, un, uc, by rw [h00]; rfl, hs.three 1001 1002 1003 1001 1002 1003 (by decide) (by decide) (by decide) rfl rfl rfl (Ent.le_refl _) (Ent.le_refl _) (Ent.le_refl _)⟩
theorem record_Same (D : ActD) (za : Option Addr) (zn zc : Nat) (ma : Option Addr) (mn mc : Nat) (ua : Option Addr) (un uc : Nat) (sa : Option Addr) (sn sc : Nat) (la : Option Addr) (ln lc : Nat) (ta : Option Addr) (tn tc : Nat) (w : World)
    (g1 : Rd encSmp w.heap.size w za zn zc D.ss) (g2 : Rd encLap w.heap.size w ma mn mc D.ls) (g3 : Rd encStr w.heap.size w ua un uc D.ts) (h1 : Rd encSmp w.heap.size w sa sn sc D.ss) (h2 : Rd encLap w.heap.size w la ln lc D.ls) (h3 : Rd encStr w.heap.size w ta tn tc D.ts) :
    Calls Try.prog 30 #[.agg #[.string D.name, .int .i64 D.sport, .int .i64 D.start, .slice za zn zc, .slice ma mn mc, .slice ua un uc], .agg #[.string D.name, .int .i64 D.sport, .int .i64 D.start, .slice sa sn sc, .slice la ln lc, .slice ta tn tc]] w fun e w' => e = .returned (.bool true) ∧ Below w.heap.size w w' := by
  obtain rfl : sn = zn := by rw [← h1.len, ← g1.len]
  obtain rfl : ln = mn := by rw [← h2.len, ← g2.len]
  obtain rfl : tn = un := by rw [← h3.len, ← g3.len]
  refine enterQ (N := 45) (C := fun _ => True) (H := []) (B := w.heap.size) (args := [_, _]) Try.func30 rfl rfl rfl (Nat.le_refl _) (Sat.nil _ _) fun Q hQ => ?_
  refine wp_seq' fun K1 hK1 => ?_
  refine wp_reg ?_
  refine ol_box 2 rfl rfl rfl fun b2 => ?_
  refine ol_box 3 rfl rfl rfl fun b3 => ?_
  refine ol_r (r_assign rfl) rfl ?_
  refine ol_nil (to_k0 (fun _ _ h => h) (hK1 _ _ _ _ _ ?_))
  clear hK1
  refine wp_seq' fun K2 hK2 => ?_
  refine wp_reg ?_
  refine ol_r (r_fa (o' := 0) rfl fl26_0 rfl) rfl ?_
  refine ol_r (r_ld (id := 2) rfl rfl rfl sc9) rfl ?_
  refine ol_r (r_fa (o' := 0) rfl fl26_0 rfl) rfl ?_
  refine ol_r (r_ld (id := 3) rfl rfl rfl sc9) rfl ?_
  refine ol_r (r_seql rfl rfl) rfl ?_
  refine ol_r (r_move rfl) rfl ?_
  refine ol_split (d := 10) rfl (fun hs10 => ?_) (fun hs10 => ?_)
  ·have phs10 := hs10; try simp only [decide_eq_true_eq, decide_eq_false_iff_not, Bool.not_eq_true', Bool.not_eq_false', Bool.not_true, Bool.not_false] at phs10
   refine ol_g rfl rfl hs10 ?_
   refine ol_r (r_fa (o' := 1) rfl fl26_1 rfl) rfl ?_
   refine ol_g rfl rfl hs10 ?_
   refine ol_r (r_ld (id := 2) rfl rfl rfl sc3) rfl ?_
   refine ol_g rfl rfl hs10 ?_
   refine ol_r (r_fa (o' := 1) rfl fl26_1 rfl) rfl ?_
   refine ol_g rfl rfl hs10 ?_
   refine ol_r (r_ld (id := 3) rfl rfl rfl sc3) rfl ?_
   refine ol_g rfl rfl hs10 ?_
   refine ol_r (r_eql rfl rfl) rfl ?_
   refine ol_r (r_pickT rfl hs10 rfl) rfl ?_
   refine ol_r (r_move rfl) rfl ?_
   refine ol_split (d := 17) rfl (fun hs17 => ?_) (fun hs17 => ?_)
   ·have phs17 := hs17; try simp only [decide_eq_true_eq, decide_eq_false_iff_not, Bool.not_eq_true', Bool.not_eq_false', Bool.not_true, Bool.not_false] at phs17
    refine ol_g rfl rfl hs17 ?_
    refine ol_r (r_fa (o' := 2) rfl fl26_2 rfl) rfl ?_
    refine ol_g rfl rfl hs17 ?_
    refine ol_r (r_ld (id := 2) rfl rfl rfl sc3) rfl ?_
    refine ol_g rfl rfl hs17 ?_
    refine ol_r (r_fa (o' := 2) rfl fl26_2 rfl) rfl ?_
    refine ol_g rfl rfl hs17 ?_
    refine ol_r (r_ld (id := 3) rfl rfl rfl sc3) rfl ?_
    refine ol_g rfl rfl hs17 ?_
    refine ol_r (r_eql rfl rfl) rfl ?_
    refine ol_r (r_pickT rfl hs17 rfl) rfl ?_
    refine ol_r (r_move rfl) rfl ?_
    refine ol_split (d := 24) rfl (fun hs24 => ?_) (fun hs24 => ?_)
    ·have phs24 := hs24; try simp only [decide_eq_true_eq, decide_eq_false_iff_not, Bool.not_eq_true', Bool.not_eq_false', Bool.not_true, Bool.not_false] at phs24
     refine ol_g rfl rfl hs24 ?_
     refine ol_r (r_fa (o' := 3) rfl fl26_3 rfl) rfl ?_
     refine ol_g rfl rfl hs24 ?_
     refine ol_r (r_ld (id := 2) rfl rfl rfl sc22) rfl ?_
     refine ol_g rfl rfl hs24 ?_
     refine ol_r (r_fa (o' := 3) rfl fl26_3 rfl) rfl ?_
     refine ol_g rfl rfl hs24 ?_
     refine ol_r (r_ld (id := 3) rfl rfl rfl sc22) rfl ?_
     refine ol_g rfl rfl hs24 ?_
     refine ol_call rfl rfl cb62 rfl (fun w1 hb1 hs1 hB1 => Calls.mono (equal_smp_same _ _ _ _ _ D.ss _ (g1.at hb1 hB1) (h1.at hb1 hB1)) ?_)
     rintro e w2 ⟨rfl, hb2⟩
     refine After.below rfl hb1 hs1 hB1 hb2 ?_
     clear hb2 hB1 hs1 hb1 w2 w1
     refine ol_r (r_pickT rfl hs24 rfl) rfl ?_
     refine ol_r (r_move rfl) rfl ?_
     refine ol_split (d := 31) rfl (fun hs31 => ?_) (fun hs31 => ?_)
     ·have phs31 := hs31; try simp only [decide_eq_true_eq, decide_eq_false_iff_not, Bool.not_eq_true', Bool.not_eq_false', Bool.not_true, Bool.not_false] at phs31
      refine ol_g rfl rfl hs31 ?_
      refine ol_r (r_fa (o' := 4) rfl fl26_4 rfl) rfl ?_
      refine ol_g rfl rfl hs31 ?_
      refine ol_r (r_ld (id := 2) rfl rfl rfl sc23) rfl ?_
      refine ol_g rfl rfl hs31 ?_
      refine ol_r (r_fa (o' := 4) rfl fl26_4 rfl) rfl ?_
      refine ol_g rfl rfl hs31 ?_
      refine ol_r (r_ld (id := 3) rfl rfl rfl sc23) rfl ?_
      refine ol_g rfl rfl hs31 ?_
      refine ol_call rfl rfl cb63 rfl (fun w1 hb1 hs1 hB1 => Calls.mono (equal_lap_same _ _ _ _ _ D.ls _ (g2.at hb1 hB1) (h2.at hb1 hB1)) ?_)
      rintro e w2 ⟨rfl, hb2⟩
      refine After.below rfl hb1 hs1 hB1 hb2 ?_
      clear hb2 hB1 hs1 hb1 w2 w1
      refine ol_r (r_pickT rfl hs31 rfl) rfl ?_
      refine ol_r (r_move rfl) rfl ?_
      refine ol_split (d := 38) rfl (fun hs38 => ?_) (fun hs38 => ?_)
      ·have phs38 := hs38; try simp only [decide_eq_true_eq, decide_eq_false_iff_not, Bool.not_eq_true', Bool.not_eq_false', Bool.not_true, Bool.not_false] at phs38
       refine ol_g rfl rfl hs38 ?_
       refine ol_r (r_fa (o' := 5) rfl fl26_5 rfl) rfl ?_
       refine ol_g rfl rfl hs38 ?_
       refine ol_r (r_ld (id := 2) rfl rfl rfl sc24) rfl ?_
       refine ol_g rfl rfl hs38 ?_
       refine ol_r (r_fa (o' := 5) rfl fl26_5 rfl) rfl ?_
       refine ol_g rfl rfl hs38 ?_
       refine ol_r (r_ld (id := 3) rfl rfl rfl sc24) rfl ?_
       refine ol_g rfl rfl hs38 ?_
       refine ol_call rfl rfl cb64 rfl (fun w1 hb1 hs1 hB1 => Calls.mono (equal_str_same _ _ _ _ _ D.ts _ (g3.at hb1 hB1) (h3.at hb1 hB1)) ?_)
       rintro e w2 ⟨rfl, hb2⟩
       refine After.below rfl hb1 hs1 hB1 hb2 ?_
       clear hb2 hB1 hs1 hb1 w2 w1
       refine ol_r (r_pickT rfl hs38 rfl) rfl ?_
       refine ol_r (r_assign rfl) rfl ?_
       refine ol_nil (to_k0 (fun _ _ h => h) (hK2 _ _ _ _ _ ?_))
       clear hK2
       refine hQ.ret (rvs1 (rv_t rfl)) (fun _ _ h => h) fun w hb hs hB hkd => ?_
       first
         | exact ⟨rfl, hb⟩
         | (exfalso; rw [sEq_refl] at hs10; cases hs10; done)
         | (exfalso; simp at phs17; done)
         | (exfalso; simp at phs24; done)
         | (exfalso; cases hs31; done)
         | (exfalso; cases hs38; done)
      ·have phs38 := hs38; try simp only [decide_eq_true_eq, decide_eq_false_iff_not, Bool.not_eq_true', Bool.not_eq_false', Bool.not_true, Bool.not_false] at phs38
       refine ol_s rfl rfl hs38 rfl ?_
       refine ol_s rfl rfl hs38 rfl ?_
       refine ol_s rfl rfl hs38 rfl ?_
       refine ol_s rfl rfl hs38 rfl ?_
       refine ol_s rfl rfl hs38 rfl ?_
       refine ol_r (r_pickF rfl hs38 rfl) rfl ?_
       refine ol_r (r_assign rfl) rfl ?_
       refine ol_nil (to_k0 (fun _ _ h => h) (hK2 _ _ _ _ _ ?_))
       clear hK2
       refine hQ.ret (rvs1 (rv_t rfl)) (fun _ _ h => h) fun w hb hs hB hkd => ?_
       first
         | exact ⟨rfl, hb⟩
         | (exfalso; rw [sEq_refl] at hs10; cases hs10; done)
         | (exfalso; simp at phs17; done)
         | (exfalso; simp at phs24; done)
         | (exfalso; cases hs31; done)
         | (exfalso; cases hs38; done)
     ·have phs31 := hs31; try simp only [decide_eq_true_eq, decide_eq_false_iff_not, Bool.not_eq_true', Bool.not_eq_false', Bool.not_true, Bool.not_false] at phs31
      refine ol_s rfl rfl hs31 rfl ?_
      refine ol_s rfl rfl hs31 rfl ?_
      refine ol_s rfl rfl hs31 rfl ?_
      refine ol_s rfl rfl hs31 rfl ?_
      refine ol_s rfl rfl hs31 rfl ?_
      refine ol_r (r_pickF rfl hs31 rfl) rfl ?_
      refine ol_r (r_move rfl) rfl ?_
      refine ol_s rfl rfl rfl rfl ?_
      refine ol_s rfl rfl rfl rfl ?_
      refine ol_s rfl rfl rfl rfl ?_
      refine ol_s rfl rfl rfl rfl ?_
      refine ol_s rfl rfl rfl rfl ?_
      refine ol_r (r_pickF rfl rfl rfl) rfl ?_
      refine ol_r (r_assign rfl) rfl ?_
      refine ol_nil (to_k0 (fun _ _ h => h) (hK2 _ _ _ _ _ ?_))
      clear hK2
      refine hQ.ret (rvs1 (rv_t rfl)) (fun _ _ h => h) fun w hb hs hB hkd => ?_
      first
        | exact ⟨rfl, hb⟩
        | (exfalso; rw [sEq_refl] at hs10; cases hs10; done)
        | (exfalso; simp at phs17; done)
        | (exfalso; simp at phs24; done)
        | (exfalso; cases hs31; done)
        | (exfalso; cases hs38; done)
    ·have phs24 := hs24; try simp only [decide_eq_true_eq, decide_eq_false_iff_not, Bool.not_eq_true', Bool.not_eq_false', Bool.not_true, Bool.not_false] at phs24
     refine ol_s rfl rfl hs24 rfl ?_
     refine ol_s rfl rfl hs24 rfl ?_
     refine ol_s rfl rfl hs24 rfl ?_
     refine ol_s rfl rfl hs24 rfl ?_
     refine ol_s rfl rfl hs24 rfl ?_
     refine ol_r (r_pickF rfl hs24 rfl) rfl ?_
     refine ol_r (r_move rfl) rfl ?_
     refine ol_s rfl rfl rfl rfl ?_
     refine ol_s rfl rfl rfl rfl ?_
     refine ol_s rfl rfl rfl rfl ?_
     refine ol_s rfl rfl rfl rfl ?_
     refine ol_s rfl rfl rfl rfl ?_
     refine ol_r (r_pickF rfl rfl rfl) rfl ?_
     refine ol_r (r_move rfl) rfl ?_
     refine ol_s rfl rfl rfl rfl ?_
     refine ol_s rfl rfl rfl rfl ?_
     refine ol_s rfl rfl rfl rfl ?_
     refine ol_s rfl rfl rfl rfl ?_
     refine ol_s rfl rfl rfl rfl ?_
     refine ol_r (r_pickF rfl rfl rfl) rfl ?_
     refine ol_r (r_assign rfl) rfl ?_
     refine ol_nil (to_k0 (fun _ _ h => h) (hK2 _ _ _ _ _ ?_))
     clear hK2
     refine hQ.ret (rvs1 (rv_t rfl)) (fun _ _ h => h) fun w hb hs hB hkd => ?_
     first
       | exact ⟨rfl, hb⟩
       | (exfalso; rw [sEq_refl] at hs10; cases hs10; done)
       | (exfalso; simp at phs17; done)
       | (exfalso; simp at phs24; done)
       | (exfalso; cases hs31; done)
       | (exfalso; cases hs38; done)
   ·have phs17 := hs17; try simp only [decide_eq_true_eq, decide_eq_false_iff_not, Bool.not_eq_true', Bool.not_eq_false', Bool.not_true, Bool.not_false] at phs17
    refine ol_s rfl rfl hs17 rfl ?_
    refine ol_s rfl rfl hs17 rfl ?_
    refine ol_s rfl rfl hs17 rfl ?_
    refine ol_s rfl rfl hs17 rfl ?_
    refine ol_s rfl rfl hs17 rfl ?_
    refine ol_r (r_pickF rfl hs17 rfl) rfl ?_
    refine ol_r (r_move rfl) rfl ?_
    refine ol_s rfl rfl rfl rfl ?_
    refine ol_s rfl rfl rfl rfl ?_
    refine ol_s rfl rfl rfl rfl ?_
    refine ol_s rfl rfl rfl rfl ?_
    refine ol_s rfl rfl rfl rfl ?_
    refine ol_r (r_pickF rfl rfl rfl) rfl ?_
    refine ol_r (r_move rfl) rfl ?_
    refine ol_s rfl rfl rfl rfl ?_
    refine ol_s rfl rfl rfl rfl ?_
    refine ol_s rfl rfl rfl rfl ?_
    refine ol_s rfl rfl rfl rfl ?_
    refine ol_s rfl rfl rfl rfl ?_
    refine ol_r (r_pickF rfl rfl rfl) rfl ?_
    refine ol_r (r_move rfl) rfl ?_
    refine ol_s rfl rfl rfl rfl ?_
    refine ol_s rfl rfl rfl rfl ?_
    refine ol_s rfl rfl rfl rfl ?_
    refine ol_s rfl rfl rfl rfl ?_
    refine ol_s rfl rfl rfl rfl ?_
    refine ol_r (r_pickF rfl rfl rfl) rfl ?_
    refine ol_r (r_assign rfl) rfl ?_
    refine ol_nil (to_k0 (fun _ _ h => h) (hK2 _ _ _ _ _ ?_))
    clear hK2
    refine hQ.ret (rvs1 (rv_t rfl)) (fun _ _ h => h) fun w hb hs hB hkd => ?_
    first
      | exact ⟨rfl, hb⟩
      | (exfalso; rw [sEq_refl] at hs10; cases hs10; done)
      | (exfalso; simp at phs17; done)
      | (exfalso; simp at phs24; done)
      | (exfalso; cases hs31; done)
      | (exfalso; cases hs38; done)
  ·have phs10 := hs10; try simp only [decide_eq_true_eq, decide_eq_false_iff_not, Bool.not_eq_true', Bool.not_eq_false', Bool.not_true, Bool.not_false] at phs10
   refine ol_s rfl rfl hs10 rfl ?_
   refine ol_s rfl rfl hs10 rfl ?_
   refine ol_s rfl rfl hs10 rfl ?_
   refine ol_s rfl rfl hs10 rfl ?_
   refine ol_s rfl rfl hs10 rfl ?_
   refine ol_r (r_pickF rfl hs10 rfl) rfl ?_
   refine ol_r (r_move rfl) rfl ?_
   refine ol_s rfl rfl rfl rfl ?_
   refine ol_s rfl rfl rfl rfl ?_
   refine ol_s rfl rfl rfl rfl ?_
   refine ol_s rfl rfl rfl rfl ?_
   refine ol_s rfl rfl rfl rfl ?_
   refine ol_r (r_pickF rfl rfl rfl) rfl ?_
   refine ol_r (r_move rfl) rfl ?_
   refine ol_s rfl rfl rfl rfl ?_
   refine ol_s rfl rfl rfl rfl ?_
   refine ol_s rfl rfl rfl rfl ?_
   refine ol_s rfl rfl rfl rfl ?_
   refine ol_s rfl rfl rfl rfl ?_
   refine ol_r (r_pickF rfl rfl rfl) rfl ?_
   refine ol_r (r_move rfl) rfl ?_
   refine ol_s rfl rfl rfl rfl ?_
   refine ol_s rfl rfl rfl rfl ?_
   refine ol_s rfl rfl rfl rfl ?_
   refine ol_s rfl rfl rfl rfl ?_
   refine ol_s rfl rfl rfl rfl ?_
   refine ol_r (r_pickF rfl rfl rfl) rfl ?_
   refine ol_r (r_move rfl) rfl ?_
   refine ol_s rfl rfl rfl rfl ?_
   refine ol_s rfl rfl rfl rfl ?_
   refine ol_s rfl rfl rfl rfl ?_
   refine ol_s rfl rfl rfl rfl ?_
   refine ol_s rfl rfl rfl rfl ?_
   refine ol_r (r_pickF rfl rfl rfl) rfl ?_
   refine ol_r (r_assign rfl) rfl ?_
   refine ol_nil (to_k0 (fun _ _ h => h) (hK2 _ _ _ _ _ ?_))
   clear hK2
   refine hQ.ret (rvs1 (rv_t rfl)) (fun _ _ h => h) fun w hb hs hB hkd => ?_
   first
     | exact ⟨rfl, hb⟩
     | (exfalso; rw [sEq_refl] at hs10; cases hs10; done)
     | (exfalso; simp at phs17; done)
     | (exfalso; simp at phs24; done)
     | (exfalso; cases hs31; done)
     | (exfalso; cases hs38; done)
theorem law_only (A : ActV) (la : Option Addr) (ln lc : Nat) (l : List Int) (w : World) (hA : A.Ok w.heap.size w) (hl : Rd encI w.heap.size w la ln lc l) (hsz : A.sn ≤ 2513169434916) :
    Calls Try.prog 9 #[.agg #[.string A.name, .int .i64 A.sport, .int .i64 A.start, .slice A.sa A.sn A.sc, .slice A.la A.ln A.lc, .slice A.ta A.tn A.tc], .slice la ln lc] w fun e w' => e = .returned (.bool true) ∧ Below w.heap.size w w' := by
  have hsn := hA.s.len
  have hsf := hA.s.fit
  refine enterQ (N := 61) (C := fun _ => True) (H := []) (B := w.heap.size) (args := [_, _]) Try.func9 rfl rfl rfl (Nat.le_refl _) (Sat.nil _ _) fun Q hQ => ?_
  refine wp_seq' fun K1 hK1 => ?_
  refine wp_reg ?_
  refine ol_box 2 rfl rfl rfl fun b2 => ?_
  refine ol_r (r_assign rfl) rfl ?_
  refine ol_nil (to_k0 (fun _ _ h => h) (hK1 _ _ _ _ _ ?_))
  clear hK1
  refine wp_seq' fun K2 hK2 => ?_
  refine wp_reg ?_
  refine ol_r (r_lda (id := 2) (n := 6) rfl rfl rfl ag26) rfl ?_
  refine ol_r (r_move rfl) rfl ?_
  refine ol_call rfl rfl cb28 rfl (fun w1 hb1 hs1 hB1 => ?_)
  refine Calls.mono (track_Only A _ _ _ l _ (hA.at hb1 hB1) (hl.at hb1 hB1)) ?_
  rintro e w2 ⟨⟨sa1, sn1, sc1, la1, ln1, lc1, ta1, tn1, tc1, rfl, hs2⟩, hb2⟩
  refine After.more rfl hb1 hs1 hB1 hb2 (hs2.three 1001 1002 1003 1011 1012 1013 (by decide) (by decide) (by decide) rfl rfl rfl (Ent.le_refl _) (Ent.le_refl _) (Ent.le_refl _)) ?_
  clear hs2 hb2 hB1 hs1 hb1 w2 w1
  refine ol_r (r_move rfl) rfl ?_
  refine ol_r (r_extract rfl rfl) rfl ?_
  refine ol_r (r_extract rfl rfl) rfl ?_
  refine ol_alloc 5 z26 rfl fun b5 => ?_
  refine ol_store (id := 5) rfl rfl rfl rfl sz26 rfl rfl (by first | decide | exact Nat.zero_lt_succ _ | simp) ?_
  refine ol_r (r_assign rfl) rfl ?_
  refine ol_nil (to_k0 (fun _ _ h => h) (hK2 _ _ _ _ _ ?_))
  clear hK2
  refine wp_seq' fun K3 hK3 => ?_
  refine wp_reg ?_
  refine ol_r (r_lda (id := 2) (n := 6) rfl rfl rfl ag26) rfl ?_
  refine ol_r (r_move rfl) rfl ?_
  refine ol_call rfl rfl cb29 rfl (fun w1 hb1 hs1 hB1 => ?_)
  refine Calls.mono (ref3_Only A _ _ _ l _ (hA.at hb1 hB1) (hl.at hb1 hB1)) ?_
  rintro e w2 ⟨⟨sa2, sn2, sc2, la2, ln2, lc2, ta2, tn2, tc2, rfl, hs2⟩, hb2⟩
  refine After.more rfl hb1 hs1 hB1 hb2 (hs2.three 1001 1002 1003 1021 1022 1023 (by decide) (by decide) (by decide) rfl rfl rfl (Ent.le_refl _) (Ent.le_refl _) (Ent.le_refl _)) ?_
  clear hs2 hb2 hB1 hs1 hb1 w2 w1
  refine ol_r (r_move rfl) rfl ?_
  refine ol_r (r_extract rfl rfl) rfl ?_
  refine ol_r (r_extract rfl rfl) rfl ?_
  refine ol_alloc 7 z26 rfl fun b7 => ?_
  refine ol_store (id := 7) rfl rfl rfl rfl sz26 rfl rfl (by first | decide | exact Nat.zero_lt_succ _ | simp) ?_
  refine ol_r (r_assign rfl) rfl ?_
  refine ol_nil (to_k0 (fun _ _ h => h) (hK3 _ _ _ _ _ ?_))
  clear hK3
  refine wp_seq' fun K4 hK4 => ?_
  refine wp_seq' fun K5 hK5 => ?_
  refine wp_reg ?_
  refine ol_r (r_lda (id := 5) (n := 6) rfl rfl rfl ag26) rfl ?_
  refine ol_r (r_lda (id := 7) (n := 6) rfl rfl rfl ag26) rfl ?_
  refine ol_call rfl rfl cb30 rfl (fun w1 hb1 hs1 hB1 => Calls.mono (record_Same (onlyR A.d l).1 _ _ _ _ _ _ _ _ _ _ _ _ _ _ _ _ _ _ _ (Sat.rd hs1 (id := 1011) rfl rfl) (Sat.rd hs1 (id := 1012) rfl rfl) (Sat.rd hs1 (id := 1013) rfl rfl) (Sat.rd hs1 (id := 1021) rfl rfl) (Sat.rd hs1 (id := 1022) rfl rfl) (Sat.rd hs1 (id := 1023) rfl rfl)) ?_)
  rintro e w2 ⟨rfl, hb2⟩
  refine After.below rfl hb1 hs1 hB1 hb2 ?_
  clear hb2 hB1 hs1 hb1 w2 w1
  refine ol_r (r_not rfl) rfl ?_
  refine ol_r (r_move rfl) rfl ?_
  refine ol_split (d := 29) rfl (fun hs29 => ?_) (fun hs29 => ?_)
  ·have phs29 := hs29; try simp only [decide_eq_true_eq, decide_eq_false_iff_not, Bool.not_eq_true', Bool.not_eq_false', Bool.not_true, Bool.not_false] at phs29
   refine ol_s rfl rfl hs29 rfl ?_
   refine ol_s rfl rfl hs29 rfl ?_
   refine ol_s rfl rfl hs29 rfl ?_
   refine ol_r (r_pickT rfl hs29 rfl) rfl ?_
   refine ol_nil (to_k0 (fun _ _ h => h) (hK5 _ _ _ _ _ ?_))
   clear hK5
   refine wp_condT rfl ?_
   refine wp_seq' fun K6 hK6 => ?_
   refine wp_reg ?_
   refine ol_r (r_assign rfl) rfl ?_
   refine ol_nil (to_k0 (fun _ _ h => h) (hK6 _ _ _ _ _ ?_))
   clear hK6
   refine hQ.ret (rvs1 (rv_t rfl)) (fun _ _ h => h) fun w hb hs hB hkd => ?_
   first
     | exact ⟨rfl, hb⟩
     | (exfalso; simp at hc33; done)
     | (exfalso; cases hs29; done)
     | (exfalso; cases hs58; done)
  ·have phs29 := hs29; try simp only [decide_eq_true_eq, decide_eq_false_iff_not, Bool.not_eq_true', Bool.not_eq_false', Bool.not_true, Bool.not_false] at phs29
   refine ol_g rfl rfl hs29 ?_
   refine ol_r (r_move rfl) rfl ?_
   refine ol_g rfl rfl hs29 ?_
   refine ol_r (r_move rfl) rfl ?_
   refine ol_g rfl rfl hs29 ?_
   refine ol_r (r_neq rfl rfl) rfl ?_
   refine ol_r (r_pickF rfl hs29 rfl) rfl ?_
   refine ol_nil (to_k0 (fun _ _ h => h) (hK5 _ _ _ _ _ ?_))
   clear hK5
   first | refine wp_condD rfl (fun hc33 => ?_) (fun hc33 => ?_) | refine wp_condN rfl (fun hc33 => ?_) (fun hc33 => ?_) | refine wp_condNB rfl (fun hc33 => ?_) (fun hc33 => ?_) | refine wp_cond' rfl (fun hc33 => ?_) (fun hc33 => ?_)
   ·refine wp_seq' fun K7 hK7 => ?_
    refine wp_reg ?_
    refine ol_r (r_assign rfl) rfl ?_
    refine ol_nil (to_k0 (fun _ _ h => h) (hK7 _ _ _ _ _ ?_))
    clear hK7
    refine hQ.ret (rvs1 (rv_t rfl)) (fun _ _ h => h) fun w hb hs hB hkd => ?_
    first
      | exact ⟨rfl, hb⟩
      | (exfalso; simp at hc33; done)
      | (exfalso; cases hs29; done)
      | (exfalso; cases hs58; done)
   ·refine wp_skip' (to_k0 (fun _ _ h => h) (hK4 _ _ _ _ _ ?_))
    clear hK4
    refine wp_seq' fun K8 hK8 => ?_
    refine wp_reg ?_
    refine ol_nilrow 9 3 1 ?_
    refine ol_r (r_assign rfl) rfl ?_
    refine ol_nil (to_k0 (fun _ _ h => h) (hK8 _ _ _ _ _ ?_))
    clear hK8
    refine wp_seq' fun K9 hK9 => ?_
    refine wp_seq' fun K10 hK10 => ?_
    refine wp_reg ?_
    refine ol_r (r_fa (o' := 3) rfl fl26_3 rfl) rfl ?_
    refine ol_r (r_ld (id := 2) rfl rfl rfl sc22) rfl ?_
    refine ol_r (r_len rfl sl22) rfl ?_
    refine ol_r (r_move rfl) rfl ?_
    refine ol_nil (to_k0 (fun _ _ h => h) (hK10 _ _ _ _ _ ?_))
    clear hK10
    refine wp_block' ?_
    apply wp_loopM (σ := Nat × Option Addr × Nat) (fun s => s.1 ≤ A.ss.length) (fun s => [(37, .int .i64 s.1), (9, .slice s.2.1 s.1 s.2.2)]) [(2, _), (4, _), (36, _)] (fun s => [(9, .row s.2.1 s.1 s.2.2 (encI.enc (allN s.1)) 3 1)]) [(2, _), (5, _), (7, _)] (fun s => A.ss.length - s.1) ((0, none, 0))
    ·try dsimp only
     exact Nat.zero_le _
    ·exact (sub_cons rfl (sub_cons rfl sub_nil))
    ·exact (sub_cons rfl (sub_cons rfl (sub_cons rfl sub_nil)))
    ·exact (subH_row rfl (by first | (dsimp only; rfl; done) | (rfl; done) | (dsimp only; done)) subH_nil)
    ·exact (subH_same rfl (subH_same rfl (subH_same rfl subH_nil)))
    ·rintro ⟨k, oa, oc⟩ hk
     dsimp only at hk ⊢
     intro K11 hK11
     refine wp_seq' fun K12 hK12 => ?_
     refine wp_reg ?_
     refine ol_r (r_lss rfl rfl) rfl ?_
     refine ol_nil (to_k0 (fun _ _ h => h) (hK12 _ _ _ _ _ ?_))
     clear hK12
     refine wp_seq' fun K13 hK13 => ?_
     first | refine wp_condD rfl (fun hc38 => ?_) (fun hc38 => ?_) | refine wp_condN rfl (fun hc38 => ?_) (fun hc38 => ?_) | refine wp_condNB rfl (fun hc38 => ?_) (fun hc38 => ?_) | refine wp_cond' rfl (fun hc38 => ?_) (fun hc38 => ?_)
     ·refine wp_skip' (to_k0 (fun _ _ h => h) (hK13 _ _ _ _ _ ?_))
      clear hK13
      refine wp_seq' fun K14 hK14 => ?_
      refine wp_block' ?_
      refine wp_seq' fun K15 hK15 => ?_
      refine wp_reg ?_
      refine ol_r (r_move rfl) rfl ?_
      refine ol_r (r_assign rfl) rfl ?_
      refine ol_nil (to_k0 (fun _ _ h => h) (hK15 _ _ _ _ _ ?_))
      clear hK15
      refine wp_reg ?_
      refine ol_r (r_move rfl) rfl ?_
      refine ol_r (r_move rfl) rfl ?_
      refine ol_bs1 42 rfl rfl rw34 rfl rfl rfl fun a42 => ?_
      refine ol_append1 (id := 9) (id2 := 42) rfl rfl rfl rfl rfl rw34 (by omega) rfl fun a43 c43 => ?_
      refine ol_r (r_assign rfl) rfl ?_
      refine ol_nil (to_k0 (fun _ _ h => h) (hK14 _ _ _ _ _ ?_))
      clear hK14
      refine wp_reg ?_
      refine ol_r (r_add rfl rfl (by omega)) rfl ?_
      refine ol_r (r_move rfl) rfl ?_
      refine ol_nil (to_k0 (fun _ _ h => h) (hK11 ((k + 1, _, _)) _ _ ?_ ?_ (sub_cons rfl (sub_cons rfl sub_nil)) (sub_cons rfl (sub_cons rfl (sub_cons rfl sub_nil))) (by exact (subH_row rfl (by first | (dsimp only; rw [allN_succ, encI_snoc]; done) | (rw [allN_succ, encI_snoc]; done) | (dsimp only; done)) subH_nil)) (subH_same rfl (subH_same rfl (subH_same rfl subH_nil)))))
      ·try dsimp only
       omega
      ·try dsimp only
       omega
     ·refine wp_exit' (to_k0 (fun _ _ h => h) (hK9 _ _ _ _ _ ?_))
      clear hK9
      refine wp_seq' fun K16 hK16 => ?_
      refine wp_reg ?_
      have hkk : k = A.ss.length := by omega
      subst hkk
      refine ol_r (r_lda (id := 2) (n := 6) rfl rfl rfl ag26) rfl ?_
      refine ol_r (r_move rfl) rfl ?_
      refine ol_call rfl rfl cb28 rfl (fun w1 hb1 hs1 hB1 => ?_)
      refine Calls.mono (track_Only A _ _ _ (allN A.ss.length) _ (hA.at hb1 hB1) (Sat.rd hs1 (E := encI) (id := 9) rfl rfl)) ?_
      rintro e w2 ⟨⟨sa3, sn3, sc3, la3, ln3, lc3, ta3, tn3, tc3, rfl, hs2⟩, hb2⟩
      refine After.more rfl hb1 hs1 hB1 hb2 (hs2.three 1001 1002 1003 1031 1032 1033 (by decide) (by decide) (by decide) rfl rfl rfl (Ent.le_refl _) (Ent.le_refl _) (Ent.le_refl _)) ?_
      clear hs2 hb2 hB1 hs1 hb1 w2 w1
      refine ol_r (r_move rfl) rfl ?_
      refine ol_r (r_extract rfl rfl) rfl ?_
      refine ol_r (r_extract rfl rfl) rfl ?_
      refine ol_alloc 11 z26 rfl fun b11 => ?_
      refine ol_store (id := 11) rfl rfl rfl rfl sz26 rfl rfl (by first | decide | exact Nat.zero_lt_succ _ | simp) ?_
      refine ol_r (r_assign rfl) rfl ?_
      refine ol_nil (to_k0 (fun _ _ h => h) (hK16 _ _ _ _ _ ?_))
      clear hK16
      refine wp_seq' fun K17 hK17 => ?_
      refine wp_reg ?_
      refine ol_r (r_move rfl) rfl ?_
      refine ol_r (r_neq rfl rfl) rfl ?_
      refine ol_r (r_move rfl) rfl ?_
      refine ol_split (d := 53) rfl (fun hs53 => ?_) (fun hs53 => ?_)
      ·have phs53 := hs53; try simp only [decide_eq_true_eq, decide_eq_false_iff_not, Bool.not_eq_true', Bool.not_eq_false', Bool.not_true, Bool.not_false] at phs53
       refine ol_s rfl rfl hs53 rfl ?_
       refine ol_s rfl rfl hs53 rfl ?_
       refine ol_s rfl rfl hs53 rfl ?_
       refine ol_r (r_pickT rfl hs53 rfl) rfl ?_
       refine ol_r (r_move rfl) rfl ?_
       refine ol_g rfl rfl rfl ?_
       refine ol_call rfl rfl cb14 rfl (fun w1 hb1 hs1 hB1 => Calls.mono (law3_told _) ?_)
       rintro e w2 ⟨rfl, hb2⟩
       refine After.below rfl hb1 hs1 hB1 hb2 ?_
       clear hb2 hB1 hs1 hb1 w2 w1
       refine ol_r (r_pickT rfl rfl rfl) rfl ?_
       refine ol_r (r_assign rfl) rfl ?_
       refine ol_nil (to_k0 (fun _ _ h => h) (hK17 _ _ _ _ _ ?_))
       clear hK17
       refine hQ.ret (rvs1 (rv_t rfl)) (fun _ _ h => h) fun w hb hs hB hkd => ?_
       first
         | exact ⟨rfl, hb⟩
         | (exfalso; simp at hc33; done)
         | (exfalso; cases hs29; done)
         | (exfalso; cases hs58; done)
      ·have phs53 := hs53; try simp only [decide_eq_true_eq, decide_eq_false_iff_not, Bool.not_eq_true', Bool.not_eq_false', Bool.not_true, Bool.not_false] at phs53
       refine ol_g rfl rfl hs53 ?_
       have hz : onlyR A.d (allN A.ss.length) = (A.d, 0) := by
         have h1 : (onlyR A.d (allN A.ss.length)).2 = 0 := by simpa using hs53
         have h2 : chkA A.d = 0 := by
           apply Decidable.byContradiction
           intro hne
           rw [onlyR_e hne] at h1
           exact hne h1
         exact only_all h2
       rw [hz] at hs53 ⊢
       refine ol_r (r_lda (id := 2) (n := 6) rfl rfl rfl ag26) rfl ?_
       refine ol_g rfl rfl hs53 ?_
       refine ol_r (r_lda (id := 11) (n := 6) rfl rfl rfl ag26) rfl ?_
       refine ol_g rfl rfl hs53 ?_
       refine ol_call rfl rfl cb30 rfl (fun w1 hb1 hs1 hB1 => Calls.mono (record_Same A.d _ _ _ _ _ _ _ _ _ _ _ _ _ _ _ _ _ _ _ (hA.s.at hb1 hB1) (hA.l.at hb1 hB1) (hA.t.at hb1 hB1) (Sat.rd hs1 (id := 1031) rfl rfl) (Sat.rd hs1 (id := 1032) rfl rfl) (Sat.rd hs1 (id := 1033) rfl rfl)) ?_)
       rintro e w2 ⟨rfl, hb2⟩
       refine After.below rfl hb1 hs1 hB1 hb2 ?_
       clear hb2 hB1 hs1 hb1 w2 w1
       refine ol_r (r_pickF rfl hs53 rfl) rfl ?_
       refine ol_r (r_move rfl) rfl ?_
       refine ol_split (d := 58) rfl (fun hs58 => ?_) (fun hs58 => ?_)
       ·have phs58 := hs58; try simp only [decide_eq_true_eq, decide_eq_false_iff_not, Bool.not_eq_true', Bool.not_eq_false', Bool.not_true, Bool.not_false] at phs58
        refine ol_g rfl rfl hs58 ?_
        refine ol_call rfl rfl cb14 rfl (fun w1 hb1 hs1 hB1 => Calls.mono (law3_told _) ?_)
        rintro e w2 ⟨rfl, hb2⟩
        refine After.below rfl hb1 hs1 hB1 hb2 ?_
        clear hb2 hB1 hs1 hb1 w2 w1
        refine ol_r (r_pickT rfl hs58 rfl) rfl ?_
        refine ol_r (r_assign rfl) rfl ?_
        refine ol_nil (to_k0 (fun _ _ h => h) (hK17 _ _ _ _ _ ?_))
        clear hK17
        refine hQ.ret (rvs1 (rv_t rfl)) (fun _ _ h => h) fun w hb hs hB hkd => ?_
        first
          | exact ⟨rfl, hb⟩
          | (exfalso; simp at hc33; done)
          | (exfalso; cases hs29; done)
          | (exfalso; cases hs58; done)
       ·have phs58 := hs58; try simp only [decide_eq_true_eq, decide_eq_false_iff_not, Bool.not_eq_true', Bool.not_eq_false', Bool.not_true, Bool.not_false] at phs58
        refine ol_s rfl rfl hs58 rfl ?_
        refine ol_r (r_pickF rfl hs58 rfl) rfl ?_
        refine ol_r (r_assign rfl) rfl ?_
        refine ol_nil (to_k0 (fun _ _ h => h) (hK17 _ _ _ _ _ ?_))
        clear hK17
        refine hQ.ret (rvs1 (rv_t rfl)) (fun _ _ h => h) fun w hb hs hB hkd => ?_
        first
          | exact ⟨rfl, hb⟩
          | (exfalso; simp at hc33; done)
          | (exfalso; cases hs29; done)
          | (exfalso; cases hs58; done)
end Go.Proofs.Ytlbcefnbjdpljaa
