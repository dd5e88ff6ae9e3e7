/-
  Only: program and reference.
-/
import Derived.Test.YtogcclagmobkiaaOnlyM
import Derived.Test.YtogcclagmobkiaaPart2
namespace Go.Proofs.Ytogcclagmobkiaa
open Go Go.RowKit Hx
set_option linter.unusedVariables false
set_option linter.unusedSimpArgs false
set_option maxRecDepth 8000
theorem ris_end {l : List Int} {k : Nat} (h : ∀ (i : Nat) (x y : Int), i < k → l[i]? = some x → l[i + 1]? = some y → x < y) (hk : l.length ≤ k + 1) : RisP l := fun i x y hx hy => h i x y (by have := (List.getElem?_eq_some_iff.1 hy).1; omega) hx hy
theorem first_bd {st : Int} {ss l : List SmpR} (h : SmpOk st ss) (hl : ∀ x ∈ l, x ∈ ss) : -1000000000 ≤ firstAt l ∧ firstAt l ≤ 1000000000 := by
  cases hx : l[0]? with
  | none => simp [firstAt, hx]
  | some x =>
    rw [firstAt_eq hx]
    have := h.bd x (hl x (List.mem_of_getElem? hx))
    omega
theorem track_Only (A : ActV) (a : Option Addr) (n c : Nat) (l : List Int) (w : World) (hA : A.Ok w.heap.size w) (hl : Rd encI w.heap.size w a n c l) :
    Calls Try.prog 24 #[.agg #[.string A.name, .int .i64 A.sport, .int .i64 A.start, .slice A.sa A.sn A.sc, .slice A.la A.ln A.lc, .slice A.ta A.tn A.tc], .slice a n c] w fun e w' => OutA w.heap.size w' (onlyR A.d l) e ∧ Below w.heap.size w w' := by
  have hsn := hA.s.len
  have hsf := hA.s.fit
  have hln := hl.len
  have hlf := hl.fit
  refine enterQ (N := 71) (C := fun _ => True) (H := []) (B := w.heap.size) (args := [_, _]) Try.func24 rfl rfl rfl (Nat.le_refl _) (Sat.nil _ _) fun Q hQ => ?_
  refine wp_seq' fun K1 hK1 => ?_
  refine wp_reg ?_
  refine ol_box 2 rfl rfl rfl fun b2 => ?_
  refine ol_alloc 4 z26 rfl fun b4 => ?_
  refine ol_r (r_assign rfl) rfl ?_
  refine ol_nil (to_k0 (fun _ _ h => h) (hK1 _ _ _ _ _ ?_))
  clear hK1
  refine wp_seq' fun K2 hK2 => ?_
  refine wp_seq' fun K3 hK3 => ?_
  refine wp_reg ?_
  refine ol_r (r_lda (id := 2) (n := 6) rfl rfl rfl ag26) rfl ?_
  refine ol_call rfl rfl cb40 rfl (fun w1 hb1 hs1 hB1 => Calls.mono (record_Check A _ (hA.at hb1 hB1)) ?_)
  rintro e w2 ⟨rfl, hb2⟩
  refine After.below rfl hb1 hs1 hB1 hb2 ?_
  clear hb2 hB1 hs1 hb1 w2 w1
  refine ol_r (r_assign rfl) rfl ?_
  refine ol_nil (to_k0 (fun _ _ h => h) (hK3 _ _ _ _ _ ?_))
  clear hK3
  refine wp_seq' fun K4 hK4 => ?_
  refine wp_reg ?_
  refine ol_r (r_move rfl) rfl ?_
  refine ol_r (r_neq rfl rfl) rfl ?_
  refine ol_nil (to_k0 (fun _ _ h => h) (hK4 _ _ _ _ _ ?_))
  clear hK4
  refine wp_condD rfl (fun hc15 => ?_) (fun hc15 => ?_)
  ·refine wp_seq' fun K5 hK5 => ?_
   refine wp_reg ?_
   refine ol_r (r_build rfl (fun _ => bd26 _)) rfl ?_
   refine ol_r (r_move rfl) rfl ?_
   refine ol_store (id := 4) rfl rfl rfl rfl sz26 rfl rfl (by first | decide | exact Nat.zero_lt_succ _ | simp) ?_
   refine ol_r (r_assign rfl) rfl ?_
   refine ol_nil (to_k0 (fun _ _ h => h) (hK5 _ _ _ _ _ ?_))
   clear hK5
   refine hQ.ret (rvs2 (rv_c (id := 4) (n := 6) rfl rfl ag26 rfl) (rv_t rfl)) (fun _ _ h => h) fun w hb hs hB hkd => ?_
   exact ⟨outA_no (onlyR_e hc15), hb⟩
  ·refine wp_skip' (to_k0 (fun _ _ h => h) (hK2 _ _ _ _ _ ?_))
   clear hK2
   refine wp_seq' fun K6 hK6 => ?_
   refine wp_seq' fun K7 hK7 => ?_
   refine wp_reg ?_
   have h0 : chkA A.d = 0 := Decidable.not_not.1 hc15
   have hg := goodA h0
   have hok : SmpOk A.start A.ss := hg.smp
   have hl20 := hok.len
   refine ol_r (r_assign rfl) rfl ?_
   refine ol_nil (to_k0 (fun _ _ h => h) (hK7 _ _ _ _ _ ?_))
   clear hK7
   refine wp_block' ?_
   apply wp_loopM (σ := Nat) (fun s => s + 1 ≤ l.length + 1 ∧ ∀ (i : Nat) (x y : Int), i < s → l[i]? = some x → l[i + 1]? = some y → x < y) (fun s => [(7, .int .i64 (s + 1))]) [(1, _), (2, _), (4, _)] (fun s => []) [(2, _), (4, _)] (fun s => l.length - s) (0)
   ·try dsimp only
    exact ⟨by omega, fun i x y h => absurd h (by omega)⟩
   ·exact (sub_cons rfl sub_nil)
   ·exact (sub_cons rfl (sub_cons rfl (sub_cons rfl sub_nil)))
   ·exact subH_nil
   ·exact (subH_same rfl (subH_same rfl subH_nil))
   ·rintro k ⟨hk, hR⟩
    intro K8 hK8
    refine wp_seq' fun K9 hK9 => ?_
    refine wp_seq' fun K10 hK10 => ?_
    refine wp_reg ?_
    refine ol_r (r_move rfl) rfl ?_
    refine ol_r (r_move rfl) rfl ?_
    refine ol_r (r_len rfl sl37) rfl ?_
    refine ol_r (r_lss rfl rfl) rfl ?_
    refine ol_nil (to_k0 (fun _ _ h => h) (hK10 _ _ _ _ _ ?_))
    clear hK10
    refine wp_condD rfl (fun hc21 => ?_) (fun hc21 => ?_)
    ·refine wp_skip' (to_k0 (fun _ _ h => h) (hK9 _ _ _ _ _ ?_))
     clear hK9
     refine wp_seq' fun K11 hK11 => ?_
     refine wp_block' ?_
     refine wp_seq' fun K12 hK12 => ?_
     refine wp_regq (by kernel_rfl) (by kernel_rfl) ?_
     refine ql_r (r_move rfl) rfl ?_
     refine ql_r (r_move rfl) rfl ?_
     refine ql_ixr hl rfl rfl sl37 (by omega) rfl fun x26 hx26 => ?_
     try simp only [Int.toNat_natCast] at hx26
     refine ql_r (r_ldw rfl (fun w1 hb1 hs1 hB1 => show Loads _ _ _ _ (.int .i64 x26) from Rd.loads hl ty3 hx26 hb1)) rfl ?_
     refine ql_r (r_move rfl) rfl ?_
     refine ql_r (r_move rfl) rfl ?_
     refine ql_r (r_sub rfl rfl (by omega)) rfl ?_
     refine ql_ixr hl rfl rfl sl37 (by omega) rfl fun x31 hx31 => ?_
     try simp only [Int.toNat_natCast] at hx31
     refine ql_r (r_ldw rfl (fun w1 hb1 hs1 hB1 => show Loads _ _ _ _ (.int .i64 x31) from Rd.loads hl ty3 hx31 hb1)) rfl ?_
     refine ql_r (r_leq rfl rfl) rfl ?_
     refine ql_nil (to_k0 (fun _ _ h => h) (hK12 _ _ _ _ _ ?_))
     clear hK12
     refine wp_condD rfl (fun hc33 => ?_) (fun hc33 => ?_)
     ·refine wp_seq' fun K13 hK13 => ?_
      refine wp_reg ?_
      refine ol_r (r_build rfl (fun _ => bd26 _)) rfl ?_
      refine ol_store (id := 4) rfl rfl rfl rfl sz26 rfl rfl (by first | decide | exact Nat.zero_lt_succ _ | simp) ?_
      refine ol_r (r_assign rfl) rfl ?_
      refine ol_nil (to_k0 (fun _ _ h => h) (hK13 _ _ _ _ _ ?_))
      clear hK13
      refine hQ.ret (rvs2 (rv_c (id := 4) (n := 6) rfl rfl ag26 rfl) (rv_t rfl)) (fun _ _ h => h) fun w hb hs hB hkd => ?_
      have e1 : ((k : Int) + 1).toNat = k + 1 := by omega
      have e2 : ((k : Int) + 1 - 1).toNat = k := by omega
      rw [e1] at hx26
      rw [e2] at hx31
      exact ⟨outA_no (onlyR_10 h0 (fun h => by have := h k _ _ hx31 hx26; omega)), hb⟩
     ·refine wp_skip' (to_k0 (fun _ _ h => h) (hK11 _ _ _ _ _ ?_))
      clear hK11
      refine wp_reg ?_
      refine ol_r (r_move rfl) rfl ?_
      refine ol_r (r_add rfl rfl (by omega)) rfl ?_
      have h0 : chkA A.d = 0 := Decidable.not_not.1 hc15
      have hg := goodA h0
      have hok : SmpOk A.start A.ss := hg.smp
      have hl20 := hok.len
      refine ol_r (r_assign rfl) rfl ?_
      refine ol_nil (to_k0 (fun _ _ h => h) (hK8 (k + 1) _ _ ?_ ?_ (sub_cons rfl sub_nil) (sub_cons rfl (sub_cons rfl (sub_cons rfl sub_nil))) (by exact subH_nil) (subH_same rfl (subH_same rfl subH_nil))))
      ·try dsimp only
       refine ⟨by omega, fun i x y h hx hy => ?_⟩
       by_cases hik : i < k
       · exact hR i x y hik hx hy
       · have : i = k := by omega
         subst this
         have e1 : ((i : Int) + 1).toNat = i + 1 := by omega
         have e2 : ((i : Int) + 1 - 1).toNat = i := by omega
         rw [e1] at hx26
         rw [e2] at hx31
         rw [hx26] at hy
         rw [hx31] at hx
         cases hx
         cases hy
         omega
      ·try dsimp only
       omega
    ·refine wp_exit' (to_k0 (fun _ _ h => h) (hK6 _ _ _ _ _ ?_))
     clear hK6
     refine wp_seq' fun K14 hK14 => ?_
     refine wp_reg ?_
     have hR2 : RisP l := ris_end hR (by omega)
     refine ol_nilrow 8 28 7 ?_
     refine ol_r (r_assign rfl) rfl ?_
     refine ol_nil (to_k0 (fun _ _ h => h) (hK14 _ _ _ _ _ ?_))
     clear hK14
     refine wp_seq' fun K15 hK15 => ?_
     refine wp_seq' fun K16 hK16 => ?_
     refine wp_reg ?_
     refine ol_r (r_move rfl) rfl ?_
     refine ol_r (r_len rfl sl37) rfl ?_
     refine ol_r (r_move rfl) rfl ?_
     refine ol_nil (to_k0 (fun _ _ h => h) (hK16 _ _ _ _ _ ?_))
     clear hK16
     refine wp_block' ?_
     apply wp_loopM (σ := Nat × Option Addr × Nat) (fun s => s.1 ≤ l.length ∧ (∀ x ∈ l.take s.1, 0 ≤ x ∧ x ≤ (A.ss.length : Int) - 1) ∧ (keptL A.ss (l.take s.1)).length = s.1) (fun s => [(37, .int .i64 s.1), (8, .slice s.2.1 s.1 s.2.2)]) [(2, _), (4, _), (35, _), (36, _)] (fun s => [(8, .row s.2.1 s.1 s.2.2 (encSmp.enc (keptL A.ss (l.take s.1))) 28 7)]) [(2, _), (4, _)] (fun s => l.length - s.1) ((0, none, 0))
     ·try dsimp only
      exact ⟨Nat.zero_le _, fun x hx => by simp at hx, rfl⟩
     ·exact (sub_cons rfl (sub_cons rfl sub_nil))
     ·exact (sub_cons rfl (sub_cons rfl (sub_cons rfl (sub_cons rfl sub_nil))))
     ·exact (subH_row rfl (by dsimp only; rfl) subH_nil)
     ·exact (subH_same rfl (subH_same rfl subH_nil))
     ·rintro ⟨k, oa, oc⟩ ⟨hk, hP, hkl⟩
      dsimp only at hk hP hkl ⊢
      intro K17 hK17
      refine wp_seq' fun K18 hK18 => ?_
      refine wp_reg ?_
      refine ol_r (r_lss rfl rfl) rfl ?_
      refine ol_nil (to_k0 (fun _ _ h => h) (hK18 _ _ _ _ _ ?_))
      clear hK18
      refine wp_seq' fun K19 hK19 => ?_
      refine wp_condD rfl (fun hc38 => ?_) (fun hc38 => ?_)
      ·refine wp_skip' (to_k0 (fun _ _ h => h) (hK19 _ _ _ _ _ ?_))
       clear hK19
       refine wp_seq' fun K20 hK20 => ?_
       refine wp_block' ?_
       refine wp_seq' fun K21 hK21 => ?_
       refine wp_reg ?_
       refine ol_ixr hl rfl rfl sl37 (by omega) rfl fun x39 hx39 => ?_
       try simp only [Int.toNat_natCast] at hx39
       refine ol_r (r_ldw rfl (fun w1 hb1 hs1 hB1 => show Loads _ _ _ _ (.int .i64 x39) from Rd.loads hl ty3 hx39 hb1)) rfl ?_
       refine ol_r (r_assign rfl) rfl ?_
       refine ol_nil (to_k0 (fun _ _ h => h) (hK21 _ _ _ _ _ ?_))
       clear hK21
       refine wp_seq' fun K22 hK22 => ?_
       refine wp_seq' fun K23 hK23 => ?_
       refine wp_reg ?_
       refine ol_r (r_move rfl) rfl ?_
       refine ol_r (r_fa (o' := 3) rfl fl26_3 rfl) rfl ?_
       refine ol_r (r_ld (id := 2) rfl rfl rfl sc22) rfl ?_
       refine ol_r (r_len rfl sl22) rfl ?_
       refine ol_r (r_sub rfl rfl (by omega)) rfl ?_
       refine ol_call rfl rfl cb41 rfl (fun w1 hb1 hs1 hB1 => Calls.mono (track_in _ _ _ _) ?_)
       rintro e w2 ⟨rfl, hb2⟩
       refine After.below rfl hb1 hs1 hB1 hb2 ?_
       clear hb2 hB1 hs1 hb1 w2 w1
       refine ol_r (r_not rfl) rfl ?_
       refine ol_nil (to_k0 (fun _ _ h => h) (hK23 _ _ _ _ _ ?_))
       clear hK23
       refine wp_condNB rfl (fun hc47 => ?_) (fun hc47 => ?_)
       ·refine wp_seq' fun K24 hK24 => ?_
        refine wp_reg ?_
        refine ol_r (r_build rfl (fun _ => bd26 _)) rfl ?_
        refine ol_store (id := 4) rfl rfl rfl rfl sz26 rfl rfl (by first | decide | exact Nat.zero_lt_succ _ | simp) ?_
        refine ol_r (r_assign rfl) rfl ?_
        refine ol_nil (to_k0 (fun _ _ h => h) (hK24 _ _ _ _ _ ?_))
        clear hK24
        refine hQ.ret (rvs2 (rv_c (id := 4) (n := 6) rfl rfl ag26 rfl) (rv_t rfl)) (fun _ _ h => h) fun w hb hs hB hkd => ?_
        exact ⟨outA_no (onlyR_4 h0 hR2 (fun h => by have := h _ (List.mem_of_getElem? hx39); have h2 := inB_not.1 hc47; dsimp only [ActV.d] at this; omega)), hb⟩
       ·refine wp_skip' (to_k0 (fun _ _ h => h) (hK22 _ _ _ _ _ ?_))
        clear hK22
        refine wp_reg ?_
        refine ol_r (r_move rfl) rfl ?_
        refine ol_r (r_fa (o' := 3) rfl fl26_3 rfl) rfl ?_
        refine ol_r (r_ld (id := 2) rfl rfl rfl sc22) rfl ?_
        refine ol_r (r_move rfl) rfl ?_
        have hin := inB_iff.1 hc47
        have hk3 := ris_len (ris_take k hR2) hP
        rw [List.length_take] at hk3
        refine ol_ixr hA.s rfl rfl sl22 (by omega) rfl fun x53 hx53 => ?_
        try simp only [Int.toNat_natCast] at hx53
        refine ol_r (r_ldw rfl (fun w1 hb1 hs1 hB1 => Rd.loads hA.s ty28 hx53 hb1)) rfl ?_
        refine ol_bs1 55 rfl rfl rw22 rfl rfl rfl fun a55 => ?_
        refine ol_append1 (id := 8) (id2 := 55) rfl rfl rfl rfl rfl rw22 (by omega) rfl fun a56 c56 => ?_
        have hR2 : RisP l := ris_end hR (by omega)
        refine ol_r (r_assign rfl) rfl ?_
        refine ol_nil (to_k0 (fun _ _ h => h) (hK20 _ _ _ _ _ ?_))
        clear hK20
        refine wp_reg ?_
        refine ol_r (r_add rfl rfl (by omega)) rfl ?_
        refine ol_r (r_move rfl) rfl ?_
        refine ol_nil (to_k0 (fun _ _ h => h) (hK17 ((k + 1, _, _)) _ _ ?_ ?_ (sub_cons rfl (sub_cons rfl sub_nil)) (sub_cons rfl (sub_cons rfl (sub_cons rfl (sub_cons rfl sub_nil)))) (by exact (subH_row rfl (by dsimp only; (rw [keptL_succ hx39 hx53, Enc.enc_append]; rfl)) subH_nil)) (subH_same rfl (subH_same rfl subH_nil))))
        ·try dsimp only
         refine ⟨by omega, fun x hx => ?_, by rw [keptL_succ hx39 hx53, List.length_append, hkl]; rfl⟩
         rw [take_succ_get hx39] at hx
         rcases List.mem_append.1 hx with h | h
         · exact hP x h
         · simp at h
           subst h
           have := inB_iff.1 hc47
           omega
        ·try dsimp only
         omega
      ·refine wp_exit' (to_k0 (fun _ _ h => h) (hK15 _ _ _ _ _ ?_))
       clear hK15
       refine wp_seq' fun K25 hK25 => ?_
       refine wp_reg ?_
       refine ol_r (r_assign rfl) rfl ?_
       refine ol_nil (to_k0 (fun _ _ h => h) (hK25 _ _ _ _ _ ?_))
       clear hK25
       refine wp_seq' fun K26 hK26 => ?_
       refine wp_seq' fun K27 hK27 => ?_
       refine wp_reg ?_
       have hkk : k = l.length := by omega
       subst hkk
       rw [List.take_of_length_le (Nat.le_refl _)] at hP hkl
       rw [List.take_of_length_le (Nat.le_refl _)]
       have hlen2 := ris_len hR2 hP
       refine ol_r (r_move rfl) rfl ?_
       refine ol_r (r_len rfl sl22) rfl ?_
       refine ol_r (r_gtr rfl rfl) rfl ?_
       refine ol_nil (to_k0 (fun _ _ h => h) (hK27 _ _ _ _ _ ?_))
       clear hK27
       refine wp_condD rfl (fun hc60 => ?_) (fun hc60 => ?_)
       ·refine wp_reg ?_
        refine ol_r (r_move rfl) rfl ?_
        refine ol_ixo (id := 8) encSmp _ rfl rfl rfl rfl sl22 (by omega) rfl fun x62 hx62 => ?_
        try simp only [Int.toNat_natCast] at hx62
        try simp only [Int.toNat_natCast] at hx62
        refine ol_r (r_faO (id := 8) rfl rfl rfl hx62 fl28_0) rfl ?_
        have hf := firstAt_eq (l := keptL A.ss l) (x := x62) hx62
        have hfb := hok.bd x62 (kept_in _ (List.mem_of_getElem? hx62))
        refine ol_r (r_ldw rfl (fun w1 hb1 hs1 hB1 => ld_ownF (id := 8) (o := 0) hs1 rfl rfl sc3 hx62 rfl)) rfl ?_
        refine ol_r (r_assign rfl) rfl ?_
        refine ol_nil (to_k0 (fun _ _ h => h) (hK26 _ _ _ _ _ ?_))
        clear hK26
        refine wp_seq' fun K28 hK28 => ?_
        refine wp_reg ?_
        refine ol_r (r_lda (id := 2) (n := 6) rfl rfl rfl ag26) rfl ?_
        refine ol_r (r_move rfl) rfl ?_
        refine ol_r (r_move rfl) rfl ?_
        refine ol_call rfl rfl cb64 rfl (fun w1 hb1 hs1 hB1 => ?_)
        refine Calls.mono (track_part A _ _ _ (keptL A.ss l) _ _ (hA.at hb1 hB1) (Sat.rd hs1 (id := 8) rfl rfl) hg (by omega) (fun x hx => by have := hok.bd x (kept_in x hx); omega) (by omega)) ?_
        rintro e w2 ⟨⟨sa, sn, sc, la, ln, lc, ta, tn, tc, rfl, hs2⟩, hb2⟩
        refine After.more rfl hb1 hs1 hB1 hb2 hs2 ?_
        clear hs2 hb2 hB1 hs1 hb1 w2 w1
        refine ol_r (r_extract rfl rfl) rfl ?_
        refine ol_r (r_extract rfl rfl) rfl ?_
        refine ol_store (id := 4) rfl rfl rfl rfl sz26 rfl rfl (by first | decide | exact Nat.zero_lt_succ _ | simp) ?_
        refine ol_r (r_assign rfl) rfl ?_
        refine ol_nil (to_k0 (fun _ _ h => h) (hK28 _ _ _ _ _ ?_))
        clear hK28
        refine hQ.ret (rvs2 (rv_c (id := 4) (n := 6) rfl rfl ag26 rfl) (rv_t rfl)) (fun _ _ h => h) fun w hb hs hB hkd => ?_
        have h := onlyR_0 h0 hR2 hP
        change onlyR A.d l = partR A.d (keptL A.ss l) (firstAt (keptL A.ss l)) at h
        rw [hf] at h
        refine ⟨?_, hb⟩
        rw [h]
        exact ⟨sa, sn, sc, la, ln, lc, ta, tn, tc, rfl, hs.three 1001 1002 1003 1001 1002 1003 (by decide) (by decide) (by decide) rfl rfl rfl (Ent.le_refl _) (Ent.le_refl _) (Ent.le_refl _)⟩
       ·refine wp_skip' (to_k0 (fun _ _ h => h) (hK26 _ _ _ _ _ ?_))
        clear hK26
        refine wp_seq' fun K29 hK29 => ?_
        refine wp_reg ?_
        refine ol_r (r_lda (id := 2) (n := 6) rfl rfl rfl ag26) rfl ?_
        refine ol_r (r_move rfl) rfl ?_
        refine ol_r (r_move rfl) rfl ?_
        refine ol_call rfl rfl cb64 rfl (fun w1 hb1 hs1 hB1 => ?_)
        refine Calls.mono (track_part A _ _ _ (keptL A.ss l) _ _ (hA.at hb1 hB1) (Sat.rd hs1 (id := 8) rfl rfl) hg (by omega) (fun x hx => by have := hok.bd x (kept_in x hx); omega) (by omega)) ?_
        rintro e w2 ⟨⟨sa, sn, sc, la, ln, lc, ta, tn, tc, rfl, hs2⟩, hb2⟩
        refine After.more rfl hb1 hs1 hB1 hb2 hs2 ?_
        clear hs2 hb2 hB1 hs1 hb1 w2 w1
        refine ol_r (r_extract rfl rfl) rfl ?_
        refine ol_r (r_extract rfl rfl) rfl ?_
        refine ol_store (id := 4) rfl rfl rfl rfl sz26 rfl rfl (by first | decide | exact Nat.zero_lt_succ _ | simp) ?_
        refine ol_r (r_assign rfl) rfl ?_
        refine ol_nil (to_k0 (fun _ _ h => h) (hK29 _ _ _ _ _ ?_))
        clear hK29
        refine hQ.ret (rvs2 (rv_c (id := 4) (n := 6) rfl rfl ag26 rfl) (rv_t rfl)) (fun _ _ h => h) fun w hb hs hB hkd => ?_
        have h := onlyR_0 h0 hR2 hP
        change onlyR A.d l = partR A.d (keptL A.ss l) (firstAt (keptL A.ss l)) at h
        rw [firstAt_nil (by omega)] at h
        refine ⟨?_, hb⟩
        rw [h]
        exact ⟨sa, sn, sc, la, ln, lc, ta, tn, tc, rfl, hs.three 1001 1002 1003 1001 1002 1003 (by decide) (by decide) (by decide) rfl rfl rfl (Ent.le_refl _) (Ent.le_refl _) (Ent.le_refl _)⟩
end Go.Proofs.Ytogcclagmobkiaa
