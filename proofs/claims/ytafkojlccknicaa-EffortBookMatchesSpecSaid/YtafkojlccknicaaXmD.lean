/-
  Books: the holders.
-/
import Derived.Test.YtafkojlccknicaaXmA
import Derived.Test.YtafkojlccknicaaXmB
import Derived.Test.YtafkojlccknicaaXmC

namespace Go.Proofs.Ytafkojlccknicaa
open Go Go.RowKit Hx
set_option linter.unusedVariables false
set_option linter.unusedSimpArgs false
set_option maxRecDepth 8000
theorem Bk1.at {B : Nat} {w0 w : World} {bb bm : Nat} {az : Option Addr} {nz cz : Nat} {zs : List Int} {D : DM} {cur : Cur} (h : Bk1 B w0 bb bm az nz cz zs D cur) (hb : Below B w0 w) (hB : B ≤ w.heap.size) : Bk1 w.heap.size w bb bm az nz cz zs D cur :=
  ⟨h.b.at hb hB, h.m.at hb hB, h.z.at hb hB, fun x hx => (h.r x hx).at hb hB, h.nd, h.sz, h.ln⟩
theorem rd_get {C : Nat} {w : World} {D : DM} {cur : Cur} (hr : ∀ x ∈ D, Rd encBest C w x.2.1 x.2.2.1 x.2.2.2 (cur x.1)) {k : ByteArray} (hk : k ∈ pKeys D) : ∃ a n c, pO D k = some (a, n, c) ∧ Rd encBest C w a n c (cur k) := by
  cases h : pO D k with
  | none => exact ((pO_none.1 h) hk).elim
  | some v => exact ⟨v.1, v.2.1, v.2.2, rfl, hr _ (pO_mem h)⟩
theorem holdK_yes {cur : Cur} {names : List ByteArray} {zs : List Int} {k : Nat} {z : Int} {st : BestR} {nm : ByteArray} (h : zs[k]? = some z) (hs : (st, nm) = holdAt cur names k) (hf : st.found = true) : holdK cur names zs (k + 1) = holdK cur names zs k ++ [⟨z, st.sum, st.at_, nm⟩] := by
  rw [holdK_succ h, ← hs, holdOne, if_pos hf]
theorem holdK_no {cur : Cur} {names : List ByteArray} {zs : List Int} {k : Nat} {z : Int} {st : BestR} {nm : ByteArray} (h : zs[k]? = some z) (hs : (st, nm) = holdAt cur names k) (hf : st.found = false) : holdK cur names zs (k + 1) = holdK cur names zs k := by
  rw [holdK_succ h, ← hs, holdOne, if_neg (by rw [hf]; simp), List.append_nil]
theorem eff_Holders (w : World) (bb bm : Nat) (az : Option Addr) (nz cz : Nat) (zs : List Int) (D : DM) (cur : Cur) (hK : Bk1 w.heap.size w bb bm az nz cz zs D cur) (hzl : zs.length ≤ 100) (hcl : ∀ k ∈ pKeys D, (cur k).length = zs.length) :
    Calls Try.prog 66 #[.pointer (some ⟨bb, 0, none⟩)] w fun e w' => ∃ b m k, e = .returned (.slice b m k) ∧ Fresh encHold 92 w w' b m k (holdK cur (ordBA (pKeys D)) zs zs.length) := by
  have hBk := hK.b
  have hM := hK.m
  have hZ := hK.z
  have hln := hK.ln
  have hzn := hZ.len
  have hol : (ordBA (pKeys D)).length = D.length := by rw [(ordBA_perm hK.nd).length_eq, pKeys, List.length_map]
  refine enterQ (N := 59) (C := fun _ => True) (H := []) (B := w.heap.size) (args := [_]) Try.func66 rfl rfl rfl (Nat.le_refl _) (Sat.nil _ _) fun Q hQ => ?_
  refine wp_seq' fun K1 hK1 => ?_
  refine wp_reg ?_
  refine ol_r (r_assign rfl) rfl ?_
  refine ol_nil (to_k0 (fun _ _ h => h) (hK1 _ _ _ _ _ ?_))
  clear hK1
  refine wp_seq' fun K2 hK2 => ?_
  refine wp_reg ?_
  refine ol_nilrow 3 92 4 ?_
  refine ol_r (r_assign rfl) rfl ?_
  refine ol_nil (to_k0 (fun _ _ h => h) (hK2 _ _ _ _ _ ?_))
  clear hK2
  refine wp_seq' fun K3 hK3 => ?_
  refine wp_reg ?_
  refine ol_r (r_move rfl) rfl ?_
  refine ol_call rfl rfl cb63 rfl (fun w1 hb1 hs1 hB1 => Calls.mono (eff_Names _ bb bm az nz cz zs D cur (hK.at hb1 hB1)) ?_)
  rintro e w2 ⟨a13, n13, c13, rfl, hf13⟩
  refine After.fresh (id := 13) rfl hb1 hs1 hB1 hf13 ?_
  have hl13 := hf13.len; clear hf13 hB1 hs1 hb1 w2 w1
  refine ol_r (r_assign rfl) rfl ?_
  refine ol_nil (to_k0 (fun _ _ h => h) (hK3 _ _ _ _ _ ?_))
  clear hK3
  refine wp_seq' fun K4 hK4 => ?_
  refine wp_seq' fun K5 hK5 => ?_
  refine wp_reg ?_
  refine ol_r (r_move rfl) rfl ?_
  refine ol_r (r_nilS rfl (rfl)) rfl ?_
  refine ol_r (r_fa (o' := 0) rfl fl128_0 rfl) rfl ?_
  refine ol_r (r_ldw rfl (fun w1 hb1 hs1 hB1 => Blk.loads (o := 0) hBk hb1 sc22 rfl)) rfl ?_
  refine ol_r (r_len rfl sl22) rfl ?_
  refine ol_r (r_move rfl) rfl ?_
  refine ol_nil (to_k0 (fun _ _ h => h) (hK5 _ _ _ _ _ ?_))
  clear hK5
  refine wp_block' ?_
  apply wp_loopM (σ := Nat × Option Addr × Nat × Nat) (fun s => s.1 ≤ nz ∧ s.2.2.1 = (holdK cur (ordBA (pKeys D)) zs s.1).length) (fun s => [(19, .int .i64 s.1), (3, .slice s.2.1 s.2.2.1 s.2.2.2)]) [(0, _), (2, _), (4, _), (17, _), (18, _)] (fun s => [(3, .row s.2.1 s.2.2.1 s.2.2.2 (encHold.enc (holdK cur (ordBA (pKeys D)) zs s.1)) 92 4)]) [(13, _)] (fun s => nz - s.1) ((0, none, 0, 0))
  ·try dsimp only
   exact ⟨Nat.zero_le _, rfl⟩
  ·exact (sub_cons rfl (sub_cons rfl sub_nil))
  ·exact (sub_cons rfl (sub_cons rfl (sub_cons rfl (sub_cons rfl (sub_cons rfl sub_nil)))))
  ·exact (subH_row rfl (by first | (dsimp only; rfl; done) | (rfl; done) | (dsimp only; done)) subH_nil)
  ·exact (subH_same rfl subH_nil)
  ·rintro ⟨k, oa, m, oc⟩ ⟨hk, hm⟩
   dsimp only at hk hm ⊢
   have hmk := holdK_len cur (ordBA (pKeys D)) zs k
   intro K6 hK6
   refine wp_seq' fun K7 hK7 => ?_
   refine wp_reg ?_
   refine ol_r (r_lss rfl rfl) rfl ?_
   refine ol_nil (to_k0 (fun _ _ h => h) (hK7 _ _ _ _ _ ?_))
   clear hK7
   refine wp_seq' fun K8 hK8 => ?_
   first | refine wp_condD rfl (fun hc20 => ?_) (fun hc20 => ?_) | refine wp_condN rfl (fun hc20 => ?_) (fun hc20 => ?_) | refine wp_condNB rfl (fun hc20 => ?_) (fun hc20 => ?_) | refine wp_cond' rfl (fun hc20 => ?_) (fun hc20 => ?_)
   ·refine wp_skip' (to_k0 (fun _ _ h => h) (hK8 _ _ _ _ _ ?_))
    clear hK8
    refine wp_seq' fun K9 hK9 => ?_
    refine wp_block' ?_
    refine wp_seq' fun K10 hK10 => ?_
    refine wp_reg ?_
    refine ol_r (r_move rfl) rfl ?_
    refine ol_ixr hZ rfl rfl sl22 (by omega) rfl fun x22 hx22 => ?_
    try simp only [Int.toNat_natCast] at hx22
    refine ol_r (r_ldw rfl (fun w1 hb1 hs1 hB1 => show Loads _ _ _ _ (.int .i64 x22) from Rd.loads hZ ty3 hx22 hb1)) rfl ?_
    refine ol_r (r_assign rfl) rfl ?_
    refine ol_r (r_assign rfl) rfl ?_
    refine ol_nil (to_k0 (fun _ _ h => h) (hK10 _ _ _ _ _ ?_))
    clear hK10
    refine wp_seq' fun K11 hK11 => ?_
    refine wp_reg ?_
    refine ol_alloc 7 z24 rfl fun b7 => ?_
    refine ol_nil (to_k0 (fun _ _ h => h) (hK11 _ _ _ _ _ ?_))
    clear hK11
    refine wp_seq' fun K12 hK12 => ?_
    refine wp_reg ?_
    refine ol_r (r_assign rfl) rfl ?_
    refine ol_nil (to_k0 (fun _ _ h => h) (hK12 _ _ _ _ _ ?_))
    clear hK12
    refine wp_seq' fun K13 hK13 => ?_
    refine wp_seq' fun K14 hK14 => ?_
    refine wp_reg ?_
    refine ol_r (r_move rfl) rfl ?_
    refine ol_r (r_len rfl sl49) rfl ?_
    refine ol_r (r_move rfl) rfl ?_
    refine ol_nil (to_k0 (fun _ _ h => h) (hK14 _ _ _ _ _ ?_))
    clear hK14
    refine wp_block' ?_
    apply wp_loopM (σ := Nat × BestR × ByteArray) (fun s => s.1 ≤ n13 ∧ (s.2.1, s.2.2) = holdAt cur ((ordBA (pKeys D)).take s.1) k) (fun s => [(26, .int .i64 s.1), (8, .string s.2.2)]) [(0, _), (2, _), (3, _), (4, _), (5, _), (6, _), (7, _), (17, _), (18, _), (19, _), (24, _), (25, _)] (fun s => [(7, .blk b7 [(0, .int .i64 s.2.1.size), (1, .int .i64 s.2.1.sum), (2, .int .i64 s.2.1.at_), (3, .bool s.2.1.found)] 24)]) [(3, _), (13, _)] (fun s => n13 - s.1) ((0, zeroBest, noS))
    ·try dsimp only
     exact ⟨Nat.zero_le _, rfl⟩
    ·exact (sub_cons rfl (sub_cons rfl sub_nil))
    ·exact (sub_cons rfl (sub_cons rfl (sub_cons rfl (sub_cons rfl (sub_cons rfl (sub_cons rfl (sub_cons rfl (sub_cons rfl (sub_cons rfl (sub_cons rfl (sub_cons rfl (sub_cons rfl sub_nil))))))))))))
    ·exact (subH_blk rfl (sub_cons rfl (sub_cons rfl (sub_cons rfl (sub_cons rfl sub_nil)))) subH_nil)
    ·exact (subH_same rfl (subH_same rfl subH_nil))
    ·rintro ⟨j, st, nm0⟩ ⟨hj, hst⟩
     dsimp only at hj hst ⊢
     intro K15 hK15
     refine wp_seq' fun K16 hK16 => ?_
     refine wp_reg ?_
     refine ol_r (r_lss rfl rfl) rfl ?_
     refine ol_nil (to_k0 (fun _ _ h => h) (hK16 _ _ _ _ _ ?_))
     clear hK16
     refine wp_seq' fun K17 hK17 => ?_
     first | refine wp_condD rfl (fun hc27 => ?_) (fun hc27 => ?_) | refine wp_condN rfl (fun hc27 => ?_) (fun hc27 => ?_) | refine wp_condNB rfl (fun hc27 => ?_) (fun hc27 => ?_) | refine wp_cond' rfl (fun hc27 => ?_) (fun hc27 => ?_)
     ·refine wp_skip' (to_k0 (fun _ _ h => h) (hK17 _ _ _ _ _ ?_))
      clear hK17
      refine wp_seq' fun K18 hK18 => ?_
      refine wp_block' ?_
      refine wp_seq' fun K19 hK19 => ?_
      refine wp_reg ?_
      refine ol_ixo (id := 13) encStr _ rfl rfl rfl rfl sl49 (by omega) rfl fun x28 hx28 => ?_
      try simp only [Int.toNat_natCast] at hx28
      try simp only [Int.toNat_natCast] at hx28
      refine ol_r (r_ldw rfl (fun w1 hb1 hs1 hB1 => ld_own (id := 13) hs1 rfl rfl ty9 hx28)) rfl ?_
      refine ol_r (r_assign rfl) rfl ?_
      refine ol_nil (to_k0 (fun _ _ h => h) (hK19 _ _ _ _ _ ?_))
      clear hK19
      refine wp_seq' fun K20 hK20 => ?_
      refine wp_reg ?_
      obtain ⟨ac, nc, cc, hpo, hC⟩ := rd_get hK.r (mem_ordBA.1 (List.mem_of_getElem? hx28))
      have hcc := hC.len
      have hcz := hcl x28 (mem_ordBA.1 (List.mem_of_getElem? hx28))
      refine ol_r (r_move rfl) rfl ?_
      refine ol_r (r_nilS rfl (rfl)) rfl ?_
      refine ol_r (r_fa (o' := 1) rfl fl128_1 rfl) rfl ?_
      refine ol_r (r_ldw rfl (fun w1 hb1 hs1 hB1 => Blk.loads (o := 1) hBk hb1 sc81 rfl)) rfl ?_
      refine ol_r (r_move rfl) rfl ?_
      refine ol_r (Runs.val (show slV ((pO D x28).getD nilS) = .slice ac nc cc by rw [hpo]; rfl) (r_lookR1 (K := Value.string) (V := slV) (z := nilS) (k := x28) hM rfl rfl mk81)) rfl ?_
      refine ol_r (r_move rfl) rfl ?_
      refine ol_ixr hC rfl rfl sl38 (by omega) rfl fun x37 hx37 => ?_
      try simp only [Int.toNat_natCast] at hx37
      refine ol_r (r_ldw rfl (fun w1 hb1 hs1 hB1 => Rd.loads hC ty24 hx37 hb1)) rfl ?_
      refine ol_alloc 11 z24 rfl fun b11 => ?_
      refine ol_store (id := 11) rfl rfl rfl rfl sz24 rfl rfl (by first | decide | exact Nat.zero_lt_succ _ | simp) ?_
      refine ol_nil (to_k0 (fun _ _ h => h) (hK20 _ _ _ _ _ ?_))
      clear hK20
      refine wp_seq' fun K21 hK21 => ?_
      refine wp_reg ?_
      refine ol_r (r_lda (id := 11) (n := 4) rfl rfl rfl ag24) rfl ?_
      refine ol_r (r_lda (id := 7) (n := 4) rfl rfl rfl ag24) rfl ?_
      refine ol_call rfl rfl cb98 rfl (fun w1 hb1 hs1 hB1 => Calls.mono (eff_beats x37 st _) ?_)
      rintro e w2 ⟨rfl, hb2⟩
      refine After.below rfl hb1 hs1 hB1 hb2 ?_
      clear hb2 hB1 hs1 hb1 w2 w1
      refine ol_nil (to_k0 (fun _ _ h => h) (hK21 _ _ _ _ _ ?_))
      clear hK21
      first | refine wp_condD rfl (fun hc41 => ?_) (fun hc41 => ?_) | refine wp_condN rfl (fun hc41 => ?_) (fun hc41 => ?_) | refine wp_condNB rfl (fun hc41 => ?_) (fun hc41 => ?_) | refine wp_cond' rfl (fun hc41 => ?_) (fun hc41 => ?_)
      ·refine wp_reg ?_
       refine ol_r (r_lda (id := 11) (n := 4) rfl rfl rfl ag24) rfl ?_
       refine ol_r (r_move rfl) rfl ?_
       refine ol_store (id := 7) rfl rfl rfl rfl sz24 rfl rfl (by first | decide | exact Nat.zero_lt_succ _ | simp) ?_
       refine ol_r (r_assign rfl) rfl ?_
       refine ol_nil (to_k0 (fun _ _ h => h) (hK18 _ _ _ _ _ ?_))
       clear hK18
       refine wp_reg ?_
       refine ol_r (r_add rfl rfl (by omega)) rfl ?_
       refine ol_r (r_move rfl) rfl ?_
       refine ol_nil (to_k0 (fun _ _ h => h) (hK15 ((j + 1, x37, x28)) _ _ ?_ ?_ (sub_cons rfl (sub_cons rfl sub_nil)) (sub_cons rfl (sub_cons rfl (sub_cons rfl (sub_cons rfl (sub_cons rfl (sub_cons rfl (sub_cons rfl (sub_cons rfl (sub_cons rfl (sub_cons rfl (sub_cons rfl (sub_cons rfl sub_nil)))))))))))) (by exact (subH_blk rfl (sub_cons rfl (sub_cons rfl (sub_cons rfl (sub_cons rfl sub_nil)))) subH_nil)) (subH_same rfl (subH_same rfl subH_nil))))
       ·try dsimp only
        exact ⟨by omega, by rw [holdAt_succ hx28, ← hst, hStep_t hx37 hc41]⟩
       ·try dsimp only
        omega
      ·refine wp_skip' (to_k0 (fun _ _ h => h) (hK18 _ _ _ _ _ ?_))
       clear hK18
       refine wp_reg ?_
       refine ol_r (r_add rfl rfl (by omega)) rfl ?_
       refine ol_r (r_move rfl) rfl ?_
       refine ol_nil (to_k0 (fun _ _ h => h) (hK15 ((j + 1, st, nm0)) _ _ ?_ ?_ (sub_cons rfl (sub_cons rfl sub_nil)) (sub_cons rfl (sub_cons rfl (sub_cons rfl (sub_cons rfl (sub_cons rfl (sub_cons rfl (sub_cons rfl (sub_cons rfl (sub_cons rfl (sub_cons rfl (sub_cons rfl (sub_cons rfl sub_nil)))))))))))) (by exact (subH_blk rfl (sub_cons rfl (sub_cons rfl (sub_cons rfl (sub_cons rfl sub_nil)))) subH_nil)) (subH_same rfl (subH_same rfl subH_nil))))
       ·try dsimp only
        exact ⟨by omega, by rw [holdAt_succ hx28, ← hst, hStep_f hx37 (by simpa using hc41)]⟩
       ·try dsimp only
        omega
     ·refine wp_exit' (to_k0 (fun _ _ h => h) (hK13 _ _ _ _ _ ?_))
      clear hK13
      refine wp_seq' fun K22 hK22 => ?_
      refine wp_reg ?_
      rw [List.take_of_length_le (by omega)] at hst
      refine ol_r (r_fa (o' := 3) rfl fl24_3 rfl) rfl ?_
      refine ol_r (r_ld (id := 7) rfl rfl rfl sc4) rfl ?_
      refine ol_nil (to_k0 (fun _ _ h => h) (hK22 _ _ _ _ _ ?_))
      clear hK22
      first | refine wp_condD rfl (fun hc46 => ?_) (fun hc46 => ?_) | refine wp_condN rfl (fun hc46 => ?_) (fun hc46 => ?_) | refine wp_condNB rfl (fun hc46 => ?_) (fun hc46 => ?_) | refine wp_cond' rfl (fun hc46 => ?_) (fun hc46 => ?_)
      ·refine wp_reg ?_
       refine ol_r (r_move rfl) rfl ?_
       refine ol_r (r_move rfl) rfl ?_
       refine ol_r (r_fa (o' := 1) rfl fl24_1 rfl) rfl ?_
       refine ol_r (r_ld (id := 7) rfl rfl rfl sc3) rfl ?_
       refine ol_r (r_fa (o' := 2) rfl fl24_2 rfl) rfl ?_
       refine ol_r (r_ld (id := 7) rfl rfl rfl sc3) rfl ?_
       refine ol_r (r_move rfl) rfl ?_
       refine ol_r (r_build rfl (fun _ => bd92_0_1_2_3 _ _ _ _ _)) rfl ?_
       refine ol_bs1 55 rfl rfl rw90 rfl rfl rfl fun a55 => ?_
       refine ol_append1 (id := 3) (id2 := 55) rfl rfl rfl rfl rfl rw90 (by omega) rfl fun a56 c56 => ?_
       refine ol_r (r_assign rfl) rfl ?_
       refine ol_nil (to_k0 (fun _ _ h => h) (hK9 _ _ _ _ _ ?_))
       clear hK9
       refine wp_reg ?_
       refine ol_r (r_add rfl rfl (by omega)) rfl ?_
       refine ol_r (r_move rfl) rfl ?_
       refine ol_nil (to_k0 (fun _ _ h => h) (hK6 ((k + 1, _, _, _)) _ _ ?_ ?_ (sub_cons rfl (sub_cons rfl sub_nil)) (sub_cons rfl (sub_cons rfl (sub_cons rfl (sub_cons rfl (sub_cons rfl sub_nil))))) (by exact (subH_row rfl (by first | (dsimp only; first | (rw [holdK_yes hx22 hst hc46, Enc.enc_append]; rfl) | (rw [holdK_no hx22 hst (by simpa using hc46)]); done) | (first | (rw [holdK_yes hx22 hst hc46, Enc.enc_append]; rfl) | (rw [holdK_no hx22 hst (by simpa using hc46)]); done) | (dsimp only; done)) subH_nil)) (subH_same rfl subH_nil)))
       ·try dsimp only
        exact ⟨by omega, by rw [holdK_yes hx22 hst hc46, List.length_append, ← hm]; rfl⟩
       ·try dsimp only
        omega
      ·refine wp_skip' (to_k0 (fun _ _ h => h) (hK9 _ _ _ _ _ ?_))
       clear hK9
       refine wp_reg ?_
       refine ol_r (r_add rfl rfl (by omega)) rfl ?_
       refine ol_r (r_move rfl) rfl ?_
       refine ol_nil (to_k0 (fun _ _ h => h) (hK6 ((k + 1, oa, m, oc)) _ _ ?_ ?_ (sub_cons rfl (sub_cons rfl sub_nil)) (sub_cons rfl (sub_cons rfl (sub_cons rfl (sub_cons rfl (sub_cons rfl sub_nil))))) (by exact (subH_row rfl (by first | (dsimp only; first | (rw [holdK_yes hx22 hst hc46, Enc.enc_append]; rfl) | (rw [holdK_no hx22 hst (by simpa using hc46)]); done) | (first | (rw [holdK_yes hx22 hst hc46, Enc.enc_append]; rfl) | (rw [holdK_no hx22 hst (by simpa using hc46)]); done) | (dsimp only; done)) subH_nil)) (subH_same rfl subH_nil)))
       ·try dsimp only
        exact ⟨by omega, by rw [holdK_no hx22 hst (by simpa using hc46)]; exact hm⟩
       ·try dsimp only
        omega
   ·refine wp_exit' (to_k0 (fun _ _ h => h) (hK4 _ _ _ _ _ ?_))
    clear hK4
    refine wp_seq' fun K23 hK23 => ?_
    refine wp_reg ?_
    refine ol_r (r_move rfl) rfl ?_
    refine ol_r (r_assign rfl) rfl ?_
    refine ol_nil (to_k0 (fun _ _ h => h) (hK23 _ _ _ _ _ ?_))
    clear hK23
    refine hQ.ret (rvs1 (rv_t rfl)) (fun _ _ h => h) fun w hb hs hB hkd => ?_
    have hkz : k = zs.length := by omega
    subst hkz
    exact ⟨_, _, _, rfl, hb, hs.ok 3 _ rfl⟩
end Go.Proofs.Ytafkojlccknicaa

/-
  Books: the reference's holders.
-/

namespace Go.Proofs.Ytafkojlccknicaa
open Go Go.RowKit Hx
set_option linter.unusedVariables false
set_option linter.unusedSimpArgs false
set_option maxRecDepth 8000
theorem Bk2.at {B : Nat} {w0 w : World} {xb xm : Nat} {az : Option Addr} {nz cz : Nat} {zs : List Int} {an : Option Addr} {nn cn : Nat} {names : List ByteArray} {D : DM} {cur : Cur} (h : Bk2 B w0 xb xm az nz cz zs an nn cn names D cur) (hb : Below B w0 w) (hB : B ≤ w.heap.size) : Bk2 w.heap.size w xb xm az nz cz zs an nn cn names D cur :=
  ⟨h.b.at hb hB, h.m.at hb hB, h.z.at hb hB, h.s.at hb hB, fun x hx => (h.r x hx).at hb hB, h.nd, h.nm, h.ln⟩
theorem hold_cond {st c : BestR} {nm : ByteArray} (hI : HoldI (st, nm)) : lessB st c = (c.found && (sEq nm noS || decide (c.sum > st.sum))) := by
  have h : sEq nm noS = !st.found := by
    cases hf : st.found with
    | true =>
      have := hI.yes hf
      cases he : sEq nm noS with
      | true => exact (this (sEq_iff.1 he)).elim
      | false => rfl
    | false =>
      have := hI.no hf
      cases this
      exact sEq_iff.2 rfl
  rw [lessB, h]
theorem hold_found {st : BestR} {nm : ByteArray} (hI : HoldI (st, nm)) : (!sEq nm noS) = st.found := by
  cases hf : st.found with
  | true =>
    have := hI.yes hf
    cases he : sEq nm noS with
    | true => exact (this (sEq_iff.1 he)).elim
    | false => rfl
  | false =>
    have := hI.no hf
    cases this
    rw [sEq_iff.2 rfl]; rfl
theorem ref4_Holders (w : World) (xb xm : Nat) (az : Option Addr) (nz cz : Nat) (zs : List Int) (an : Option Addr) (nn cn : Nat) (names : List ByteArray) (D : DM) (cur : Cur) (hK : Bk2 w.heap.size w xb xm az nz cz zs an nn cn names D cur) (hzl : zs.length ≤ 100) (hcl : ∀ k ∈ pKeys D, (cur k).length = zs.length) (hne : ∀ x ∈ names, x ≠ noS) :
    Calls Try.prog 67 #[.pointer (some ⟨xb, 0, none⟩)] w fun e w' => ∃ b m k, e = .returned (.slice b m k) ∧ Fresh encHold 92 w w' b m k (holdK cur names zs zs.length) := by
  have hBk := hK.b
  have hM := hK.m
  have hZ := hK.z
  have hS := hK.s
  have hln := hK.ln
  have hzn := hZ.len
  obtain ⟨hnl, hnd⟩ := hK.nl
  refine enterQ (N := 70) (C := fun _ => True) (H := []) (B := w.heap.size) (args := [_]) Try.func67 rfl rfl rfl (Nat.le_refl _) (Sat.nil _ _) fun Q hQ => ?_
  refine wp_seq' fun K1 hK1 => ?_
  refine wp_reg ?_
  refine ol_r (r_assign rfl) rfl ?_
  refine ol_nil (to_k0 (fun _ _ h => h) (hK1 _ _ _ _ _ ?_))
  clear hK1
  refine wp_seq' fun K2 hK2 => ?_
  refine wp_reg ?_
  refine ol_nilrow 3 92 4 ?_
  refine ol_r (r_assign rfl) rfl ?_
  refine ol_nil (to_k0 (fun _ _ h => h) (hK2 _ _ _ _ _ ?_))
  clear hK2
  refine wp_seq' fun K3 hK3 => ?_
  refine wp_seq' fun K4 hK4 => ?_
  refine wp_reg ?_
  refine ol_r (r_move rfl) rfl ?_
  refine ol_r (r_nilS rfl (rfl)) rfl ?_
  refine ol_r (r_fa (o' := 0) rfl fl130_0 rfl) rfl ?_
  refine ol_r (r_ldw rfl (fun w1 hb1 hs1 hB1 => Blk.loads (o := 0) hBk hb1 sc22 rfl)) rfl ?_
  refine ol_r (r_len rfl sl22) rfl ?_
  refine ol_r (r_move rfl) rfl ?_
  refine ol_nil (to_k0 (fun _ _ h => h) (hK4 _ _ _ _ _ ?_))
  clear hK4
  refine wp_block' ?_
  apply wp_loopM (σ := Nat × Option Addr × Nat × Nat) (fun s => s.1 ≤ nz ∧ s.2.2.1 = (holdK cur names zs s.1).length) (fun s => [(15, .int .i64 s.1), (3, .slice s.2.1 s.2.2.1 s.2.2.2)]) [(0, _), (2, _), (13, _), (14, _)] (fun s => [(3, .row s.2.1 s.2.2.1 s.2.2.2 (encHold.enc (holdK cur names zs s.1)) 92 4)]) [] (fun s => nz - s.1) ((0, none, 0, 0))
  ·try dsimp only
   exact ⟨Nat.zero_le _, rfl⟩
  ·exact (sub_cons rfl (sub_cons rfl sub_nil))
  ·exact (sub_cons rfl (sub_cons rfl (sub_cons rfl (sub_cons rfl sub_nil))))
  ·exact (subH_row rfl (by first | (dsimp only; rfl; done) | (rfl; done) | (dsimp only; done)) subH_nil)
  ·exact subH_nil
  ·rintro ⟨k, oa, m, oc⟩ ⟨hk, hm⟩
   dsimp only at hk hm ⊢
   have hmk := holdK_len cur names zs k
   intro K5 hK5
   refine wp_seq' fun K6 hK6 => ?_
   refine wp_reg ?_
   refine ol_r (r_lss rfl rfl) rfl ?_
   refine ol_nil (to_k0 (fun _ _ h => h) (hK6 _ _ _ _ _ ?_))
   clear hK6
   refine wp_seq' fun K7 hK7 => ?_
   first | refine wp_condD rfl (fun hc16 => ?_) (fun hc16 => ?_) | refine wp_condN rfl (fun hc16 => ?_) (fun hc16 => ?_) | refine wp_condNB rfl (fun hc16 => ?_) (fun hc16 => ?_) | refine wp_cond' rfl (fun hc16 => ?_) (fun hc16 => ?_)
   ·refine wp_skip' (to_k0 (fun _ _ h => h) (hK7 _ _ _ _ _ ?_))
    clear hK7
    refine wp_seq' fun K8 hK8 => ?_
    refine wp_block' ?_
    refine wp_seq' fun K9 hK9 => ?_
    refine wp_reg ?_
    refine ol_r (r_move rfl) rfl ?_
    refine ol_ixr hZ rfl rfl sl22 (by omega) rfl fun x18 hx18 => ?_
    try simp only [Int.toNat_natCast] at hx18
    refine ol_r (r_ldw rfl (fun w1 hb1 hs1 hB1 => show Loads _ _ _ _ (.int .i64 x18) from Rd.loads hZ ty3 hx18 hb1)) rfl ?_
    refine ol_r (r_assign rfl) rfl ?_
    refine ol_r (r_assign rfl) rfl ?_
    refine ol_nil (to_k0 (fun _ _ h => h) (hK9 _ _ _ _ _ ?_))
    clear hK9
    refine wp_seq' fun K10 hK10 => ?_
    refine wp_reg ?_
    refine ol_r (r_build rfl (fun _ => bd92 _)) rfl ?_
    refine ol_alloc 6 z92 rfl fun b6 => ?_
    refine ol_store (id := 6) rfl rfl rfl rfl sz92 rfl rfl (by first | decide | exact Nat.zero_lt_succ _ | simp) ?_
    refine ol_nil (to_k0 (fun _ _ h => h) (hK10 _ _ _ _ _ ?_))
    clear hK10
    refine wp_seq' fun K11 hK11 => ?_
    refine wp_seq' fun K12 hK12 => ?_
    refine wp_reg ?_
    refine ol_r (r_move rfl) rfl ?_
    refine ol_r (r_nilS rfl (rfl)) rfl ?_
    refine ol_r (r_fa (o' := 1) rfl fl130_1 rfl) rfl ?_
    refine ol_r (r_ldw rfl (fun w1 hb1 hs1 hB1 => Blk.loads (o := 1) hBk hb1 sc49 rfl)) rfl ?_
    refine ol_r (r_len rfl sl49) rfl ?_
    refine ol_r (r_move rfl) rfl ?_
    refine ol_nil (to_k0 (fun _ _ h => h) (hK12 _ _ _ _ _ ?_))
    clear hK12
    refine wp_block' ?_
    apply wp_loopM (σ := Nat × BestR × ByteArray × Int) (fun s => s.1 ≤ nn ∧ (s.2.1, s.2.2.1) = holdAt cur (names.take s.1) k ∧ (s.2.1.found = true → s.2.2.2 = x18)) (fun s => [(26, .int .i64 s.1)]) [(0, _), (2, _), (3, _), (4, _), (5, _), (6, _), (13, _), (14, _), (15, _), (24, _), (25, _)] (fun s => [(6, .blk b6 [(0, .int .i64 s.2.2.2), (1, .int .i64 s.2.1.sum), (2, .int .i64 s.2.1.at_), (3, .string s.2.2.1)] 92)]) [(3, _)] (fun s => nn - s.1) ((0, zeroBest, noS, 0))
    ·try dsimp only
     exact ⟨Nat.zero_le _, rfl, fun h => by cases h⟩
    ·exact (sub_cons rfl sub_nil)
    ·exact (sub_cons rfl (sub_cons rfl (sub_cons rfl (sub_cons rfl (sub_cons rfl (sub_cons rfl (sub_cons rfl (sub_cons rfl (sub_cons rfl (sub_cons rfl (sub_cons rfl sub_nil)))))))))))
    ·exact (subH_blk rfl (sub_cons rfl (sub_cons rfl (sub_cons rfl (sub_cons rfl sub_nil)))) subH_nil)
    ·exact (subH_same rfl subH_nil)
    ·rintro ⟨j, st, nm0, sz⟩ ⟨hj, hst, hsz⟩
     dsimp only at hj hst hsz ⊢
     have hI := holdAt_I (cur := cur) hne k j
     rw [← hst] at hI
     intro K13 hK13
     refine wp_seq' fun K14 hK14 => ?_
     refine wp_reg ?_
     refine ol_r (r_lss rfl rfl) rfl ?_
     refine ol_nil (to_k0 (fun _ _ h => h) (hK14 _ _ _ _ _ ?_))
     clear hK14
     refine wp_seq' fun K15 hK15 => ?_
     first | refine wp_condD rfl (fun hc27 => ?_) (fun hc27 => ?_) | refine wp_condN rfl (fun hc27 => ?_) (fun hc27 => ?_) | refine wp_condNB rfl (fun hc27 => ?_) (fun hc27 => ?_) | refine wp_cond' rfl (fun hc27 => ?_) (fun hc27 => ?_)
     ·refine wp_skip' (to_k0 (fun _ _ h => h) (hK15 _ _ _ _ _ ?_))
      clear hK15
      refine wp_seq' fun K16 hK16 => ?_
      refine wp_block' ?_
      refine wp_seq' fun K17 hK17 => ?_
      refine wp_reg ?_
      refine ol_ixr hS rfl rfl sl49 (by omega) rfl fun x28 hx28 => ?_
      try simp only [Int.toNat_natCast] at hx28
      refine ol_r (r_ldw rfl (fun w1 hb1 hs1 hB1 => Rd.loads hS ty9 hx28 hb1)) rfl ?_
      refine ol_r (r_assign rfl) rfl ?_
      refine ol_nil (to_k0 (fun _ _ h => h) (hK17 _ _ _ _ _ ?_))
      clear hK17
      refine wp_seq' fun K18 hK18 => ?_
      refine wp_reg ?_
      have hnD : x28 ∈ pKeys D := by
        have := List.mem_of_getElem? hx28
        rw [hK.nm] at this
        exact mem_ordBA.1 this
      obtain ⟨ac, nc, cc, hpo, hC⟩ := rd_get hK.r hnD
      have hcc := hC.len
      have hcz := hcl x28 hnD
      refine ol_r (r_move rfl) rfl ?_
      refine ol_r (r_nilS rfl (rfl)) rfl ?_
      refine ol_r (r_fa (o' := 2) rfl fl130_2 rfl) rfl ?_
      refine ol_r (r_ldw rfl (fun w1 hb1 hs1 hB1 => Blk.loads (o := 2) hBk hb1 sc81 rfl)) rfl ?_
      refine ol_r (r_move rfl) rfl ?_
      refine ol_r (Runs.val (show slV ((pO D x28).getD nilS) = .slice ac nc cc by rw [hpo]; rfl) (r_lookR1 (K := Value.string) (V := slV) (z := nilS) (k := x28) hM rfl rfl mk81)) rfl ?_
      refine ol_r (r_move rfl) rfl ?_
      refine ol_ixr hC rfl rfl sl38 (by omega) rfl fun x37 hx37 => ?_
      try simp only [Int.toNat_natCast] at hx37
      refine ol_r (r_ldw rfl (fun w1 hb1 hs1 hB1 => Rd.loads hC ty24 hx37 hb1)) rfl ?_
      refine ol_alloc 9 z24 rfl fun b9 => ?_
      refine ol_store (id := 9) rfl rfl rfl rfl sz24 rfl rfl (by first | decide | exact Nat.zero_lt_succ _ | simp) ?_
      refine ol_nil (to_k0 (fun _ _ h => h) (hK18 _ _ _ _ _ ?_))
      clear hK18
      refine wp_seq' fun K19 hK19 => ?_
      refine wp_reg ?_
      refine ol_r (r_fa (o' := 3) rfl fl24_3 rfl) rfl ?_
      refine ol_r (r_ld (id := 9) rfl rfl rfl sc4) rfl ?_
      refine ol_r (r_move rfl) rfl ?_
      refine ol_split (d := 41) rfl (fun hs41 => ?_) (fun hs41 => ?_)
      ·have phs41 := hs41; try simp only [decide_eq_true_eq, decide_eq_false_iff_not, Bool.not_eq_true', Bool.not_eq_false', Bool.not_true, Bool.not_false] at phs41
       refine ol_g rfl rfl hs41 ?_
       refine ol_r (r_fa (o' := 3) rfl fl92_3 rfl) rfl ?_
       refine ol_g rfl rfl hs41 ?_
       refine ol_r (r_ld (id := 6) rfl rfl rfl sc9) rfl ?_
       refine ol_g rfl rfl hs41 ?_
       refine ol_r (r_seql rfl rfl) rfl ?_
       refine ol_g rfl rfl hs41 ?_
       refine ol_r (r_move rfl) rfl ?_
       refine ol_split (d := 45) rfl (fun hs45 => ?_) (fun hs45 => ?_)
       ·have phs45 := hs45; try simp only [decide_eq_true_eq, decide_eq_false_iff_not, Bool.not_eq_true', Bool.not_eq_false', Bool.not_true, Bool.not_false] at phs45
        refine ol_s rfl rfl hs45 rfl ?_
        refine ol_s rfl rfl hs45 rfl ?_
        refine ol_s rfl rfl hs45 rfl ?_
        refine ol_s rfl rfl hs45 rfl ?_
        refine ol_s rfl rfl hs45 rfl ?_
        refine ol_g rfl rfl hs41 ?_
        refine ol_r (r_pickT rfl hs45 rfl) rfl ?_
        refine ol_r (r_pickT rfl hs41 rfl) rfl ?_
        refine ol_nil (to_k0 (fun _ _ h => h) (hK19 _ _ _ _ _ ?_))
        clear hK19
        refine wp_condT rfl ?_
        refine wp_reg ?_
        refine ol_r (r_move rfl) rfl ?_
        refine ol_r (r_fa (o' := 1) rfl fl24_1 rfl) rfl ?_
        refine ol_r (r_ld (id := 9) rfl rfl rfl sc3) rfl ?_
        refine ol_r (r_fa (o' := 2) rfl fl24_2 rfl) rfl ?_
        refine ol_r (r_ld (id := 9) rfl rfl rfl sc3) rfl ?_
        refine ol_r (r_move rfl) rfl ?_
        refine ol_r (r_build rfl (fun _ => bd92_0_1_2_3 _ _ _ _ _)) rfl ?_
        refine ol_store (id := 6) rfl rfl rfl rfl sz92 rfl rfl (by first | decide | exact Nat.zero_lt_succ _ | simp) ?_
        refine ol_nil (to_k0 (fun _ _ h => h) (hK16 _ _ _ _ _ ?_))
        clear hK16
        refine wp_reg ?_
        refine ol_r (r_add rfl rfl (by omega)) rfl ?_
        refine ol_r (r_move rfl) rfl ?_
        refine ol_nil (to_k0 (fun _ _ h => h) (hK13 ((j + 1, x37, x28, x18)) _ _ ?_ ?_ (sub_cons rfl sub_nil) (sub_cons rfl (sub_cons rfl (sub_cons rfl (sub_cons rfl (sub_cons rfl (sub_cons rfl (sub_cons rfl (sub_cons rfl (sub_cons rfl (sub_cons rfl (sub_cons rfl sub_nil))))))))))) (by exact (subH_blk rfl (sub_cons rfl (sub_cons rfl (sub_cons rfl (sub_cons rfl sub_nil)))) subH_nil)) (subH_same rfl subH_nil)))
        ·try dsimp only
         exact ⟨by omega, by rw [holdAt_succ hx28, ← hst, hStep_t hx37 (by rw [hold_cond hI, hs41, hs45]; rfl)], fun _ => rfl⟩
        ·try dsimp only
         omega
       ·have phs45 := hs45; try simp only [decide_eq_true_eq, decide_eq_false_iff_not, Bool.not_eq_true', Bool.not_eq_false', Bool.not_true, Bool.not_false] at phs45
        refine ol_g rfl rfl hs45 ?_
        refine ol_r (r_fa (o' := 1) rfl fl24_1 rfl) rfl ?_
        refine ol_g rfl rfl hs45 ?_
        refine ol_r (r_ld (id := 9) rfl rfl rfl sc3) rfl ?_
        refine ol_g rfl rfl hs45 ?_
        refine ol_r (r_fa (o' := 1) rfl fl92_1 rfl) rfl ?_
        refine ol_g rfl rfl hs45 ?_
        refine ol_r (r_ld (id := 6) rfl rfl rfl sc3) rfl ?_
        refine ol_g rfl rfl hs45 ?_
        refine ol_r (r_gtr rfl rfl) rfl ?_
        refine ol_g rfl rfl hs41 ?_
        refine ol_r (r_pickF rfl hs45 rfl) rfl ?_
        refine ol_r (r_pickT rfl hs41 rfl) rfl ?_
        refine ol_nil (to_k0 (fun _ _ h => h) (hK19 _ _ _ _ _ ?_))
        clear hK19
        first | refine wp_condD rfl (fun hc52 => ?_) (fun hc52 => ?_) | refine wp_condN rfl (fun hc52 => ?_) (fun hc52 => ?_) | refine wp_condNB rfl (fun hc52 => ?_) (fun hc52 => ?_) | refine wp_cond' rfl (fun hc52 => ?_) (fun hc52 => ?_)
        ·refine wp_reg ?_
         refine ol_r (r_move rfl) rfl ?_
         refine ol_r (r_fa (o' := 1) rfl fl24_1 rfl) rfl ?_
         refine ol_r (r_ld (id := 9) rfl rfl rfl sc3) rfl ?_
         refine ol_r (r_fa (o' := 2) rfl fl24_2 rfl) rfl ?_
         refine ol_r (r_ld (id := 9) rfl rfl rfl sc3) rfl ?_
         refine ol_r (r_move rfl) rfl ?_
         refine ol_r (r_build rfl (fun _ => bd92_0_1_2_3 _ _ _ _ _)) rfl ?_
         refine ol_store (id := 6) rfl rfl rfl rfl sz92 rfl rfl (by first | decide | exact Nat.zero_lt_succ _ | simp) ?_
         refine ol_nil (to_k0 (fun _ _ h => h) (hK16 _ _ _ _ _ ?_))
         clear hK16
         refine wp_reg ?_
         refine ol_r (r_add rfl rfl (by omega)) rfl ?_
         refine ol_r (r_move rfl) rfl ?_
         refine ol_nil (to_k0 (fun _ _ h => h) (hK13 ((j + 1, x37, x28, x18)) _ _ ?_ ?_ (sub_cons rfl sub_nil) (sub_cons rfl (sub_cons rfl (sub_cons rfl (sub_cons rfl (sub_cons rfl (sub_cons rfl (sub_cons rfl (sub_cons rfl (sub_cons rfl (sub_cons rfl (sub_cons rfl sub_nil))))))))))) (by exact (subH_blk rfl (sub_cons rfl (sub_cons rfl (sub_cons rfl (sub_cons rfl sub_nil)))) subH_nil)) (subH_same rfl subH_nil)))
         ·try dsimp only
          exact ⟨by omega, by rw [holdAt_succ hx28, ← hst, hStep_t hx37 (by rw [hold_cond hI, hs41, hs45, decide_eq_true hc52]; rfl)], fun _ => rfl⟩
         ·try dsimp only
          omega
        ·refine wp_skip' (to_k0 (fun _ _ h => h) (hK16 _ _ _ _ _ ?_))
         clear hK16
         refine wp_reg ?_
         refine ol_r (r_add rfl rfl (by omega)) rfl ?_
         refine ol_r (r_move rfl) rfl ?_
         refine ol_nil (to_k0 (fun _ _ h => h) (hK13 ((j + 1, st, nm0, sz)) _ _ ?_ ?_ (sub_cons rfl sub_nil) (sub_cons rfl (sub_cons rfl (sub_cons rfl (sub_cons rfl (sub_cons rfl (sub_cons rfl (sub_cons rfl (sub_cons rfl (sub_cons rfl (sub_cons rfl (sub_cons rfl sub_nil))))))))))) (by exact (subH_blk rfl (sub_cons rfl (sub_cons rfl (sub_cons rfl (sub_cons rfl sub_nil)))) subH_nil)) (subH_same rfl subH_nil)))
         ·try dsimp only
          exact ⟨by omega, by rw [holdAt_succ hx28, ← hst, hStep_f hx37 (by rw [hold_cond hI, hs41, hs45, decide_eq_false hc52]; rfl)], hsz⟩
         ·try dsimp only
          omega
      ·have phs41 := hs41; try simp only [decide_eq_true_eq, decide_eq_false_iff_not, Bool.not_eq_true', Bool.not_eq_false', Bool.not_true, Bool.not_false] at phs41
       refine ol_s rfl rfl hs41 rfl ?_
       refine ol_s rfl rfl hs41 rfl ?_
       refine ol_s rfl rfl hs41 rfl ?_
       refine ol_s rfl rfl hs41 rfl ?_
       refine ol_u rfl rfl rfl ?_
       refine ol_u rfl rfl rfl ?_
       refine ol_u rfl rfl rfl ?_
       refine ol_u rfl rfl rfl ?_
       refine ol_u rfl rfl rfl ?_
       refine ol_s rfl rfl hs41 rfl ?_
       refine ol_r (r_pickF rfl hs41 rfl) rfl ?_
       refine ol_nil (to_k0 (fun _ _ h => h) (hK19 _ _ _ _ _ ?_))
       clear hK19
       refine wp_condF rfl ?_
       refine wp_skip' (to_k0 (fun _ _ h => h) (hK16 _ _ _ _ _ ?_))
       clear hK16
       refine wp_reg ?_
       refine ol_r (r_add rfl rfl (by omega)) rfl ?_
       refine ol_r (r_move rfl) rfl ?_
       refine ol_nil (to_k0 (fun _ _ h => h) (hK13 ((j + 1, st, nm0, sz)) _ _ ?_ ?_ (sub_cons rfl sub_nil) (sub_cons rfl (sub_cons rfl (sub_cons rfl (sub_cons rfl (sub_cons rfl (sub_cons rfl (sub_cons rfl (sub_cons rfl (sub_cons rfl (sub_cons rfl (sub_cons rfl sub_nil))))))))))) (by exact (subH_blk rfl (sub_cons rfl (sub_cons rfl (sub_cons rfl (sub_cons rfl sub_nil)))) subH_nil)) (subH_same rfl subH_nil)))
       ·try dsimp only
        exact ⟨by omega, by rw [holdAt_succ hx28, ← hst, hStep_f hx37 (by rw [hold_cond hI, hs41]; rfl)], hsz⟩
       ·try dsimp only
        omega
     ·refine wp_exit' (to_k0 (fun _ _ h => h) (hK11 _ _ _ _ _ ?_))
      clear hK11
      refine wp_seq' fun K20 hK20 => ?_
      refine wp_reg ?_
      rw [List.take_of_length_le (by omega)] at hst
      have hfe : st.found = !sEq nm0 noS := (hold_found hI).symm
      refine ol_r (r_fa (o' := 3) rfl fl92_3 rfl) rfl ?_
      refine ol_r (r_ld (id := 6) rfl rfl rfl sc9) rfl ?_
      refine ol_r (r_sneq rfl rfl) rfl ?_
      refine ol_nil (to_k0 (fun _ _ h => h) (hK20 _ _ _ _ _ ?_))
      clear hK20
      first | refine wp_condD rfl (fun hc63 => ?_) (fun hc63 => ?_) | refine wp_condN rfl (fun hc63 => ?_) (fun hc63 => ?_) | refine wp_condNB rfl (fun hc63 => ?_) (fun hc63 => ?_) | refine wp_cond' rfl (fun hc63 => ?_) (fun hc63 => ?_)
      ·refine wp_reg ?_
       refine ol_r (r_move rfl) rfl ?_
       refine ol_r (r_lda (id := 6) (n := 4) rfl rfl rfl ag92) rfl ?_
       refine ol_bs1 66 rfl rfl rw90 rfl rfl rfl fun a66 => ?_
       refine ol_append1 (id := 3) (id2 := 66) rfl rfl rfl rfl rfl rw90 (by omega) rfl fun a67 c67 => ?_
       refine ol_r (r_assign rfl) rfl ?_
       refine ol_nil (to_k0 (fun _ _ h => h) (hK8 _ _ _ _ _ ?_))
       clear hK8
       refine wp_reg ?_
       refine ol_r (r_add rfl rfl (by omega)) rfl ?_
       refine ol_r (r_move rfl) rfl ?_
       refine ol_nil (to_k0 (fun _ _ h => h) (hK5 ((k + 1, _, _, _)) _ _ ?_ ?_ (sub_cons rfl (sub_cons rfl sub_nil)) (sub_cons rfl (sub_cons rfl (sub_cons rfl (sub_cons rfl sub_nil)))) (by exact (subH_row rfl (by first | (dsimp only; first | (rw [holdK_yes hx18 hst (hfe.trans (congrArg not hc63)), Enc.enc_append, hsz (hfe.trans (congrArg not hc63))]; rfl) | (rw [holdK_no hx18 hst (hfe.trans (congrArg not hc63))]); done) | (first | (rw [holdK_yes hx18 hst (hfe.trans (congrArg not hc63)), Enc.enc_append, hsz (hfe.trans (congrArg not hc63))]; rfl) | (rw [holdK_no hx18 hst (hfe.trans (congrArg not hc63))]); done) | (dsimp only; done)) subH_nil)) subH_nil))
       ·try dsimp only
        exact ⟨by omega, by rw [holdK_yes hx18 hst (hfe.trans (congrArg not hc63)), List.length_append, ← hm]; rfl⟩
       ·try dsimp only
        omega
      ·refine wp_skip' (to_k0 (fun _ _ h => h) (hK8 _ _ _ _ _ ?_))
       clear hK8
       refine wp_reg ?_
       refine ol_r (r_add rfl rfl (by omega)) rfl ?_
       refine ol_r (r_move rfl) rfl ?_
       refine ol_nil (to_k0 (fun _ _ h => h) (hK5 ((k + 1, oa, m, oc)) _ _ ?_ ?_ (sub_cons rfl (sub_cons rfl sub_nil)) (sub_cons rfl (sub_cons rfl (sub_cons rfl (sub_cons rfl sub_nil)))) (by exact (subH_row rfl (by first | (dsimp only; first | (rw [holdK_yes hx18 hst (hfe.trans (congrArg not hc63)), Enc.enc_append, hsz (hfe.trans (congrArg not hc63))]; rfl) | (rw [holdK_no hx18 hst (hfe.trans (congrArg not hc63))]); done) | (first | (rw [holdK_yes hx18 hst (hfe.trans (congrArg not hc63)), Enc.enc_append, hsz (hfe.trans (congrArg not hc63))]; rfl) | (rw [holdK_no hx18 hst (hfe.trans (congrArg not hc63))]); done) | (dsimp only; done)) subH_nil)) subH_nil))
       ·try dsimp only
        exact ⟨by omega, by rw [holdK_no hx18 hst (hfe.trans (congrArg not hc63))]; exact hm⟩
       ·try dsimp only
        omega
   ·refine wp_exit' (to_k0 (fun _ _ h => h) (hK3 _ _ _ _ _ ?_))
    clear hK3
    refine wp_seq' fun K21 hK21 => ?_
    refine wp_reg ?_
    refine ol_r (r_move rfl) rfl ?_
    refine ol_r (r_assign rfl) rfl ?_
    refine ol_nil (to_k0 (fun _ _ h => h) (hK21 _ _ _ _ _ ?_))
    clear hK21
    refine hQ.ret (rvs1 (rv_t rfl)) (fun _ _ h => h) fun w hb hs hB hkd => ?_
    have hkz : k = zs.length := by omega
    subst hkz
    exact ⟨_, _, _, rfl, hb, hs.ok 3 _ rfl⟩
end Go.Proofs.Ytafkojlccknicaa

/-
  Books: ranks.
-/

namespace Go.Proofs.Ytafkojlccknicaa
open Go Go.RowKit Hx
set_option linter.unusedVariables false
set_option linter.unusedSimpArgs false
set_option maxRecDepth 8000
theorem index_some {zs : List Int} {z : Int} {k : Nat} (hz : idxZ zs z = some k) (a : Option Addr) (n c1 : Nat) (w : World) (hx : Rd encI w.heap.size w a n c1 zs) :
    Calls Try.prog 107 #[.slice a n c1, .int .i64 z] w fun e w' => e = .returned (.int .i64 (k : Int)) ∧ Below w.heap.size w w' := by
  have h := index_int a n c1 zs z w hx
  rw [idxI_eq, hz] at h
  exact h
theorem idxZ_lt {zs : List Int} {z : Int} {k : Nat} (hz : idxZ zs z = some k) : k < zs.length := by
  rw [idxZ, List.findIdx?_eq_some_iff_getElem] at hz
  exact hz.1
section
variable {cur : Cur} {k : Nat} {own c c2 c3 o2 o3 : BestR} {nm x : ByteArray}
theorem rkB_1 (hx : (cur x)[k]? = some c) (hx2 : (cur x)[k]? = some c2) (ho : (cur nm)[k]? = some own) (ho2 : (cur nm)[k]? = some o2) (hf : c.found = true) (hg : decide (o2.sum < c2.sum) = true) : rkB cur k own nm x = true := by
  rw [hx] at hx2; cases hx2
  rw [ho] at ho2; cases ho2
  rw [rkB, hx]
  show (c.found && (decide (own.sum < c.sum) || _)) = true
  rw [hf, hg]; rfl
theorem rkB_2 (hx : (cur x)[k]? = some c) (hx2 : (cur x)[k]? = some c2) (hx3 : (cur x)[k]? = some c3) (ho : (cur nm)[k]? = some own) (ho2 : (cur nm)[k]? = some o2) (ho3 : (cur nm)[k]? = some o3) (hf : c.found = true) (hg : decide (o2.sum < c2.sum) = false) (he : decide (c3.sum = o3.sum) = true) : rkB cur k own nm x = sLt x nm := by
  rw [hx] at hx2 hx3; cases hx2; cases hx3
  rw [ho] at ho2 ho3; cases ho2; cases ho3
  rw [rkB, hx]
  show (c.found && (decide (own.sum < c.sum) || (decide (c.sum = own.sum) && _))) = _
  rw [hf, hg, he]; rfl
theorem rkB_3 (hx : (cur x)[k]? = some c) (hx2 : (cur x)[k]? = some c2) (hx3 : (cur x)[k]? = some c3) (ho : (cur nm)[k]? = some own) (ho2 : (cur nm)[k]? = some o2) (ho3 : (cur nm)[k]? = some o3) (hf : c.found = true) (hg : decide (o2.sum < c2.sum) = false) (he : decide (c3.sum = o3.sum) = false) : rkB cur k own nm x = false := by
  rw [hx] at hx2 hx3; cases hx2; cases hx3
  rw [ho] at ho2 ho3; cases ho2; cases ho3
  rw [rkB, hx]
  show (c.found && (decide (own.sum < c.sum) || (decide (c.sum = own.sum) && _))) = _
  rw [hf, hg, he]; rfl
theorem rkB_4 (hx : (cur x)[k]? = some c) (hf : c.found = false) : rkB cur k own nm x = false := by
  rw [rkB, hx]
  show (c.found && _) = false
  rw [hf]; rfl
theorem ne_of_false {b : Bool} (h : b = false) : ¬b = true := by rw [h]; simp
end
theorem eff_RankB (w : World) (bb bm : Nat) (az : Option Addr) (nz cz : Nat) (zs : List Int) (D : DM) (cur : Cur) (z : Int) (nm : ByteArray) (k : Nat) (ao : Option Addr) (no co : Nat) (own : BestR) (hK : Bk1 w.heap.size w bb bm az nz cz zs D cur) (hcl : ∀ k ∈ pKeys D, (cur k).length = zs.length) (hik : idxZ zs z = some k) (hpo : pO D nm = some (ao, no, co)) (how : (cur nm)[k]? = some own) :
    Calls Try.prog 60 #[.pointer (some ⟨bb, 0, none⟩), .int .i64 z, .string nm] w fun e w' => e = .returned (.tuple (if own.found = true then #[.int .i64 (rankC cur k own nm (pKeys D)), .bool true, .int .i64 0] else #[.int .i64 0, .bool false, .int .i64 0])) ∧ Below w.heap.size w w' := by
  have hBk := hK.b
  have hM := hK.m
  have hZ := hK.z
  have hln := hK.ln
  have hzn := hZ.len
  have hkz := idxZ_lt hik
  have hO : Rd encBest w.heap.size w ao no co (cur nm) := hK.r _ (pO_mem hpo)
  have hol := hO.len
  have hcn := hcl nm (isSome_mem.1 (by rw [hpo]; rfl))
  have hkl : (pKeys D).length = D.length := by rw [pKeys, List.length_map]
  refine enterQ (N := 93) (C := fun _ => True) (H := []) (B := w.heap.size) (args := [_, _, _]) Try.func60 rfl rfl rfl (Nat.le_refl _) (Sat.nil _ _) fun Q hQ => ?_
  refine wp_seq' fun K1 hK1 => ?_
  refine wp_reg ?_
  refine ol_r (r_assign rfl) rfl ?_
  refine ol_r (r_assign rfl) rfl ?_
  refine ol_r (r_assign rfl) rfl ?_
  refine ol_nil (to_k0 (fun _ _ h => h) (hK1 _ _ _ _ _ ?_))
  clear hK1
  refine wp_seq' fun K2 hK2 => ?_
  refine wp_reg ?_
  refine ol_r (r_move rfl) rfl ?_
  refine ol_r (r_nilS rfl (rfl)) rfl ?_
  refine ol_r (r_fa (o' := 0) rfl fl128_0 rfl) rfl ?_
  refine ol_r (r_ldw rfl (fun w1 hb1 hs1 hB1 => Blk.loads (o := 0) hBk hb1 sc22 rfl)) rfl ?_
  refine ol_r (r_move rfl) rfl ?_
  refine ol_call rfl rfl cb107 rfl (fun w1 hb1 hs1 hB1 => Calls.mono (index_some hik _ _ _ _ (hZ.at hb1 hB1)) ?_)
  rintro e w2 ⟨rfl, hb2⟩
  refine After.below rfl hb1 hs1 hB1 hb2 ?_
  clear hb2 hB1 hs1 hb1 w2 w1
  refine ol_r (r_assign rfl) rfl ?_
  refine ol_nil (to_k0 (fun _ _ h => h) (hK2 _ _ _ _ _ ?_))
  clear hK2
  refine wp_seq' fun K3 hK3 => ?_
  refine wp_reg ?_
  refine ol_r (r_move rfl) rfl ?_
  refine ol_r (r_nilS rfl (rfl)) rfl ?_
  refine ol_r (r_fa (o' := 1) rfl fl128_1 rfl) rfl ?_
  refine ol_r (r_ldw rfl (fun w1 hb1 hs1 hB1 => Blk.loads (o := 1) hBk hb1 sc81 rfl)) rfl ?_
  refine ol_r (r_move rfl) rfl ?_
  refine ol_r (Runs.val (show Value.tuple #[slV ((pO D nm).getD nilS), .bool (pO D nm).isSome] = .tuple #[.slice ao no co, .bool true] by rw [hpo]; rfl) (r_lookR2 (K := Value.string) (V := slV) (z := nilS) (k := nm) hM rfl rfl mk81)) rfl ?_
  refine ol_r (r_move rfl) rfl ?_
  refine ol_r (r_extract rfl rfl) rfl ?_
  refine ol_r (r_extract rfl rfl) rfl ?_
  refine ol_r (r_assign rfl) rfl ?_
  refine ol_r (r_assign rfl) rfl ?_
  refine ol_nil (to_k0 (fun _ _ h => h) (hK3 _ _ _ _ _ ?_))
  clear hK3
  refine wp_seq' fun K4 hK4 => ?_
  refine wp_block' ?_
  refine wp_seq' fun K5 hK5 => ?_
  refine wp_reg ?_
  refine ol_r (r_move rfl) rfl ?_
  refine ol_r (r_lss rfl rfl) rfl ?_
  refine ol_r (r_move rfl) rfl ?_
  refine ol_split (d := 33) rfl (fun hs33 => ?_) (fun hs33 => ?_)
  ·have phs33 := hs33; try simp only [decide_eq_true_eq, decide_eq_false_iff_not, Bool.not_eq_true', Bool.not_eq_false', Bool.not_true, Bool.not_false] at phs33
   refine ol_s rfl rfl hs33 rfl ?_
   refine ol_s rfl rfl hs33 rfl ?_
   refine ol_r (r_pickT rfl hs33 rfl) rfl ?_
   refine ol_r (r_assign rfl) rfl ?_
   refine ol_nil (to_k0 (fun _ _ h => h) (hK5 _ _ _ _ _ ?_))
   clear hK5
   refine wp_condT rfl ?_
   refine wp_seq' fun K6 hK6 => ?_
   refine wp_reg ?_
   refine ol_r (r_assign rfl) rfl ?_
   refine ol_r (r_assign rfl) rfl ?_
   refine ol_r (r_assign rfl) rfl ?_
   refine ol_nil (to_k0 (fun _ _ h => h) (hK6 _ _ _ _ _ ?_))
   clear hK6
   refine hQ.ret (rvs3 (rv_t rfl) (rv_t rfl) (rv_t rfl)) (fun _ _ h => h) fun w hb hs hB hkd => ?_
   exfalso; have := of_decide_eq_true hs33; omega
  ·have phs33 := hs33; try simp only [decide_eq_true_eq, decide_eq_false_iff_not, Bool.not_eq_true', Bool.not_eq_false', Bool.not_true, Bool.not_false] at phs33
   refine ol_g rfl rfl hs33 ?_
   refine ol_r (r_move rfl) rfl ?_
   refine ol_g rfl rfl hs33 ?_
   refine ol_r (r_not rfl) rfl ?_
   refine ol_r (r_pickF rfl hs33 rfl) rfl ?_
   refine ol_r (r_assign rfl) rfl ?_
   refine ol_nil (to_k0 (fun _ _ h => h) (hK5 _ _ _ _ _ ?_))
   clear hK5
   first | refine wp_condD rfl (fun hc30 => ?_) (fun hc30 => ?_) | refine wp_condN rfl (fun hc30 => ?_) (fun hc30 => ?_) | refine wp_condNB rfl (fun hc30 => ?_) (fun hc30 => ?_) | refine wp_cond' rfl (fun hc30 => ?_) (fun hc30 => ?_)
   ·exfalso
    simp at hc30
   ·refine wp_seq' fun K7 hK7 => ?_
    refine wp_reg ?_
    refine ol_r (r_move rfl) rfl ?_
    refine ol_r (r_move rfl) rfl ?_
    refine ol_ixr hO rfl rfl sl38 (by omega) rfl fun x40 hx40 => ?_
    try simp only [Int.toNat_natCast] at hx40
    refine ol_r (r_faw rfl (ix_some hO (by omega)) fl24_3) rfl ?_
    refine ol_r (r_ldw rfl (fun w1 hb1 hs1 hB1 => Rd.loadsF (o := 3) hO sc4 hx40 hb1 rfl)) rfl ?_
    refine ol_r (r_not rfl) rfl ?_
    refine ol_r (r_assign rfl) rfl ?_
    refine ol_nil (to_k0 (fun _ _ h => h) (hK7 _ _ _ _ _ ?_))
    clear hK7
    first | refine wp_condD rfl (fun hc37 => ?_) (fun hc37 => ?_) | refine wp_condN rfl (fun hc37 => ?_) (fun hc37 => ?_) | refine wp_condNB rfl (fun hc37 => ?_) (fun hc37 => ?_) | refine wp_cond' rfl (fun hc37 => ?_) (fun hc37 => ?_)
    ·refine wp_seq' fun K8 hK8 => ?_
     refine wp_reg ?_
     refine ol_r (r_assign rfl) rfl ?_
     refine ol_r (r_assign rfl) rfl ?_
     refine ol_r (r_assign rfl) rfl ?_
     refine ol_nil (to_k0 (fun _ _ h => h) (hK8 _ _ _ _ _ ?_))
     clear hK8
     refine hQ.ret (rvs3 (rv_t rfl) (rv_t rfl) (rv_t rfl)) (fun _ _ h => h) fun w hb hs hB hkd => ?_
     rw [how] at hx40; cases hx40
     rw [if_neg (by simpa using hc37)]; exact ⟨rfl, hb⟩
    ·refine wp_skip' (to_k0 (fun _ _ h => h) (hK4 _ _ _ _ _ ?_))
     clear hK4
     refine wp_seq' fun K9 hK9 => ?_
     refine wp_reg ?_
     refine ol_r (r_assign rfl) rfl ?_
     refine ol_nil (to_k0 (fun _ _ h => h) (hK9 _ _ _ _ _ ?_))
     clear hK9
     refine wp_seq' fun K10 hK10 => ?_
     refine wp_seq' fun K11 hK11 => ?_
     refine wp_reg ?_
     refine ol_r (r_move rfl) rfl ?_
     refine ol_r (r_nilS rfl (rfl)) rfl ?_
     refine ol_r (r_fa (o' := 1) rfl fl128_1 rfl) rfl ?_
     refine ol_r (r_ldw rfl (fun w1 hb1 hs1 hB1 => Blk.loads (o := 1) hBk hb1 sc81 rfl)) rfl ?_
     refine ol_rangeR (K := Value.string) (V := slV) (z := nilS) 48 hM rfl mk81 rfl fun r48 bs48 ck48 hbs48 hMb48 => ?_
     refine ol_nil (to_k0 (fun _ _ h => h) (hK11 _ _ _ _ _ ?_))
     clear hK11
     refine wp_block' ?_
     apply wp_loopM (σ := List Nat × List ByteArray) (fun s => Vis (pKeys D) s.1 s.2) (fun s => [(12, .int .i64 (rankC cur k own nm s.2))]) [(2, _), (6, _), (7, _), (8, _), (9, _), (10, _), (48, _)] (fun s => [(48, .ob r48 (IterO bm bs48 ck48 s.1))]) [] (fun s => D.length - s.1.length) (([], []))
     ·try dsimp only
      exact Vis.nil _
     ·exact (sub_cons rfl sub_nil)
     ·exact (sub_cons rfl (sub_cons rfl (sub_cons rfl (sub_cons rfl (sub_cons rfl (sub_cons rfl (sub_cons rfl sub_nil)))))))
     ·exact (subH_same rfl subH_nil)
     ·exact subH_nil
     ·rintro ⟨js, ks⟩ hV
      dsimp only at hV ⊢
      have hvl := hV.len
      have hvb := hV.le
      rw [hkl] at hvb
      have hrl := rankC_le cur k own nm ks
      intro K12 hK12
      refine wp_seq' fun K13 hK13 => ?_
      refine wp_reg ?_
      refine ol_nextG (K := Value.string) (V := slV) (idi := 48) rfl rfl (mapB_ro hMb48) hbs48.2.1 hbs48.2.2 trivial rfl (fun hall49 => ?_) (fun j49 k49 v49 hj49 hv49 => ?_)
      ·refine ol_r (r_extract rfl rfl) rfl ?_
       refine ol_nil (to_k0 (fun _ _ h => h) (hK13 _ _ _ _ _ ?_))
       clear hK13
       refine wp_seq' fun K14 hK14 => ?_
       refine wp_condF rfl ?_
       refine wp_exit' (to_k0 (fun _ _ h => h) (hK10 _ _ _ _ _ ?_))
       clear hK10
       refine wp_seq' fun K15 hK15 => ?_
       refine wp_reg ?_
       refine ol_r (r_move rfl) rfl ?_
       refine ol_r (r_assign rfl) rfl ?_
       refine ol_r (r_assign rfl) rfl ?_
       refine ol_r (r_assign rfl) rfl ?_
       refine ol_nil (to_k0 (fun _ _ h => h) (hK15 _ _ _ _ _ ?_))
       clear hK15
       refine hQ.ret (rvs3 (rv_t rfl) (rv_t rfl) (rv_t rfl)) (fun _ _ h => h) fun w hb hs hB hkd => ?_
       rw [how] at hx40; cases hx40
       have hp := hV.all (fun j hj => hall49 j (by rwa [hkl] at hj))
       rw [if_pos (by simpa using hc37), ← rankC_perm hp]; exact ⟨rfl, hb⟩
      ·refine ol_r (r_extract rfl rfl) rfl ?_
       refine ol_nil (to_k0 (fun _ _ h => h) (hK13 _ _ _ _ _ ?_))
       clear hK13
       refine wp_seq' fun K16 hK16 => ?_
       refine wp_condT rfl ?_
       refine wp_skip' (to_k0 (fun _ _ h => h) (hK16 _ _ _ _ _ ?_))
       clear hK16
       refine wp_block' ?_
       refine wp_seq' fun K17 hK17 => ?_
       refine wp_reg ?_
       have hkv : (pKeys D)[j49]? = some k49 := by rw [pKeys, List.getElem?_map, hv49]; rfl
       have hmr := hV.more hj49 (List.getElem?_eq_some_iff.1 hkv).1
       rw [hkl] at hmr
       have hC : Rd encBest w.heap.size w v49.1 v49.2.1 v49.2.2 (cur k49) := hK.r _ (List.mem_of_getElem? hv49)
       have hcc := hC.len
       have hcz := hcl k49 (List.mem_of_getElem? hkv)
       refine ol_r (r_entry (K := Value.string) (V := slV) (idi := 48) rfl rfl (mapB_ro hMb48) hbs48.2.1 hv49) rfl ?_
       refine ol_r (r_extract rfl rfl) rfl ?_
       refine ol_r (r_extract rfl rfl) rfl ?_
       refine ol_r (r_assign rfl) rfl ?_
       refine ol_r (r_assign rfl) rfl ?_
       refine ol_nil (to_k0 (fun _ _ h => h) (hK17 _ _ _ _ _ ?_))
       clear hK17
       refine wp_seq' fun K18 hK18 => ?_
       refine wp_regq (by kernel_rfl) (by kernel_rfl) ?_
       refine ql_r (r_move rfl) rfl ?_
       refine ql_r (r_move rfl) rfl ?_
       refine ql_ixr hC rfl rfl sl38 (by omega) rfl fun x56 hx56 => ?_
       try simp only [Int.toNat_natCast] at hx56
       refine ql_r (r_faw rfl (ix_some hC (by omega)) fl24_3) rfl ?_
       refine ql_r (r_ldw rfl (fun w1 hb1 hs1 hB1 => Rd.loadsF (o := 3) hC sc4 hx56 hb1 rfl)) rfl ?_
       refine ql_r (r_move rfl) rfl ?_
       refine ql_split (d := 59) rfl (fun hs59 => ?_) (fun hs59 => ?_)
       ·have phs59 := hs59; try simp only [decide_eq_true_eq, decide_eq_false_iff_not, Bool.not_eq_true', Bool.not_eq_false', Bool.not_true, Bool.not_false] at phs59
        refine ql_g rfl rfl hs59 ?_
        refine ql_r (r_move rfl) rfl ?_
        refine ql_g rfl rfl hs59 ?_
        refine ql_r (r_move rfl) rfl ?_
        refine ql_g rfl rfl hs59 ?_
        refine ql_ixr hC rfl rfl sl38 (by omega) rfl fun x62 hx62 => ?_
        try simp only [Int.toNat_natCast] at hx62
        refine ql_g rfl rfl hs59 ?_
        refine ql_r (r_faw rfl (ix_some hC (by omega)) fl24_1) rfl ?_
        refine ql_g rfl rfl hs59 ?_
        refine ql_r (r_ldw rfl (fun w1 hb1 hs1 hB1 => Rd.loadsF (o := 1) hC sc3 hx62 hb1 rfl)) rfl ?_
        refine ql_g rfl rfl hs59 ?_
        refine ql_r (r_move rfl) rfl ?_
        refine ql_g rfl rfl hs59 ?_
        refine ql_r (r_move rfl) rfl ?_
        refine ql_g rfl rfl hs59 ?_
        refine ql_ixr hO rfl rfl sl38 (by omega) rfl fun x67 hx67 => ?_
        try simp only [Int.toNat_natCast] at hx67
        refine ql_g rfl rfl hs59 ?_
        refine ql_r (r_faw rfl (ix_some hO (by omega)) fl24_1) rfl ?_
        refine ql_g rfl rfl hs59 ?_
        refine ql_r (r_ldw rfl (fun w1 hb1 hs1 hB1 => Rd.loadsF (o := 1) hO sc3 hx67 hb1 rfl)) rfl ?_
        refine ql_g rfl rfl hs59 ?_
        refine ql_r (r_gtr rfl rfl) rfl ?_
        refine ql_g rfl rfl hs59 ?_
        refine ql_r (r_move rfl) rfl ?_
        refine ql_split (d := 71) rfl (fun hs71 => ?_) (fun hs71 => ?_)
        ·have phs71 := hs71; try simp only [decide_eq_true_eq, decide_eq_false_iff_not, Bool.not_eq_true', Bool.not_eq_false', Bool.not_true, Bool.not_false] at phs71
         refine ql_s rfl rfl hs71 rfl ?_
         refine ql_s rfl rfl hs71 rfl ?_
         refine ql_s rfl rfl hs71 rfl ?_
         refine ql_s rfl rfl hs71 rfl ?_
         refine ql_s rfl rfl hs71 rfl ?_
         refine ql_s rfl rfl hs71 rfl ?_
         refine ql_s rfl rfl hs71 rfl ?_
         refine ql_s rfl rfl hs71 rfl ?_
         refine ql_s rfl rfl hs71 rfl ?_
         refine ql_s rfl rfl hs71 rfl ?_
         refine ql_s rfl rfl hs71 rfl ?_
         refine ql_s rfl rfl hs71 rfl ?_
         refine ql_u rfl rfl rfl ?_
         refine ql_u rfl rfl rfl ?_
         refine ql_u rfl rfl rfl ?_
         refine ql_s rfl rfl hs71 rfl ?_
         refine ql_g rfl rfl hs59 ?_
         refine ql_r (r_pickT rfl hs71 rfl) rfl ?_
         refine ql_r (r_pickT rfl hs59 rfl) rfl ?_
         refine ql_nil (to_k0 (fun _ _ h => h) (hK18 _ _ _ _ _ ?_))
         clear hK18
         refine wp_condT rfl ?_
         refine wp_reg ?_
         refine ol_r (r_move rfl) rfl ?_
         refine ol_r (r_add rfl rfl (by omega)) rfl ?_
         refine ol_r (r_assign rfl) rfl ?_
         refine ol_nil (to_k0 (fun _ _ h => h) (hK12 ((js ++ [j49], ks ++ [k49])) _ _ ?_ ?_ (sub_cons (by first | rfl | (first | (rw [rankC_snoc, if_pos (rkB_1 hx56 hx62 how hx67 hs59 hs71)]; rfl) | (rw [rankC_snoc, if_pos ((rkB_2 hx56 hx62 hx74 how hx67 hx79 hs59 hs71 hs83).trans hc89)]; rfl) | (rw [rankC_snoc, if_neg (ne_of_false ((rkB_2 hx56 hx62 hx74 how hx67 hx79 hs59 hs71 hs83).trans hc89))]; rfl) | (rw [rankC_snoc, if_neg (ne_of_false (rkB_3 hx56 hx62 hx74 how hx67 hx79 hs59 hs71 hs83))]; rfl) | (rw [rankC_snoc, if_neg (ne_of_false (rkB_4 hx56 hs59))]; rfl))) sub_nil) (sub_cons rfl (sub_cons rfl (sub_cons rfl (sub_cons rfl (sub_cons rfl (sub_cons rfl (sub_cons rfl sub_nil))))))) (by exact (subH_same rfl subH_nil)) subH_nil))
         ·try dsimp only
          exact hV.step hj49 (by rw [pKeys, List.getElem?_map, hv49]; rfl)
         ·try dsimp only
          rw [List.length_append, List.length_singleton]; omega
        ·have phs71 := hs71; try simp only [decide_eq_true_eq, decide_eq_false_iff_not, Bool.not_eq_true', Bool.not_eq_false', Bool.not_true, Bool.not_false] at phs71
         refine ql_g rfl rfl hs71 ?_
         refine ql_r (r_move rfl) rfl ?_
         refine ql_g rfl rfl hs71 ?_
         refine ql_r (r_move rfl) rfl ?_
         refine ql_g rfl rfl hs71 ?_
         refine ql_ixr hC rfl rfl sl38 (by omega) rfl fun x74 hx74 => ?_
         try simp only [Int.toNat_natCast] at hx74
         refine ql_g rfl rfl hs71 ?_
         refine ql_r (r_faw rfl (ix_some hC (by omega)) fl24_1) rfl ?_
         refine ql_g rfl rfl hs71 ?_
         refine ql_r (r_ldw rfl (fun w1 hb1 hs1 hB1 => Rd.loadsF (o := 1) hC sc3 hx74 hb1 rfl)) rfl ?_
         refine ql_g rfl rfl hs71 ?_
         refine ql_r (r_move rfl) rfl ?_
         refine ql_g rfl rfl hs71 ?_
         refine ql_r (r_move rfl) rfl ?_
         refine ql_g rfl rfl hs71 ?_
         refine ql_ixr hO rfl rfl sl38 (by omega) rfl fun x79 hx79 => ?_
         try simp only [Int.toNat_natCast] at hx79
         refine ql_g rfl rfl hs71 ?_
         refine ql_r (r_faw rfl (ix_some hO (by omega)) fl24_1) rfl ?_
         refine ql_g rfl rfl hs71 ?_
         refine ql_r (r_ldw rfl (fun w1 hb1 hs1 hB1 => Rd.loadsF (o := 1) hO sc3 hx79 hb1 rfl)) rfl ?_
         refine ql_g rfl rfl hs71 ?_
         refine ql_r (r_eql rfl rfl) rfl ?_
         refine ql_g rfl rfl hs71 ?_
         refine ql_r (r_move rfl) rfl ?_
         refine ql_split (d := 83) rfl (fun hs83 => ?_) (fun hs83 => ?_)
         ·have phs83 := hs83; try simp only [decide_eq_true_eq, decide_eq_false_iff_not, Bool.not_eq_true', Bool.not_eq_false', Bool.not_true, Bool.not_false] at phs83
          refine ql_g rfl rfl hs83 ?_
          refine ql_r (r_move rfl) rfl ?_
          refine ql_g rfl rfl hs83 ?_
          refine ql_r (r_move rfl) rfl ?_
          refine ql_g rfl rfl hs83 ?_
          refine ql_r (r_slss rfl rfl) rfl ?_
          refine ql_g rfl rfl hs71 ?_
          refine ql_r (r_pickT rfl hs83 rfl) rfl ?_
          refine ql_g rfl rfl hs59 ?_
          refine ql_r (r_pickF rfl hs71 rfl) rfl ?_
          refine ql_r (r_pickT rfl hs59 rfl) rfl ?_
          refine ql_nil (to_k0 (fun _ _ h => h) (hK18 _ _ _ _ _ ?_))
          clear hK18
          first | refine wp_condD rfl (fun hc89 => ?_) (fun hc89 => ?_) | refine wp_condN rfl (fun hc89 => ?_) (fun hc89 => ?_) | refine wp_condNB rfl (fun hc89 => ?_) (fun hc89 => ?_) | refine wp_cond' rfl (fun hc89 => ?_) (fun hc89 => ?_)
          ·refine wp_reg ?_
           refine ol_r (r_move rfl) rfl ?_
           refine ol_r (r_add rfl rfl (by omega)) rfl ?_
           refine ol_r (r_assign rfl) rfl ?_
           refine ol_nil (to_k0 (fun _ _ h => h) (hK12 ((js ++ [j49], ks ++ [k49])) _ _ ?_ ?_ (sub_cons (by first | rfl | (first | (rw [rankC_snoc, if_pos (rkB_1 hx56 hx62 how hx67 hs59 hs71)]; rfl) | (rw [rankC_snoc, if_pos ((rkB_2 hx56 hx62 hx74 how hx67 hx79 hs59 hs71 hs83).trans hc89)]; rfl) | (rw [rankC_snoc, if_neg (ne_of_false ((rkB_2 hx56 hx62 hx74 how hx67 hx79 hs59 hs71 hs83).trans hc89))]; rfl) | (rw [rankC_snoc, if_neg (ne_of_false (rkB_3 hx56 hx62 hx74 how hx67 hx79 hs59 hs71 hs83))]; rfl) | (rw [rankC_snoc, if_neg (ne_of_false (rkB_4 hx56 hs59))]; rfl))) sub_nil) (sub_cons rfl (sub_cons rfl (sub_cons rfl (sub_cons rfl (sub_cons rfl (sub_cons rfl (sub_cons rfl sub_nil))))))) (by exact (subH_same rfl subH_nil)) subH_nil))
           ·try dsimp only
            exact hV.step hj49 (by rw [pKeys, List.getElem?_map, hv49]; rfl)
           ·try dsimp only
            rw [List.length_append, List.length_singleton]; omega
          ·refine wp_skip' (to_k0 (fun _ _ h => h) (hK12 ((js ++ [j49], ks ++ [k49])) _ _ ?_ ?_ (sub_cons (by first | rfl | (first | (rw [rankC_snoc, if_pos (rkB_1 hx56 hx62 how hx67 hs59 hs71)]; rfl) | (rw [rankC_snoc, if_pos ((rkB_2 hx56 hx62 hx74 how hx67 hx79 hs59 hs71 hs83).trans hc89)]; rfl) | (rw [rankC_snoc, if_neg (ne_of_false ((rkB_2 hx56 hx62 hx74 how hx67 hx79 hs59 hs71 hs83).trans hc89))]; rfl) | (rw [rankC_snoc, if_neg (ne_of_false (rkB_3 hx56 hx62 hx74 how hx67 hx79 hs59 hs71 hs83))]; rfl) | (rw [rankC_snoc, if_neg (ne_of_false (rkB_4 hx56 hs59))]; rfl))) sub_nil) (sub_cons rfl (sub_cons rfl (sub_cons rfl (sub_cons rfl (sub_cons rfl (sub_cons rfl (sub_cons rfl sub_nil))))))) (by exact (subH_same rfl subH_nil)) subH_nil))
           ·try dsimp only
            exact hV.step hj49 (by rw [pKeys, List.getElem?_map, hv49]; rfl)
           ·try dsimp only
            rw [List.length_append, List.length_singleton]; omega
         ·have phs83 := hs83; try simp only [decide_eq_true_eq, decide_eq_false_iff_not, Bool.not_eq_true', Bool.not_eq_false', Bool.not_true, Bool.not_false] at phs83
          refine ql_s rfl rfl hs83 rfl ?_
          refine ql_s rfl rfl hs83 rfl ?_
          refine ql_s rfl rfl hs83 rfl ?_
          refine ql_g rfl rfl hs71 ?_
          refine ql_r (r_pickF rfl hs83 rfl) rfl ?_
          refine ql_g rfl rfl hs59 ?_
          refine ql_r (r_pickF rfl hs71 rfl) rfl ?_
          refine ql_r (r_pickT rfl hs59 rfl) rfl ?_
          refine ql_nil (to_k0 (fun _ _ h => h) (hK18 _ _ _ _ _ ?_))
          clear hK18
          refine wp_condF rfl ?_
          refine wp_skip' (to_k0 (fun _ _ h => h) (hK12 ((js ++ [j49], ks ++ [k49])) _ _ ?_ ?_ (sub_cons (by first | rfl | (first | (rw [rankC_snoc, if_pos (rkB_1 hx56 hx62 how hx67 hs59 hs71)]; rfl) | (rw [rankC_snoc, if_pos ((rkB_2 hx56 hx62 hx74 how hx67 hx79 hs59 hs71 hs83).trans hc89)]; rfl) | (rw [rankC_snoc, if_neg (ne_of_false ((rkB_2 hx56 hx62 hx74 how hx67 hx79 hs59 hs71 hs83).trans hc89))]; rfl) | (rw [rankC_snoc, if_neg (ne_of_false (rkB_3 hx56 hx62 hx74 how hx67 hx79 hs59 hs71 hs83))]; rfl) | (rw [rankC_snoc, if_neg (ne_of_false (rkB_4 hx56 hs59))]; rfl))) sub_nil) (sub_cons rfl (sub_cons rfl (sub_cons rfl (sub_cons rfl (sub_cons rfl (sub_cons rfl (sub_cons rfl sub_nil))))))) (by exact (subH_same rfl subH_nil)) subH_nil))
          ·try dsimp only
           exact hV.step hj49 (by rw [pKeys, List.getElem?_map, hv49]; rfl)
          ·try dsimp only
           rw [List.length_append, List.length_singleton]; omega
       ·have phs59 := hs59; try simp only [decide_eq_true_eq, decide_eq_false_iff_not, Bool.not_eq_true', Bool.not_eq_false', Bool.not_true, Bool.not_false] at phs59
        refine ql_s rfl rfl hs59 rfl ?_
        refine ql_s rfl rfl hs59 rfl ?_
        refine ql_s rfl rfl hs59 rfl ?_
        refine ql_s rfl rfl hs59 rfl ?_
        refine ql_s rfl rfl hs59 rfl ?_
        refine ql_s rfl rfl hs59 rfl ?_
        refine ql_s rfl rfl hs59 rfl ?_
        refine ql_s rfl rfl hs59 rfl ?_
        refine ql_s rfl rfl hs59 rfl ?_
        refine ql_s rfl rfl hs59 rfl ?_
        refine ql_s rfl rfl hs59 rfl ?_
        refine ql_s rfl rfl hs59 rfl ?_
        refine ql_u rfl rfl rfl ?_
        refine ql_u rfl rfl rfl ?_
        refine ql_u rfl rfl rfl ?_
        refine ql_u rfl rfl rfl ?_
        refine ql_u rfl rfl rfl ?_
        refine ql_u rfl rfl rfl ?_
        refine ql_u rfl rfl rfl ?_
        refine ql_u rfl rfl rfl ?_
        refine ql_u rfl rfl rfl ?_
        refine ql_u rfl rfl rfl ?_
        refine ql_u rfl rfl rfl ?_
        refine ql_u rfl rfl rfl ?_
        refine ql_u rfl rfl rfl ?_
        refine ql_u rfl rfl rfl ?_
        refine ql_u rfl rfl rfl ?_
        refine ql_u rfl rfl rfl ?_
        refine ql_s rfl rfl hs59 rfl ?_
        refine ql_r (r_pickF rfl hs59 rfl) rfl ?_
        refine ql_nil (to_k0 (fun _ _ h => h) (hK18 _ _ _ _ _ ?_))
        clear hK18
        refine wp_condF rfl ?_
        refine wp_skip' (to_k0 (fun _ _ h => h) (hK12 ((js ++ [j49], ks ++ [k49])) _ _ ?_ ?_ (sub_cons (by first | rfl | (first | (rw [rankC_snoc, if_pos (rkB_1 hx56 hx62 how hx67 hs59 hs71)]; rfl) | (rw [rankC_snoc, if_pos ((rkB_2 hx56 hx62 hx74 how hx67 hx79 hs59 hs71 hs83).trans hc89)]; rfl) | (rw [rankC_snoc, if_neg (ne_of_false ((rkB_2 hx56 hx62 hx74 how hx67 hx79 hs59 hs71 hs83).trans hc89))]; rfl) | (rw [rankC_snoc, if_neg (ne_of_false (rkB_3 hx56 hx62 hx74 how hx67 hx79 hs59 hs71 hs83))]; rfl) | (rw [rankC_snoc, if_neg (ne_of_false (rkB_4 hx56 hs59))]; rfl))) sub_nil) (sub_cons rfl (sub_cons rfl (sub_cons rfl (sub_cons rfl (sub_cons rfl (sub_cons rfl (sub_cons rfl sub_nil))))))) (by exact (subH_same rfl subH_nil)) subH_nil))
        ·try dsimp only
         exact hV.step hj49 (by rw [pKeys, List.getElem?_map, hv49]; rfl)
        ·try dsimp only
         rw [List.length_append, List.length_singleton]; omega
end Go.Proofs.Ytafkojlccknicaa

/-
  Books: ranks of the reference's.
-/

namespace Go.Proofs.Ytafkojlccknicaa
open Go Go.RowKit Hx
set_option linter.unusedVariables false
set_option linter.unusedSimpArgs false
set_option maxRecDepth 8000
theorem rankR_none {cur : Cur} {has : Bool} {ks : List ByteArray} {zs : List Int} {z : Int} {nm : ByteArray} (h : idxZ zs z = none) : rankR cur has ks zs z nm = (0, false, 4) := by
  unfold rankR; rw [h]
theorem rankR_no {cur : Cur} {ks : List ByteArray} {zs : List Int} {z : Int} {nm : ByteArray} : rankR cur false ks zs z nm = (0, false, 4) := by
  unfold rankR; cases idxZ zs z <;> rfl
theorem rankR_some {cur : Cur} {ks : List ByteArray} {zs : List Int} {z : Int} {nm : ByteArray} {k : Nat} {own : BestR} (h : idxZ zs z = some k) (ho : (cur nm)[k]? = some own) : rankR cur true ks zs z nm = if own.found = true then ((rankC cur k own nm ks : Int), true, 0) else (0, false, 0) := by
  unfold rankR; rw [h]; dsimp only; rw [ho]
theorem eff_RankA (w : World) (bb bm : Nat) (az : Option Addr) (nz cz : Nat) (zs : List Int) (D : DM) (cur : Cur) (z : Int) (nm : ByteArray) (hK : Bk1 w.heap.size w bb bm az nz cz zs D cur) (hbad : idxI zs z < 0 ∨ (pO D nm).isSome = false) :
    Calls Try.prog 60 #[.pointer (some ⟨bb, 0, none⟩), .int .i64 z, .string nm] w fun e w' => e = .returned (.tuple #[.int .i64 0, .bool false, .int .i64 4]) ∧ Below w.heap.size w w' := by
  have hBk := hK.b
  have hM := hK.m
  have hZ := hK.z
  refine enterQ (N := 93) (C := fun _ => True) (H := []) (B := w.heap.size) (args := [_, _, _]) Try.func60 rfl rfl rfl (Nat.le_refl _) (Sat.nil _ _) fun Q hQ => ?_
  refine wp_seq' fun K1 hK1 => ?_
  refine wp_reg ?_
  refine ol_r (r_assign rfl) rfl ?_
  refine ol_r (r_assign rfl) rfl ?_
  refine ol_r (r_assign rfl) rfl ?_
  refine ol_nil (to_k0 (fun _ _ h => h) (hK1 _ _ _ _ _ ?_))
  clear hK1
  refine wp_seq' fun K2 hK2 => ?_
  refine wp_reg ?_
  refine ol_r (r_move rfl) rfl ?_
  refine ol_r (r_nilS rfl (rfl)) rfl ?_
  refine ol_r (r_fa (o' := 0) rfl fl128_0 rfl) rfl ?_
  refine ol_r (r_ldw rfl (fun w1 hb1 hs1 hB1 => Blk.loads (o := 0) hBk hb1 sc22 rfl)) rfl ?_
  refine ol_r (r_move rfl) rfl ?_
  refine ol_call rfl rfl cb107 rfl (fun w1 hb1 hs1 hB1 => Calls.mono (index_int _ _ _ zs z _ (hZ.at hb1 hB1)) ?_)
  rintro e w2 ⟨rfl, hb2⟩
  refine After.below rfl hb1 hs1 hB1 hb2 ?_
  clear hb2 hB1 hs1 hb1 w2 w1
  refine ol_r (r_assign rfl) rfl ?_
  refine ol_nil (to_k0 (fun _ _ h => h) (hK2 _ _ _ _ _ ?_))
  clear hK2
  refine wp_seq' fun K3 hK3 => ?_
  refine wp_reg ?_
  refine ol_r (r_move rfl) rfl ?_
  refine ol_r (r_nilS rfl (rfl)) rfl ?_
  refine ol_r (r_fa (o' := 1) rfl fl128_1 rfl) rfl ?_
  refine ol_r (r_ldw rfl (fun w1 hb1 hs1 hB1 => Blk.loads (o := 1) hBk hb1 sc81 rfl)) rfl ?_
  refine ol_r (r_move rfl) rfl ?_
  refine ol_r (r_lookR2 (K := Value.string) (V := slV) (z := nilS) hM rfl rfl mk81) rfl ?_
  refine ol_r (r_move rfl) rfl ?_
  refine ol_r (r_extract rfl rfl) rfl ?_
  refine ol_r (r_extract rfl rfl) rfl ?_
  refine ol_r (r_assign rfl) rfl ?_
  refine ol_r (r_assign rfl) rfl ?_
  refine ol_nil (to_k0 (fun _ _ h => h) (hK3 _ _ _ _ _ ?_))
  clear hK3
  refine wp_seq' fun K4 hK4 => ?_
  refine wp_block' ?_
  refine wp_seq' fun K5 hK5 => ?_
  refine wp_reg ?_
  refine ol_r (r_move rfl) rfl ?_
  refine ol_r (r_lss rfl rfl) rfl ?_
  refine ol_r (r_move rfl) rfl ?_
  refine ol_split (d := 33) rfl (fun hs33 => ?_) (fun hs33 => ?_)
  ·have phs33 := hs33; try simp only [decide_eq_true_eq, decide_eq_false_iff_not, Bool.not_eq_true', Bool.not_eq_false', Bool.not_true, Bool.not_false] at phs33
   refine ol_s rfl rfl hs33 rfl ?_
   refine ol_s rfl rfl hs33 rfl ?_
   refine ol_r (r_pickT rfl hs33 rfl) rfl ?_
   refine ol_r (r_assign rfl) rfl ?_
   refine ol_nil (to_k0 (fun _ _ h => h) (hK5 _ _ _ _ _ ?_))
   clear hK5
   refine wp_condT rfl ?_
   refine wp_seq' fun K6 hK6 => ?_
   refine wp_reg ?_
   refine ol_r (r_assign rfl) rfl ?_
   refine ol_r (r_assign rfl) rfl ?_
   refine ol_r (r_assign rfl) rfl ?_
   refine ol_nil (to_k0 (fun _ _ h => h) (hK6 _ _ _ _ _ ?_))
   clear hK6
   refine hQ.ret (rvs3 (rv_t rfl) (rv_t rfl) (rv_t rfl)) (fun _ _ h => h) fun w hb hs hB hkd => ?_
   exact ⟨rfl, hb⟩
  ·have phs33 := hs33; try simp only [decide_eq_true_eq, decide_eq_false_iff_not, Bool.not_eq_true', Bool.not_eq_false', Bool.not_true, Bool.not_false] at phs33
   refine ol_g rfl rfl hs33 ?_
   refine ol_r (r_move rfl) rfl ?_
   refine ol_g rfl rfl hs33 ?_
   refine ol_r (r_not rfl) rfl ?_
   refine ol_r (r_pickF rfl hs33 rfl) rfl ?_
   refine ol_r (r_assign rfl) rfl ?_
   refine ol_nil (to_k0 (fun _ _ h => h) (hK5 _ _ _ _ _ ?_))
   clear hK5
   first | refine wp_condD rfl (fun hc30 => ?_) (fun hc30 => ?_) | refine wp_condN rfl (fun hc30 => ?_) (fun hc30 => ?_) | refine wp_condNB rfl (fun hc30 => ?_) (fun hc30 => ?_) | refine wp_cond' rfl (fun hc30 => ?_) (fun hc30 => ?_)
   ·refine wp_seq' fun K7 hK7 => ?_
    refine wp_reg ?_
    refine ol_r (r_assign rfl) rfl ?_
    refine ol_r (r_assign rfl) rfl ?_
    refine ol_r (r_assign rfl) rfl ?_
    refine ol_nil (to_k0 (fun _ _ h => h) (hK7 _ _ _ _ _ ?_))
    clear hK7
    refine hQ.ret (rvs3 (rv_t rfl) (rv_t rfl) (rv_t rfl)) (fun _ _ h => h) fun w hb hs hB hkd => ?_
    exact ⟨rfl, hb⟩
   ·exfalso
    rcases hbad with h | h
    · have := of_decide_eq_false hs33; omega
    · rw [h] at hc30; cases hc30
theorem eff_Rank (w : World) (bb bm : Nat) (az : Option Addr) (nz cz : Nat) (zs : List Int) (D : DM) (cur : Cur) (z : Int) (nm : ByteArray) (hK : Bk1 w.heap.size w bb bm az nz cz zs D cur) (hcl : ∀ k ∈ pKeys D, (cur k).length = zs.length) :
    Calls Try.prog 60 #[.pointer (some ⟨bb, 0, none⟩), .int .i64 z, .string nm] w fun e w' => e = .returned (.tuple #[.int .i64 (rankR cur (pO D nm).isSome (pKeys D) zs z nm).1, .bool (rankR cur (pO D nm).isSome (pKeys D) zs z nm).2.1, .int .i64 (rankR cur (pO D nm).isSome (pKeys D) zs z nm).2.2]) ∧ Below w.heap.size w w' := by
  cases hik : idxZ zs z with
  | none =>
    rw [rankR_none hik]
    exact eff_RankA w bb bm az nz cz zs D cur z nm hK (.inl (by rw [idxI_eq, hik]; decide))
  | some k =>
    cases hpo : pO D nm with
    | none =>
      rw [show (none : Option Sl).isSome = false from rfl, rankR_no]
      exact eff_RankA w bb bm az nz cz zs D cur z nm hK (.inr (by rw [hpo]; rfl))
    | some v =>
      have hkz := idxZ_lt hik
      have hcn := hcl nm (isSome_mem.1 (by rw [hpo]; rfl))
      have how : (cur nm)[k]? = some ((cur nm)[k]'(by omega)) := List.getElem?_eq_getElem _
      refine (eff_RankB w bb bm az nz cz zs D cur z nm k v.1 v.2.1 v.2.2 _ hK hcl hik hpo how).mono ?_
      rintro e w' ⟨rfl, hb⟩
      refine ⟨?_, hb⟩
      rw [show (some v : Option Sl).isSome = true from rfl, rankR_some hik how]
      split <;> rfl
theorem idxI_hit {zs : List Int} {z x : Int} {j : Nat} (hr : zs.Pairwise (· < ·)) (hx : zs[j]? = some x) (he : x = z) : idxI (zs.take (j + 1)) z = j := by
  subst he
  obtain ⟨hj, rfl⟩ := List.getElem?_eq_some_iff.1 hx
  refine idxI_at (k := j) (by rw [List.getElem?_take_of_lt (by omega)]; exact hx) fun y hy => ?_
  rw [List.take_take, Nat.min_eq_left (by omega)] at hy
  obtain ⟨i, hi, rfl⟩ := List.mem_take_iff_getElem.1 hy
  have := List.pairwise_iff_getElem.1 hr i j (by omega) hj (by omega)
  omega
theorem idxI_miss {zs : List Int} {z x : Int} {j : Nat} (hx : zs[j]? = some x) (he : x ≠ z) : idxI (zs.take (j + 1)) z = idxI (zs.take j) z := by
  have h1 : [x].findIdx? (fun y => y == z) = none := by
    rw [List.findIdx?_eq_none_iff]
    intro y hy
    rw [List.mem_singleton] at hy; subst hy
    simpa using he
  rw [take_succ_get hx, idxI, idxI, List.findIdx?_append, h1]
  simp
theorem ref4_RankA (w : World) (xb xm : Nat) (az : Option Addr) (nz cz : Nat) (zs : List Int) (an : Option Addr) (nn cn : Nat) (names : List ByteArray) (D : DM) (cur : Cur) (z : Int) (nm : ByteArray) (hK : Bk2 w.heap.size w xb xm az nz cz zs an nn cn names D cur) (hr : zs.Pairwise (· < ·)) (hbad : idxI zs z < 0 ∨ (pO D nm).isSome = false) :
    Calls Try.prog 61 #[.pointer (some ⟨xb, 0, none⟩), .int .i64 z, .string nm] w fun e w' => e = .returned (.tuple #[.int .i64 0, .bool false, .int .i64 4]) ∧ Below w.heap.size w w' := by
  have hBk := hK.b
  have hM := hK.m
  have hZ := hK.z
  have hS := hK.s
  have hzn := hZ.len
  have hzr := hZ.fit
  refine enterQ (N := 103) (C := fun _ => True) (H := []) (B := w.heap.size) (args := [_, _, _]) Try.func61 rfl rfl rfl (Nat.le_refl _) (Sat.nil _ _) fun Q hQ => ?_
  refine wp_seq' fun K1 hK1 => ?_
  refine wp_reg ?_
  refine ol_r (r_assign rfl) rfl ?_
  refine ol_r (r_assign rfl) rfl ?_
  refine ol_r (r_assign rfl) rfl ?_
  refine ol_nil (to_k0 (fun _ _ h => h) (hK1 _ _ _ _ _ ?_))
  clear hK1
  refine wp_seq' fun K2 hK2 => ?_
  refine wp_reg ?_
  refine ol_r (r_assign rfl) rfl ?_
  refine ol_nil (to_k0 (fun _ _ h => h) (hK2 _ _ _ _ _ ?_))
  clear hK2
  refine wp_seq' fun K3 hK3 => ?_
  refine wp_seq' fun K4 hK4 => ?_
  refine wp_reg ?_
  refine ol_r (r_move rfl) rfl ?_
  refine ol_r (r_nilS rfl (rfl)) rfl ?_
  refine ol_r (r_fa (o' := 0) rfl fl130_0 rfl) rfl ?_
  refine ol_r (r_ldw rfl (fun w1 hb1 hs1 hB1 => Blk.loads (o := 0) hBk hb1 sc22 rfl)) rfl ?_
  refine ol_r (r_len rfl sl22) rfl ?_
  refine ol_r (r_move rfl) rfl ?_
  refine ol_nil (to_k0 (fun _ _ h => h) (hK4 _ _ _ _ _ ?_))
  clear hK4
  refine wp_block' ?_
  apply wp_loopM (σ := Nat × Int) (fun s => s.1 ≤ nz ∧ s.2 = idxI (zs.take s.1) z) (fun s => [(23, .int .i64 s.1), (9, .int .i64 s.2)]) [(0, _), (1, _), (2, _), (6, _), (7, _), (8, _), (21, _), (22, _)] (fun s => []) [] (fun s => nz - s.1) ((0, -1))
  ·try dsimp only
   exact ⟨Nat.zero_le _, rfl⟩
  ·exact (sub_cons rfl (sub_cons rfl sub_nil))
  ·exact (sub_cons rfl (sub_cons rfl (sub_cons rfl (sub_cons rfl (sub_cons rfl (sub_cons rfl (sub_cons rfl (sub_cons rfl sub_nil))))))))
  ·exact subH_nil
  ·exact subH_nil
  ·rintro ⟨j, v⟩ ⟨hj, hv⟩
   dsimp only at hj hv ⊢
   intro K5 hK5
   refine wp_seq' fun K6 hK6 => ?_
   refine wp_reg ?_
   refine ol_r (r_lss rfl rfl) rfl ?_
   refine ol_nil (to_k0 (fun _ _ h => h) (hK6 _ _ _ _ _ ?_))
   clear hK6
   refine wp_seq' fun K7 hK7 => ?_
   first | refine wp_condD rfl (fun hc24 => ?_) (fun hc24 => ?_) | refine wp_condN rfl (fun hc24 => ?_) (fun hc24 => ?_) | refine wp_condNB rfl (fun hc24 => ?_) (fun hc24 => ?_) | refine wp_cond' rfl (fun hc24 => ?_) (fun hc24 => ?_)
   ·refine wp_skip' (to_k0 (fun _ _ h => h) (hK7 _ _ _ _ _ ?_))
    clear hK7
    refine wp_seq' fun K8 hK8 => ?_
    refine wp_block' ?_
    refine wp_seq' fun K9 hK9 => ?_
    refine wp_reg ?_
    refine ol_r (r_move rfl) rfl ?_
    refine ol_ixr hZ rfl rfl sl22 (by omega) rfl fun x26 hx26 => ?_
    try simp only [Int.toNat_natCast] at hx26
    refine ol_r (r_ldw rfl (fun w1 hb1 hs1 hB1 => show Loads _ _ _ _ (.int .i64 x26) from Rd.loads hZ ty3 hx26 hb1)) rfl ?_
    refine ol_r (r_assign rfl) rfl ?_
    refine ol_r (r_assign rfl) rfl ?_
    refine ol_nil (to_k0 (fun _ _ h => h) (hK9 _ _ _ _ _ ?_))
    clear hK9
    refine wp_seq' fun K10 hK10 => ?_
    refine wp_reg ?_
    refine ol_r (r_move rfl) rfl ?_
    refine ol_r (r_move rfl) rfl ?_
    refine ol_r (r_eql rfl rfl) rfl ?_
    refine ol_nil (to_k0 (fun _ _ h => h) (hK10 _ _ _ _ _ ?_))
    clear hK10
    first | refine wp_condD rfl (fun hc30 => ?_) (fun hc30 => ?_) | refine wp_condN rfl (fun hc30 => ?_) (fun hc30 => ?_) | refine wp_condNB rfl (fun hc30 => ?_) (fun hc30 => ?_) | refine wp_cond' rfl (fun hc30 => ?_) (fun hc30 => ?_)
    ·refine wp_reg ?_
     refine ol_r (r_move rfl) rfl ?_
     refine ol_r (r_assign rfl) rfl ?_
     refine ol_nil (to_k0 (fun _ _ h => h) (hK8 _ _ _ _ _ ?_))
     clear hK8
     refine wp_reg ?_
     refine ol_r (r_add rfl rfl (by omega)) rfl ?_
     refine ol_r (r_move rfl) rfl ?_
     refine ol_nil (to_k0 (fun _ _ h => h) (hK5 ((j + 1, (j : Int))) _ _ ?_ ?_ (sub_cons rfl (sub_cons rfl sub_nil)) (sub_cons rfl (sub_cons rfl (sub_cons rfl (sub_cons rfl (sub_cons rfl (sub_cons rfl (sub_cons rfl (sub_cons rfl sub_nil)))))))) (by exact subH_nil) subH_nil))
     ·try dsimp only
      exact ⟨by omega, (idxI_hit hr hx26 hc30).symm⟩
     ·try dsimp only
      omega
    ·refine wp_skip' (to_k0 (fun _ _ h => h) (hK8 _ _ _ _ _ ?_))
     clear hK8
     refine wp_reg ?_
     refine ol_r (r_add rfl rfl (by omega)) rfl ?_
     refine ol_r (r_move rfl) rfl ?_
     refine ol_nil (to_k0 (fun _ _ h => h) (hK5 ((j + 1, v)) _ _ ?_ ?_ (sub_cons rfl (sub_cons rfl sub_nil)) (sub_cons rfl (sub_cons rfl (sub_cons rfl (sub_cons rfl (sub_cons rfl (sub_cons rfl (sub_cons rfl (sub_cons rfl sub_nil)))))))) (by exact subH_nil) subH_nil))
     ·try dsimp only
      exact ⟨by omega, by rw [idxI_miss hx26 hc30]; exact hv⟩
     ·try dsimp only
      omega
   ·refine wp_exit' (to_k0 (fun _ _ h => h) (hK3 _ _ _ _ _ ?_))
    clear hK3
    refine wp_seq' fun K11 hK11 => ?_
    refine wp_reg ?_
    refine ol_r (r_move rfl) rfl ?_
    refine ol_r (r_nilS rfl (rfl)) rfl ?_
    rw [List.take_of_length_le (by omega)] at hv
    refine ol_r (r_fa (o' := 2) rfl fl130_2 rfl) rfl ?_
    refine ol_r (r_ldw rfl (fun w1 hb1 hs1 hB1 => Blk.loads (o := 2) hBk hb1 sc81 rfl)) rfl ?_
    refine ol_r (r_move rfl) rfl ?_
    refine ol_r (r_lookR2 (K := Value.string) (V := slV) (z := nilS) hM rfl rfl mk81) rfl ?_
    refine ol_r (r_move rfl) rfl ?_
    refine ol_r (r_extract rfl rfl) rfl ?_
    refine ol_r (r_extract rfl rfl) rfl ?_
    refine ol_r (r_assign rfl) rfl ?_
    refine ol_r (r_assign rfl) rfl ?_
    refine ol_nil (to_k0 (fun _ _ h => h) (hK11 _ _ _ _ _ ?_))
    clear hK11
    refine wp_seq' fun K12 hK12 => ?_
    refine wp_seq' fun K13 hK13 => ?_
    refine wp_reg ?_
    refine ol_r (r_move rfl) rfl ?_
    refine ol_r (r_lss rfl rfl) rfl ?_
    refine ol_r (r_move rfl) rfl ?_
    refine ol_split (d := 44) rfl (fun hs44 => ?_) (fun hs44 => ?_)
    ·have phs44 := hs44; try simp only [decide_eq_true_eq, decide_eq_false_iff_not, Bool.not_eq_true', Bool.not_eq_false', Bool.not_true, Bool.not_false] at phs44
     refine ol_s rfl rfl hs44 rfl ?_
     refine ol_s rfl rfl hs44 rfl ?_
     refine ol_r (r_pickT rfl hs44 rfl) rfl ?_
     refine ol_nil (to_k0 (fun _ _ h => h) (hK13 _ _ _ _ _ ?_))
     clear hK13
     refine wp_condT rfl ?_
     refine wp_seq' fun K14 hK14 => ?_
     refine wp_reg ?_
     refine ol_r (r_assign rfl) rfl ?_
     refine ol_r (r_assign rfl) rfl ?_
     refine ol_r (r_assign rfl) rfl ?_
     refine ol_nil (to_k0 (fun _ _ h => h) (hK14 _ _ _ _ _ ?_))
     clear hK14
     refine hQ.ret (rvs3 (rv_t rfl) (rv_t rfl) (rv_t rfl)) (fun _ _ h => h) fun w hb hs hB hkd => ?_
     exact ⟨rfl, hb⟩
    ·have phs44 := hs44; try simp only [decide_eq_true_eq, decide_eq_false_iff_not, Bool.not_eq_true', Bool.not_eq_false', Bool.not_true, Bool.not_false] at phs44
     refine ol_g rfl rfl hs44 ?_
     refine ol_r (r_move rfl) rfl ?_
     refine ol_g rfl rfl hs44 ?_
     refine ol_r (r_not rfl) rfl ?_
     refine ol_r (r_pickF rfl hs44 rfl) rfl ?_
     refine ol_nil (to_k0 (fun _ _ h => h) (hK13 _ _ _ _ _ ?_))
     clear hK13
     first | refine wp_condD rfl (fun hc47 => ?_) (fun hc47 => ?_) | refine wp_condN rfl (fun hc47 => ?_) (fun hc47 => ?_) | refine wp_condNB rfl (fun hc47 => ?_) (fun hc47 => ?_) | refine wp_cond' rfl (fun hc47 => ?_) (fun hc47 => ?_)
     ·refine wp_seq' fun K15 hK15 => ?_
      refine wp_reg ?_
      refine ol_r (r_assign rfl) rfl ?_
      refine ol_r (r_assign rfl) rfl ?_
      refine ol_r (r_assign rfl) rfl ?_
      refine ol_nil (to_k0 (fun _ _ h => h) (hK15 _ _ _ _ _ ?_))
      clear hK15
      refine hQ.ret (rvs3 (rv_t rfl) (rv_t rfl) (rv_t rfl)) (fun _ _ h => h) fun w hb hs hB hkd => ?_
      exact ⟨rfl, hb⟩
     ·exfalso
      rcases hbad with h | h
      · have := of_decide_eq_false hs44; omega
      · rw [h] at hc47; cases hc47
theorem ref4_RankB (w : World) (xb xm : Nat) (az : Option Addr) (nz cz : Nat) (zs : List Int) (an : Option Addr) (nn cn : Nat) (names : List ByteArray) (D : DM) (cur : Cur) (z : Int) (nm : ByteArray) (k : Nat) (ao : Option Addr) (no co : Nat) (own : BestR) (hK : Bk2 w.heap.size w xb xm az nz cz zs an nn cn names D cur) (hr : zs.Pairwise (· < ·)) (hcl : ∀ k ∈ pKeys D, (cur k).length = zs.length) (hik : idxZ zs z = some k) (hpo : pO D nm = some (ao, no, co)) (how : (cur nm)[k]? = some own) :
    Calls Try.prog 61 #[.pointer (some ⟨xb, 0, none⟩), .int .i64 z, .string nm] w fun e w' => e = .returned (.tuple (if own.found = true then #[.int .i64 (rankC cur k own nm (pKeys D)), .bool true, .int .i64 0] else #[.int .i64 0, .bool false, .int .i64 0])) ∧ Below w.heap.size w w' := by
  have hBk := hK.b
  have hM := hK.m
  have hZ := hK.z
  have hS := hK.s
  have hln := hK.ln
  have hzn := hZ.len
  have hkz := idxZ_lt hik
  obtain ⟨hnl, hnd⟩ := hK.nl
  have hO : Rd encBest w.heap.size w ao no co (cur nm) := hK.r _ (pO_mem hpo)
  have hol := hO.len
  have hcn := hcl nm (isSome_mem.1 (by rw [hpo]; rfl))
  have hzr := hZ.fit
  refine enterQ (N := 103) (C := fun _ => True) (H := []) (B := w.heap.size) (args := [_, _, _]) Try.func61 rfl rfl rfl (Nat.le_refl _) (Sat.nil _ _) fun Q hQ => ?_
  refine wp_seq' fun K1 hK1 => ?_
  refine wp_reg ?_
  refine ol_r (r_assign rfl) rfl ?_
  refine ol_r (r_assign rfl) rfl ?_
  refine ol_r (r_assign rfl) rfl ?_
  refine ol_nil (to_k0 (fun _ _ h => h) (hK1 _ _ _ _ _ ?_))
  clear hK1
  refine wp_seq' fun K2 hK2 => ?_
  refine wp_reg ?_
  refine ol_r (r_assign rfl) rfl ?_
  refine ol_nil (to_k0 (fun _ _ h => h) (hK2 _ _ _ _ _ ?_))
  clear hK2
  refine wp_seq' fun K3 hK3 => ?_
  refine wp_seq' fun K4 hK4 => ?_
  refine wp_reg ?_
  refine ol_r (r_move rfl) rfl ?_
  refine ol_r (r_nilS rfl (rfl)) rfl ?_
  refine ol_r (r_fa (o' := 0) rfl fl130_0 rfl) rfl ?_
  refine ol_r (r_ldw rfl (fun w1 hb1 hs1 hB1 => Blk.loads (o := 0) hBk hb1 sc22 rfl)) rfl ?_
  refine ol_r (r_len rfl sl22) rfl ?_
  refine ol_r (r_move rfl) rfl ?_
  refine ol_nil (to_k0 (fun _ _ h => h) (hK4 _ _ _ _ _ ?_))
  clear hK4
  refine wp_block' ?_
  apply wp_loopM (σ := Nat × Int) (fun s => s.1 ≤ nz ∧ s.2 = idxI (zs.take s.1) z) (fun s => [(23, .int .i64 s.1), (9, .int .i64 s.2)]) [(0, _), (1, _), (2, _), (6, _), (7, _), (8, _), (21, _), (22, _)] (fun s => []) [] (fun s => nz - s.1) ((0, -1))
  ·try dsimp only
   exact ⟨Nat.zero_le _, rfl⟩
  ·exact (sub_cons rfl (sub_cons rfl sub_nil))
  ·exact (sub_cons rfl (sub_cons rfl (sub_cons rfl (sub_cons rfl (sub_cons rfl (sub_cons rfl (sub_cons rfl (sub_cons rfl sub_nil))))))))
  ·exact subH_nil
  ·exact subH_nil
  ·rintro ⟨j, v⟩ ⟨hj, hv⟩
   dsimp only at hj hv ⊢
   intro K5 hK5
   refine wp_seq' fun K6 hK6 => ?_
   refine wp_reg ?_
   refine ol_r (r_lss rfl rfl) rfl ?_
   refine ol_nil (to_k0 (fun _ _ h => h) (hK6 _ _ _ _ _ ?_))
   clear hK6
   refine wp_seq' fun K7 hK7 => ?_
   first | refine wp_condD rfl (fun hc24 => ?_) (fun hc24 => ?_) | refine wp_condN rfl (fun hc24 => ?_) (fun hc24 => ?_) | refine wp_condNB rfl (fun hc24 => ?_) (fun hc24 => ?_) | refine wp_cond' rfl (fun hc24 => ?_) (fun hc24 => ?_)
   ·refine wp_skip' (to_k0 (fun _ _ h => h) (hK7 _ _ _ _ _ ?_))
    clear hK7
    refine wp_seq' fun K8 hK8 => ?_
    refine wp_block' ?_
    refine wp_seq' fun K9 hK9 => ?_
    refine wp_reg ?_
    refine ol_r (r_move rfl) rfl ?_
    refine ol_ixr hZ rfl rfl sl22 (by omega) rfl fun x26 hx26 => ?_
    try simp only [Int.toNat_natCast] at hx26
    refine ol_r (r_ldw rfl (fun w1 hb1 hs1 hB1 => show Loads _ _ _ _ (.int .i64 x26) from Rd.loads hZ ty3 hx26 hb1)) rfl ?_
    refine ol_r (r_assign rfl) rfl ?_
    refine ol_r (r_assign rfl) rfl ?_
    refine ol_nil (to_k0 (fun _ _ h => h) (hK9 _ _ _ _ _ ?_))
    clear hK9
    refine wp_seq' fun K10 hK10 => ?_
    refine wp_reg ?_
    refine ol_r (r_move rfl) rfl ?_
    refine ol_r (r_move rfl) rfl ?_
    refine ol_r (r_eql rfl rfl) rfl ?_
    refine ol_nil (to_k0 (fun _ _ h => h) (hK10 _ _ _ _ _ ?_))
    clear hK10
    first | refine wp_condD rfl (fun hc30 => ?_) (fun hc30 => ?_) | refine wp_condN rfl (fun hc30 => ?_) (fun hc30 => ?_) | refine wp_condNB rfl (fun hc30 => ?_) (fun hc30 => ?_) | refine wp_cond' rfl (fun hc30 => ?_) (fun hc30 => ?_)
    ·refine wp_reg ?_
     refine ol_r (r_move rfl) rfl ?_
     refine ol_r (r_assign rfl) rfl ?_
     refine ol_nil (to_k0 (fun _ _ h => h) (hK8 _ _ _ _ _ ?_))
     clear hK8
     refine wp_reg ?_
     refine ol_r (r_add rfl rfl (by omega)) rfl ?_
     refine ol_r (r_move rfl) rfl ?_
     refine ol_nil (to_k0 (fun _ _ h => h) (hK5 ((j + 1, (j : Int))) _ _ ?_ ?_ (sub_cons rfl (sub_cons rfl sub_nil)) (sub_cons rfl (sub_cons rfl (sub_cons rfl (sub_cons rfl (sub_cons rfl (sub_cons rfl (sub_cons rfl (sub_cons rfl sub_nil)))))))) (by exact subH_nil) subH_nil))
     ·try dsimp only
      exact ⟨by omega, (idxI_hit hr hx26 hc30).symm⟩
     ·try dsimp only
      omega
    ·refine wp_skip' (to_k0 (fun _ _ h => h) (hK8 _ _ _ _ _ ?_))
     clear hK8
     refine wp_reg ?_
     refine ol_r (r_add rfl rfl (by omega)) rfl ?_
     refine ol_r (r_move rfl) rfl ?_
     refine ol_nil (to_k0 (fun _ _ h => h) (hK5 ((j + 1, v)) _ _ ?_ ?_ (sub_cons rfl (sub_cons rfl sub_nil)) (sub_cons rfl (sub_cons rfl (sub_cons rfl (sub_cons rfl (sub_cons rfl (sub_cons rfl (sub_cons rfl (sub_cons rfl sub_nil)))))))) (by exact subH_nil) subH_nil))
     ·try dsimp only
      exact ⟨by omega, by rw [idxI_miss hx26 hc30]; exact hv⟩
     ·try dsimp only
      omega
   ·refine wp_exit' (to_k0 (fun _ _ h => h) (hK3 _ _ _ _ _ ?_))
    clear hK3
    refine wp_seq' fun K11 hK11 => ?_
    refine wp_reg ?_
    refine ol_r (r_move rfl) rfl ?_
    refine ol_r (r_nilS rfl (rfl)) rfl ?_
    rw [List.take_of_length_le (by omega), idxI_eq, hik] at hv
    dsimp only at hv
    subst hv
    refine ol_r (r_fa (o' := 2) rfl fl130_2 rfl) rfl ?_
    refine ol_r (r_ldw rfl (fun w1 hb1 hs1 hB1 => Blk.loads (o := 2) hBk hb1 sc81 rfl)) rfl ?_
    refine ol_r (r_move rfl) rfl ?_
    refine ol_r (Runs.val (show Value.tuple #[slV ((pO D nm).getD nilS), .bool (pO D nm).isSome] = .tuple #[.slice ao no co, .bool true] by rw [hpo]; rfl) (r_lookR2 (K := Value.string) (V := slV) (z := nilS) (k := nm) hM rfl rfl mk81)) rfl ?_
    refine ol_r (r_move rfl) rfl ?_
    refine ol_r (r_extract rfl rfl) rfl ?_
    refine ol_r (r_extract rfl rfl) rfl ?_
    refine ol_r (r_assign rfl) rfl ?_
    refine ol_r (r_assign rfl) rfl ?_
    refine ol_nil (to_k0 (fun _ _ h => h) (hK11 _ _ _ _ _ ?_))
    clear hK11
    refine wp_seq' fun K12 hK12 => ?_
    refine wp_seq' fun K13 hK13 => ?_
    refine wp_reg ?_
    refine ol_r (r_move rfl) rfl ?_
    refine ol_r (r_lss rfl rfl) rfl ?_
    refine ol_r (r_move rfl) rfl ?_
    refine ol_split (d := 44) rfl (fun hs44 => ?_) (fun hs44 => ?_)
    ·have phs44 := hs44; try simp only [decide_eq_true_eq, decide_eq_false_iff_not, Bool.not_eq_true', Bool.not_eq_false', Bool.not_true, Bool.not_false] at phs44
     refine ol_s rfl rfl hs44 rfl ?_
     refine ol_s rfl rfl hs44 rfl ?_
     refine ol_r (r_pickT rfl hs44 rfl) rfl ?_
     refine ol_nil (to_k0 (fun _ _ h => h) (hK13 _ _ _ _ _ ?_))
     clear hK13
     refine wp_condT rfl ?_
     refine wp_seq' fun K14 hK14 => ?_
     refine wp_reg ?_
     refine ol_r (r_assign rfl) rfl ?_
     refine ol_r (r_assign rfl) rfl ?_
     refine ol_r (r_assign rfl) rfl ?_
     refine ol_nil (to_k0 (fun _ _ h => h) (hK14 _ _ _ _ _ ?_))
     clear hK14
     refine hQ.ret (rvs3 (rv_t rfl) (rv_t rfl) (rv_t rfl)) (fun _ _ h => h) fun w hb hs hB hkd => ?_
     exfalso; have := of_decide_eq_true hs44; omega
    ·have phs44 := hs44; try simp only [decide_eq_true_eq, decide_eq_false_iff_not, Bool.not_eq_true', Bool.not_eq_false', Bool.not_true, Bool.not_false] at phs44
     refine ol_g rfl rfl hs44 ?_
     refine ol_r (r_move rfl) rfl ?_
     refine ol_g rfl rfl hs44 ?_
     refine ol_r (r_not rfl) rfl ?_
     refine ol_r (r_pickF rfl hs44 rfl) rfl ?_
     refine ol_nil (to_k0 (fun _ _ h => h) (hK13 _ _ _ _ _ ?_))
     clear hK13
     first | refine wp_condD rfl (fun hc47 => ?_) (fun hc47 => ?_) | refine wp_condN rfl (fun hc47 => ?_) (fun hc47 => ?_) | refine wp_condNB rfl (fun hc47 => ?_) (fun hc47 => ?_) | refine wp_cond' rfl (fun hc47 => ?_) (fun hc47 => ?_)
     ·exfalso
      simp at hc47
     ·refine wp_skip' (to_k0 (fun _ _ h => h) (hK12 _ _ _ _ _ ?_))
      clear hK12
      refine wp_seq' fun K15 hK15 => ?_
      refine wp_seq' fun K16 hK16 => ?_
      refine wp_reg ?_
      refine ol_r (r_move rfl) rfl ?_
      refine ol_r (r_move rfl) rfl ?_
      refine ol_ixr hO rfl rfl sl38 (by omega) rfl fun x50 hx50 => ?_
      try simp only [Int.toNat_natCast] at hx50
      refine ol_r (r_faw rfl (ix_some hO (by omega)) fl24_3) rfl ?_
      refine ol_r (r_ldw rfl (fun w1 hb1 hs1 hB1 => Rd.loadsF (o := 3) hO sc4 hx50 hb1 rfl)) rfl ?_
      refine ol_r (r_not rfl) rfl ?_
      refine ol_nil (to_k0 (fun _ _ h => h) (hK16 _ _ _ _ _ ?_))
      clear hK16
      first | refine wp_condD rfl (fun hc53 => ?_) (fun hc53 => ?_) | refine wp_condN rfl (fun hc53 => ?_) (fun hc53 => ?_) | refine wp_condNB rfl (fun hc53 => ?_) (fun hc53 => ?_) | refine wp_cond' rfl (fun hc53 => ?_) (fun hc53 => ?_)
      ·refine wp_seq' fun K17 hK17 => ?_
       refine wp_reg ?_
       refine ol_r (r_assign rfl) rfl ?_
       refine ol_r (r_assign rfl) rfl ?_
       refine ol_r (r_assign rfl) rfl ?_
       refine ol_nil (to_k0 (fun _ _ h => h) (hK17 _ _ _ _ _ ?_))
       clear hK17
       refine hQ.ret (rvs3 (rv_t rfl) (rv_t rfl) (rv_t rfl)) (fun _ _ h => h) fun w hb hs hB hkd => ?_
       rw [how] at hx50; cases hx50
       rw [if_neg (by simpa using hc53)]; exact ⟨rfl, hb⟩
      ·refine wp_skip' (to_k0 (fun _ _ h => h) (hK15 _ _ _ _ _ ?_))
       clear hK15
       refine wp_seq' fun K18 hK18 => ?_
       refine wp_reg ?_
       refine ol_r (r_assign rfl) rfl ?_
       refine ol_nil (to_k0 (fun _ _ h => h) (hK18 _ _ _ _ _ ?_))
       clear hK18
       refine wp_seq' fun K19 hK19 => ?_
       refine wp_seq' fun K20 hK20 => ?_
       refine wp_reg ?_
       refine ol_r (r_move rfl) rfl ?_
       refine ol_r (r_nilS rfl (rfl)) rfl ?_
       refine ol_r (r_fa (o' := 1) rfl fl130_1 rfl) rfl ?_
       refine ol_r (r_ldw rfl (fun w1 hb1 hs1 hB1 => Blk.loads (o := 1) hBk hb1 sc49 rfl)) rfl ?_
       refine ol_r (r_len rfl sl49) rfl ?_
       refine ol_r (r_move rfl) rfl ?_
       refine ol_nil (to_k0 (fun _ _ h => h) (hK20 _ _ _ _ _ ?_))
       clear hK20
       refine wp_block' ?_
       apply wp_loopM (σ := Nat) (fun s => s ≤ nn) (fun s => [(59, .int .i64 s), (14, .int .i64 (rankC cur k own nm (names.take s)))]) [(0, _), (2, _), (6, _), (7, _), (8, _), (9, _), (12, _), (57, _), (58, _)] (fun s => []) [] (fun s => nn - s) (0)
       ·try dsimp only
        exact Nat.zero_le _
       ·exact (sub_cons rfl (sub_cons rfl sub_nil))
       ·exact (sub_cons rfl (sub_cons rfl (sub_cons rfl (sub_cons rfl (sub_cons rfl (sub_cons rfl (sub_cons rfl (sub_cons rfl (sub_cons rfl sub_nil)))))))))
       ·exact subH_nil
       ·exact subH_nil
       ·intro i hi
        have hrl := rankC_le cur k own nm (names.take i)
        have hrt := List.length_take_le i names
        intro K21 hK21
        refine wp_seq' fun K22 hK22 => ?_
        refine wp_reg ?_
        refine ol_r (r_lss rfl rfl) rfl ?_
        refine ol_nil (to_k0 (fun _ _ h => h) (hK22 _ _ _ _ _ ?_))
        clear hK22
        refine wp_seq' fun K23 hK23 => ?_
        first | refine wp_condD rfl (fun hc60 => ?_) (fun hc60 => ?_) | refine wp_condN rfl (fun hc60 => ?_) (fun hc60 => ?_) | refine wp_condNB rfl (fun hc60 => ?_) (fun hc60 => ?_) | refine wp_cond' rfl (fun hc60 => ?_) (fun hc60 => ?_)
        ·refine wp_skip' (to_k0 (fun _ _ h => h) (hK23 _ _ _ _ _ ?_))
         clear hK23
         refine wp_seq' fun K24 hK24 => ?_
         refine wp_block' ?_
         refine wp_seq' fun K25 hK25 => ?_
         refine wp_reg ?_
         refine ol_ixr hS rfl rfl sl49 (by omega) rfl fun x61 hx61 => ?_
         try simp only [Int.toNat_natCast] at hx61
         refine ol_r (r_ldw rfl (fun w1 hb1 hs1 hB1 => Rd.loads hS ty9 hx61 hb1)) rfl ?_
         refine ol_r (r_assign rfl) rfl ?_
         refine ol_nil (to_k0 (fun _ _ h => h) (hK25 _ _ _ _ _ ?_))
         clear hK25
         refine wp_seq' fun K26 hK26 => ?_
         refine wp_reg ?_
         refine ol_r (r_move rfl) rfl ?_
         refine ol_r (r_nilS rfl (rfl)) rfl ?_
         refine ol_r (r_fa (o' := 2) rfl fl130_2 rfl) rfl ?_
         refine ol_r (r_ldw rfl (fun w1 hb1 hs1 hB1 => Blk.loads (o := 2) hBk hb1 sc81 rfl)) rfl ?_
         refine ol_r (r_move rfl) rfl ?_
         have hnD : x61 ∈ pKeys D := by
           have := List.mem_of_getElem? hx61
           rw [hK.nm] at this
           exact mem_ordBA.1 this
         obtain ⟨ac, nc, cc, hpo2, hC⟩ := rd_get hK.r hnD
         have hcc := hC.len
         have hcz := hcl x61 hnD
         refine ol_r (Runs.val (show slV ((pO D x61).getD nilS) = .slice ac nc cc by rw [hpo2]; rfl) (r_lookR1 (K := Value.string) (V := slV) (z := nilS) (k := x61) hM rfl rfl mk81)) rfl ?_
         refine ol_r (r_move rfl) rfl ?_
         refine ol_ixr hC rfl rfl sl38 (by omega) rfl fun x70 hx70 => ?_
         try simp only [Int.toNat_natCast] at hx70
         refine ol_r (r_ldw rfl (fun w1 hb1 hs1 hB1 => Rd.loads hC ty24 hx70 hb1)) rfl ?_
         refine ol_alloc 17 z24 rfl fun b17 => ?_
         refine ol_store (id := 17) rfl rfl rfl rfl sz24 rfl rfl (by first | decide | exact Nat.zero_lt_succ _ | simp) ?_
         refine ol_nil (to_k0 (fun _ _ h => h) (hK26 _ _ _ _ _ ?_))
         clear hK26
         refine wp_seq' fun K27 hK27 => ?_
         refine wp_regq (by kernel_rfl) (by kernel_rfl) ?_
         refine ql_r (r_fa (o' := 3) rfl fl24_3 rfl) rfl ?_
         refine ql_r (r_ld (id := 17) rfl rfl rfl sc4) rfl ?_
         refine ql_r (r_move rfl) rfl ?_
         refine ql_split (d := 74) rfl (fun hs74 => ?_) (fun hs74 => ?_)
         ·have phs74 := hs74; try simp only [decide_eq_true_eq, decide_eq_false_iff_not, Bool.not_eq_true', Bool.not_eq_false', Bool.not_true, Bool.not_false] at phs74
          refine ql_g rfl rfl hs74 ?_
          refine ql_r (r_fa (o' := 1) rfl fl24_1 rfl) rfl ?_
          refine ql_g rfl rfl hs74 ?_
          refine ql_r (r_ld (id := 17) rfl rfl rfl sc3) rfl ?_
          refine ql_g rfl rfl hs74 ?_
          refine ql_r (r_move rfl) rfl ?_
          refine ql_g rfl rfl hs74 ?_
          refine ql_r (r_move rfl) rfl ?_
          refine ql_g rfl rfl hs74 ?_
          refine ql_ixr hO rfl rfl sl38 (by omega) rfl fun x79 hx79 => ?_
          try simp only [Int.toNat_natCast] at hx79
          refine ql_g rfl rfl hs74 ?_
          refine ql_r (r_faw rfl (ix_some hO (by omega)) fl24_1) rfl ?_
          refine ql_g rfl rfl hs74 ?_
          refine ql_r (r_ldw rfl (fun w1 hb1 hs1 hB1 => Rd.loadsF (o := 1) hO sc3 hx79 hb1 rfl)) rfl ?_
          refine ql_g rfl rfl hs74 ?_
          refine ql_r (r_gtr rfl rfl) rfl ?_
          refine ql_g rfl rfl hs74 ?_
          refine ql_r (r_move rfl) rfl ?_
          refine ql_split (d := 83) rfl (fun hs83 => ?_) (fun hs83 => ?_)
          ·have phs83 := hs83; try simp only [decide_eq_true_eq, decide_eq_false_iff_not, Bool.not_eq_true', Bool.not_eq_false', Bool.not_true, Bool.not_false] at phs83
           refine ql_s rfl rfl hs83 rfl ?_
           refine ql_s rfl rfl hs83 rfl ?_
           refine ql_s rfl rfl hs83 rfl ?_
           refine ql_s rfl rfl hs83 rfl ?_
           refine ql_s rfl rfl hs83 rfl ?_
           refine ql_s rfl rfl hs83 rfl ?_
           refine ql_s rfl rfl hs83 rfl ?_
           refine ql_s rfl rfl hs83 rfl ?_
           refine ql_s rfl rfl hs83 rfl ?_
           refine ql_u rfl rfl rfl ?_
           refine ql_u rfl rfl rfl ?_
           refine ql_u rfl rfl rfl ?_
           refine ql_s rfl rfl hs83 rfl ?_
           refine ql_g rfl rfl hs74 ?_
           refine ql_r (r_pickT rfl hs83 rfl) rfl ?_
           refine ql_r (r_pickT rfl hs74 rfl) rfl ?_
           refine ql_nil (to_k0 (fun _ _ h => h) (hK27 _ _ _ _ _ ?_))
           clear hK27
           refine wp_condT rfl ?_
           refine wp_reg ?_
           refine ol_r (r_move rfl) rfl ?_
           refine ol_r (r_add rfl rfl (by omega)) rfl ?_
           refine ol_r (r_assign rfl) rfl ?_
           refine ol_nil (to_k0 (fun _ _ h => h) (hK24 _ _ _ _ _ ?_))
           clear hK24
           refine wp_reg ?_
           refine ol_r (r_add rfl rfl (by omega)) rfl ?_
           refine ol_r (r_move rfl) rfl ?_
           refine ol_nil (to_k0 (fun _ _ h => h) (hK21 (i + 1) _ _ ?_ ?_ (sub_cons (by first | rfl | (first | (rw [take_succ_get hx61, rankC_snoc, if_pos (rkB_1 hx70 hx70 how hx79 hs74 hs83)]; rfl) | (rw [take_succ_get hx61, rankC_snoc, if_pos ((rkB_2 hx70 hx70 hx70 how hx79 hx88 hs74 hs83 hs92).trans hc98)]; rfl) | (rw [take_succ_get hx61, rankC_snoc, if_neg (ne_of_false ((rkB_2 hx70 hx70 hx70 how hx79 hx88 hs74 hs83 hs92).trans hc98))]; rfl) | (rw [take_succ_get hx61, rankC_snoc, if_neg (ne_of_false (rkB_3 hx70 hx70 hx70 how hx79 hx88 hs74 hs83 hs92))]; rfl) | (rw [take_succ_get hx61, rankC_snoc, if_neg (ne_of_false (rkB_4 hx70 hs74))]; rfl))) (sub_cons (by first | rfl | (first | (rw [take_succ_get hx61, rankC_snoc, if_pos (rkB_1 hx70 hx70 how hx79 hs74 hs83)]; rfl) | (rw [take_succ_get hx61, rankC_snoc, if_pos ((rkB_2 hx70 hx70 hx70 how hx79 hx88 hs74 hs83 hs92).trans hc98)]; rfl) | (rw [take_succ_get hx61, rankC_snoc, if_neg (ne_of_false ((rkB_2 hx70 hx70 hx70 how hx79 hx88 hs74 hs83 hs92).trans hc98))]; rfl) | (rw [take_succ_get hx61, rankC_snoc, if_neg (ne_of_false (rkB_3 hx70 hx70 hx70 how hx79 hx88 hs74 hs83 hs92))]; rfl) | (rw [take_succ_get hx61, rankC_snoc, if_neg (ne_of_false (rkB_4 hx70 hs74))]; rfl))) sub_nil)) (sub_cons rfl (sub_cons rfl (sub_cons rfl (sub_cons rfl (sub_cons rfl (sub_cons rfl (sub_cons rfl (sub_cons rfl (sub_cons rfl sub_nil))))))))) (by exact subH_nil) subH_nil))
           ·try dsimp only
            omega
           ·try dsimp only
            omega
          ·have phs83 := hs83; try simp only [decide_eq_true_eq, decide_eq_false_iff_not, Bool.not_eq_true', Bool.not_eq_false', Bool.not_true, Bool.not_false] at phs83
           refine ql_g rfl rfl hs83 ?_
           refine ql_r (r_fa (o' := 1) rfl fl24_1 rfl) rfl ?_
           refine ql_g rfl rfl hs83 ?_
           refine ql_r (r_ld (id := 17) rfl rfl rfl sc3) rfl ?_
           refine ql_g rfl rfl hs83 ?_
           refine ql_r (r_move rfl) rfl ?_
           refine ql_g rfl rfl hs83 ?_
           refine ql_r (r_move rfl) rfl ?_
           refine ql_g rfl rfl hs83 ?_
           refine ql_ixr hO rfl rfl sl38 (by omega) rfl fun x88 hx88 => ?_
           try simp only [Int.toNat_natCast] at hx88
           refine ql_g rfl rfl hs83 ?_
           refine ql_r (r_faw rfl (ix_some hO (by omega)) fl24_1) rfl ?_
           refine ql_g rfl rfl hs83 ?_
           refine ql_r (r_ldw rfl (fun w1 hb1 hs1 hB1 => Rd.loadsF (o := 1) hO sc3 hx88 hb1 rfl)) rfl ?_
           refine ql_g rfl rfl hs83 ?_
           refine ql_r (r_eql rfl rfl) rfl ?_
           refine ql_g rfl rfl hs83 ?_
           refine ql_r (r_move rfl) rfl ?_
           refine ql_split (d := 92) rfl (fun hs92 => ?_) (fun hs92 => ?_)
           ·have phs92 := hs92; try simp only [decide_eq_true_eq, decide_eq_false_iff_not, Bool.not_eq_true', Bool.not_eq_false', Bool.not_true, Bool.not_false] at phs92
            refine ql_g rfl rfl hs92 ?_
            refine ql_r (r_move rfl) rfl ?_
            refine ql_g rfl rfl hs92 ?_
            refine ql_r (r_move rfl) rfl ?_
            refine ql_g rfl rfl hs92 ?_
            refine ql_r (r_slss rfl rfl) rfl ?_
            refine ql_g rfl rfl hs83 ?_
            refine ql_r (r_pickT rfl hs92 rfl) rfl ?_
            refine ql_g rfl rfl hs74 ?_
            refine ql_r (r_pickF rfl hs83 rfl) rfl ?_
            refine ql_r (r_pickT rfl hs74 rfl) rfl ?_
            refine ql_nil (to_k0 (fun _ _ h => h) (hK27 _ _ _ _ _ ?_))
            clear hK27
            first | refine wp_condD rfl (fun hc98 => ?_) (fun hc98 => ?_) | refine wp_condN rfl (fun hc98 => ?_) (fun hc98 => ?_) | refine wp_condNB rfl (fun hc98 => ?_) (fun hc98 => ?_) | refine wp_cond' rfl (fun hc98 => ?_) (fun hc98 => ?_)
            ·refine wp_reg ?_
             refine ol_r (r_move rfl) rfl ?_
             refine ol_r (r_add rfl rfl (by omega)) rfl ?_
             refine ol_r (r_assign rfl) rfl ?_
             refine ol_nil (to_k0 (fun _ _ h => h) (hK24 _ _ _ _ _ ?_))
             clear hK24
             refine wp_reg ?_
             refine ol_r (r_add rfl rfl (by omega)) rfl ?_
             refine ol_r (r_move rfl) rfl ?_
             refine ol_nil (to_k0 (fun _ _ h => h) (hK21 (i + 1) _ _ ?_ ?_ (sub_cons (by first | rfl | (first | (rw [take_succ_get hx61, rankC_snoc, if_pos (rkB_1 hx70 hx70 how hx79 hs74 hs83)]; rfl) | (rw [take_succ_get hx61, rankC_snoc, if_pos ((rkB_2 hx70 hx70 hx70 how hx79 hx88 hs74 hs83 hs92).trans hc98)]; rfl) | (rw [take_succ_get hx61, rankC_snoc, if_neg (ne_of_false ((rkB_2 hx70 hx70 hx70 how hx79 hx88 hs74 hs83 hs92).trans hc98))]; rfl) | (rw [take_succ_get hx61, rankC_snoc, if_neg (ne_of_false (rkB_3 hx70 hx70 hx70 how hx79 hx88 hs74 hs83 hs92))]; rfl) | (rw [take_succ_get hx61, rankC_snoc, if_neg (ne_of_false (rkB_4 hx70 hs74))]; rfl))) (sub_cons (by first | rfl | (first | (rw [take_succ_get hx61, rankC_snoc, if_pos (rkB_1 hx70 hx70 how hx79 hs74 hs83)]; rfl) | (rw [take_succ_get hx61, rankC_snoc, if_pos ((rkB_2 hx70 hx70 hx70 how hx79 hx88 hs74 hs83 hs92).trans hc98)]; rfl) | (rw [take_succ_get hx61, rankC_snoc, if_neg (ne_of_false ((rkB_2 hx70 hx70 hx70 how hx79 hx88 hs74 hs83 hs92).trans hc98))]; rfl) | (rw [take_succ_get hx61, rankC_snoc, if_neg (ne_of_false (rkB_3 hx70 hx70 hx70 how hx79 hx88 hs74 hs83 hs92))]; rfl) | (rw [take_succ_get hx61, rankC_snoc, if_neg (ne_of_false (rkB_4 hx70 hs74))]; rfl))) sub_nil)) (sub_cons rfl (sub_cons rfl (sub_cons rfl (sub_cons rfl (sub_cons rfl (sub_cons rfl (sub_cons rfl (sub_cons rfl (sub_cons rfl sub_nil))))))))) (by exact subH_nil) subH_nil))
             ·try dsimp only
              omega
             ·try dsimp only
              omega
            ·refine wp_skip' (to_k0 (fun _ _ h => h) (hK24 _ _ _ _ _ ?_))
             clear hK24
             refine wp_reg ?_
             refine ol_r (r_add rfl rfl (by omega)) rfl ?_
             refine ol_r (r_move rfl) rfl ?_
             refine ol_nil (to_k0 (fun _ _ h => h) (hK21 (i + 1) _ _ ?_ ?_ (sub_cons (by first | rfl | (first | (rw [take_succ_get hx61, rankC_snoc, if_pos (rkB_1 hx70 hx70 how hx79 hs74 hs83)]; rfl) | (rw [take_succ_get hx61, rankC_snoc, if_pos ((rkB_2 hx70 hx70 hx70 how hx79 hx88 hs74 hs83 hs92).trans hc98)]; rfl) | (rw [take_succ_get hx61, rankC_snoc, if_neg (ne_of_false ((rkB_2 hx70 hx70 hx70 how hx79 hx88 hs74 hs83 hs92).trans hc98))]; rfl) | (rw [take_succ_get hx61, rankC_snoc, if_neg (ne_of_false (rkB_3 hx70 hx70 hx70 how hx79 hx88 hs74 hs83 hs92))]; rfl) | (rw [take_succ_get hx61, rankC_snoc, if_neg (ne_of_false (rkB_4 hx70 hs74))]; rfl))) (sub_cons (by first | rfl | (first | (rw [take_succ_get hx61, rankC_snoc, if_pos (rkB_1 hx70 hx70 how hx79 hs74 hs83)]; rfl) | (rw [take_succ_get hx61, rankC_snoc, if_pos ((rkB_2 hx70 hx70 hx70 how hx79 hx88 hs74 hs83 hs92).trans hc98)]; rfl) | (rw [take_succ_get hx61, rankC_snoc, if_neg (ne_of_false ((rkB_2 hx70 hx70 hx70 how hx79 hx88 hs74 hs83 hs92).trans hc98))]; rfl) | (rw [take_succ_get hx61, rankC_snoc, if_neg (ne_of_false (rkB_3 hx70 hx70 hx70 how hx79 hx88 hs74 hs83 hs92))]; rfl) | (rw [take_succ_get hx61, rankC_snoc, if_neg (ne_of_false (rkB_4 hx70 hs74))]; rfl))) sub_nil)) (sub_cons rfl (sub_cons rfl (sub_cons rfl (sub_cons rfl (sub_cons rfl (sub_cons rfl (sub_cons rfl (sub_cons rfl (sub_cons rfl sub_nil))))))))) (by exact subH_nil) subH_nil))
             ·try dsimp only
              omega
             ·try dsimp only
              omega
           ·have phs92 := hs92; try simp only [decide_eq_true_eq, decide_eq_false_iff_not, Bool.not_eq_true', Bool.not_eq_false', Bool.not_true, Bool.not_false] at phs92
            refine ql_s rfl rfl hs92 rfl ?_
            refine ql_s rfl rfl hs92 rfl ?_
            refine ql_s rfl rfl hs92 rfl ?_
            refine ql_g rfl rfl hs83 ?_
            refine ql_r (r_pickF rfl hs92 rfl) rfl ?_
            refine ql_g rfl rfl hs74 ?_
            refine ql_r (r_pickF rfl hs83 rfl) rfl ?_
            refine ql_r (r_pickT rfl hs74 rfl) rfl ?_
            refine ql_nil (to_k0 (fun _ _ h => h) (hK27 _ _ _ _ _ ?_))
            clear hK27
            refine wp_condF rfl ?_
            refine wp_skip' (to_k0 (fun _ _ h => h) (hK24 _ _ _ _ _ ?_))
            clear hK24
            refine wp_reg ?_
            refine ol_r (r_add rfl rfl (by omega)) rfl ?_
            refine ol_r (r_move rfl) rfl ?_
            refine ol_nil (to_k0 (fun _ _ h => h) (hK21 (i + 1) _ _ ?_ ?_ (sub_cons (by first | rfl | (first | (rw [take_succ_get hx61, rankC_snoc, if_pos (rkB_1 hx70 hx70 how hx79 hs74 hs83)]; rfl) | (rw [take_succ_get hx61, rankC_snoc, if_pos ((rkB_2 hx70 hx70 hx70 how hx79 hx88 hs74 hs83 hs92).trans hc98)]; rfl) | (rw [take_succ_get hx61, rankC_snoc, if_neg (ne_of_false ((rkB_2 hx70 hx70 hx70 how hx79 hx88 hs74 hs83 hs92).trans hc98))]; rfl) | (rw [take_succ_get hx61, rankC_snoc, if_neg (ne_of_false (rkB_3 hx70 hx70 hx70 how hx79 hx88 hs74 hs83 hs92))]; rfl) | (rw [take_succ_get hx61, rankC_snoc, if_neg (ne_of_false (rkB_4 hx70 hs74))]; rfl))) (sub_cons (by first | rfl | (first | (rw [take_succ_get hx61, rankC_snoc, if_pos (rkB_1 hx70 hx70 how hx79 hs74 hs83)]; rfl) | (rw [take_succ_get hx61, rankC_snoc, if_pos ((rkB_2 hx70 hx70 hx70 how hx79 hx88 hs74 hs83 hs92).trans hc98)]; rfl) | (rw [take_succ_get hx61, rankC_snoc, if_neg (ne_of_false ((rkB_2 hx70 hx70 hx70 how hx79 hx88 hs74 hs83 hs92).trans hc98))]; rfl) | (rw [take_succ_get hx61, rankC_snoc, if_neg (ne_of_false (rkB_3 hx70 hx70 hx70 how hx79 hx88 hs74 hs83 hs92))]; rfl) | (rw [take_succ_get hx61, rankC_snoc, if_neg (ne_of_false (rkB_4 hx70 hs74))]; rfl))) sub_nil)) (sub_cons rfl (sub_cons rfl (sub_cons rfl (sub_cons rfl (sub_cons rfl (sub_cons rfl (sub_cons rfl (sub_cons rfl (sub_cons rfl sub_nil))))))))) (by exact subH_nil) subH_nil))
            ·try dsimp only
             omega
            ·try dsimp only
             omega
         ·have phs74 := hs74; try simp only [decide_eq_true_eq, decide_eq_false_iff_not, Bool.not_eq_true', Bool.not_eq_false', Bool.not_true, Bool.not_false] at phs74
          refine ql_s rfl rfl hs74 rfl ?_
          refine ql_s rfl rfl hs74 rfl ?_
          refine ql_s rfl rfl hs74 rfl ?_
          refine ql_s rfl rfl hs74 rfl ?_
          refine ql_s rfl rfl hs74 rfl ?_
          refine ql_s rfl rfl hs74 rfl ?_
          refine ql_s rfl rfl hs74 rfl ?_
          refine ql_s rfl rfl hs74 rfl ?_
          refine ql_s rfl rfl hs74 rfl ?_
          refine ql_u rfl rfl rfl ?_
          refine ql_u rfl rfl rfl ?_
          refine ql_u rfl rfl rfl ?_
          refine ql_u rfl rfl rfl ?_
          refine ql_u rfl rfl rfl ?_
          refine ql_u rfl rfl rfl ?_
          refine ql_u rfl rfl rfl ?_
          refine ql_u rfl rfl rfl ?_
          refine ql_u rfl rfl rfl ?_
          refine ql_u rfl rfl rfl ?_
          refine ql_u rfl rfl rfl ?_
          refine ql_u rfl rfl rfl ?_
          refine ql_u rfl rfl rfl ?_
          refine ql_s rfl rfl hs74 rfl ?_
          refine ql_r (r_pickF rfl hs74 rfl) rfl ?_
          refine ql_nil (to_k0 (fun _ _ h => h) (hK27 _ _ _ _ _ ?_))
          clear hK27
          refine wp_condF rfl ?_
          refine wp_skip' (to_k0 (fun _ _ h => h) (hK24 _ _ _ _ _ ?_))
          clear hK24
          refine wp_reg ?_
          refine ol_r (r_add rfl rfl (by omega)) rfl ?_
          refine ol_r (r_move rfl) rfl ?_
          refine ol_nil (to_k0 (fun _ _ h => h) (hK21 (i + 1) _ _ ?_ ?_ (sub_cons (by first | rfl | (first | (rw [take_succ_get hx61, rankC_snoc, if_pos (rkB_1 hx70 hx70 how hx79 hs74 hs83)]; rfl) | (rw [take_succ_get hx61, rankC_snoc, if_pos ((rkB_2 hx70 hx70 hx70 how hx79 hx88 hs74 hs83 hs92).trans hc98)]; rfl) | (rw [take_succ_get hx61, rankC_snoc, if_neg (ne_of_false ((rkB_2 hx70 hx70 hx70 how hx79 hx88 hs74 hs83 hs92).trans hc98))]; rfl) | (rw [take_succ_get hx61, rankC_snoc, if_neg (ne_of_false (rkB_3 hx70 hx70 hx70 how hx79 hx88 hs74 hs83 hs92))]; rfl) | (rw [take_succ_get hx61, rankC_snoc, if_neg (ne_of_false (rkB_4 hx70 hs74))]; rfl))) (sub_cons (by first | rfl | (first | (rw [take_succ_get hx61, rankC_snoc, if_pos (rkB_1 hx70 hx70 how hx79 hs74 hs83)]; rfl) | (rw [take_succ_get hx61, rankC_snoc, if_pos ((rkB_2 hx70 hx70 hx70 how hx79 hx88 hs74 hs83 hs92).trans hc98)]; rfl) | (rw [take_succ_get hx61, rankC_snoc, if_neg (ne_of_false ((rkB_2 hx70 hx70 hx70 how hx79 hx88 hs74 hs83 hs92).trans hc98))]; rfl) | (rw [take_succ_get hx61, rankC_snoc, if_neg (ne_of_false (rkB_3 hx70 hx70 hx70 how hx79 hx88 hs74 hs83 hs92))]; rfl) | (rw [take_succ_get hx61, rankC_snoc, if_neg (ne_of_false (rkB_4 hx70 hs74))]; rfl))) sub_nil)) (sub_cons rfl (sub_cons rfl (sub_cons rfl (sub_cons rfl (sub_cons rfl (sub_cons rfl (sub_cons rfl (sub_cons rfl (sub_cons rfl sub_nil))))))))) (by exact subH_nil) subH_nil))
          ·try dsimp only
           omega
          ·try dsimp only
           omega
        ·refine wp_exit' (to_k0 (fun _ _ h => h) (hK19 _ _ _ _ _ ?_))
         clear hK19
         refine wp_seq' fun K28 hK28 => ?_
         refine wp_reg ?_
         refine ol_r (r_move rfl) rfl ?_
         refine ol_r (r_assign rfl) rfl ?_
         refine ol_r (r_assign rfl) rfl ?_
         refine ol_r (r_assign rfl) rfl ?_
         refine ol_nil (to_k0 (fun _ _ h => h) (hK28 _ _ _ _ _ ?_))
         clear hK28
         refine hQ.ret (rvs3 (rv_t rfl) (rv_t rfl) (rv_t rfl)) (fun _ _ h => h) fun w hb hs hB hkd => ?_
         rw [how] at hx50; cases hx50
         have hin : names.take i = names := List.take_of_length_le (by omega)
         have hp : rankC cur k own nm (names.take i) = rankC cur k own nm (pKeys D) := by rw [hin, hK.nm]; exact rankC_perm (ordBA_perm hK.nd)
         rw [if_pos (by simpa using hc53), ← hp]; exact ⟨rfl, hb⟩
theorem ref4_Rank (w : World) (xb xm : Nat) (az : Option Addr) (nz cz : Nat) (zs : List Int) (an : Option Addr) (nn cn : Nat) (names : List ByteArray) (D : DM) (cur : Cur) (z : Int) (nm : ByteArray) (hK : Bk2 w.heap.size w xb xm az nz cz zs an nn cn names D cur) (hr : zs.Pairwise (· < ·)) (hcl : ∀ k ∈ pKeys D, (cur k).length = zs.length) :
    Calls Try.prog 61 #[.pointer (some ⟨xb, 0, none⟩), .int .i64 z, .string nm] w fun e w' => e = .returned (.tuple #[.int .i64 (rankR cur (pO D nm).isSome (pKeys D) zs z nm).1, .bool (rankR cur (pO D nm).isSome (pKeys D) zs z nm).2.1, .int .i64 (rankR cur (pO D nm).isSome (pKeys D) zs z nm).2.2]) ∧ Below w.heap.size w w' := by
  cases hik : idxZ zs z with
  | none =>
    rw [rankR_none hik]
    exact ref4_RankA w xb xm az nz cz zs an nn cn names D cur z nm hK hr (.inl (by rw [idxI_eq, hik]; decide))
  | some k =>
    cases hpo : pO D nm with
    | none =>
      rw [show (none : Option Sl).isSome = false from rfl, rankR_no]
      exact ref4_RankA w xb xm az nz cz zs an nn cn names D cur z nm hK hr (.inr (by rw [hpo]; rfl))
    | some v =>
      have hkz := idxZ_lt hik
      have hcn := hcl nm (isSome_mem.1 (by rw [hpo]; rfl))
      have how : (cur nm)[k]? = some ((cur nm)[k]'(by omega)) := List.getElem?_eq_getElem _
      refine (ref4_RankB w xb xm az nz cz zs an nn cn names D cur z nm k v.1 v.2.1 v.2.2 _ hK hr hcl hik hpo how).mono ?_
      rintro e w' ⟨rfl, hb⟩
      refine ⟨?_, hb⟩
      rw [show (some v : Option Sl).isSome = true from rfl, rankR_some hik how]
      split <;> rfl
end Go.Proofs.Ytafkojlccknicaa

/-
  Books: what the law knows between two calls.
-/

namespace Go.Proofs.Ytafkojlccknicaa
open Go Go.RowKit Hx
set_option linter.unusedVariables false
set_option linter.unusedSimpArgs false
set_option maxRecDepth 8000
/-! #### a caller's entries as a tail -/
def Has (H : HL) : HL → Prop
  | [] => True
  | (i, e) :: r => Hx.look H i = some e ∧ Has H r
theorem Has.get {H : HL} : ∀ {O : HL}, Has H O → ∀ i e, Hx.look O i = some e → Hx.look H i = some e
  | [], _, i, e, h => by cases h
  | (j, f) :: r, hO, i, e, h => by
    by_cases hij : j = i
    · subst hij; rw [look_cons_eq] at h; cases h; exact hO.1
    · rw [look_cons_ne _ _ hij] at h; exact Has.get hO.2 i e h
theorem Hx.Sat.via {B : Nat} {w : World} {H H' : HL} (h : Sat B w H) (f : Nat → Nat) (hf : ∀ i e, Hx.look H' i = some e → Hx.look H (f i) = some e) (hi : ∀ i j e e', Hx.look H' i = some e → Hx.look H' j = some e' → i ≠ j → f i ≠ f j) : Sat B w H' :=
  ⟨fun i e he => h.ok (f i) e (hf i e he), fun i j e e' hij he he' => h.apart (f i) (f j) e e' (hi i j e e' he he' hij) (hf i e he) (hf j e' he')⟩
/-- Where the entry number j of the tail was. -/
def src (E : HL) (j : Nat) : Nat := match E[j]? with | some p => p.1 | none => 1500 + (j - E.length)
def pf (E : HL) (i : Nat) : Nat := if i < 1500 then i else src E (i - 1500)
theorem look_mem : ∀ {O : HL} {i : Nat} {e : Ent}, Hx.look O i = some e → (i, e) ∈ O
  | [], i, e, h => by cases h
  | (j, f) :: r, i, e, h => by
    by_cases hij : j = i
    · subst hij; rw [look_cons_eq] at h; cases h; simp
    · rw [look_cons_ne _ _ hij] at h; exact List.mem_cons_of_mem _ (look_mem h)
theorem has_mem {H : HL} : ∀ {O : HL}, Has H O → ∀ {p}, p ∈ O → Hx.look H p.1 = some p.2
  | [], _, p, h => by cases h
  | (j, f) :: r, hO, p, h => by
    rcases List.mem_cons.1 h with rfl | h
    · exact hO.1
    · exact has_mem hO.2 h
theorem tailE_mem {es : List Ent} {b i : Nat} {e : Ent} (h : Hx.look (tailE b es) i = some e) : ∃ j, i = b + j ∧ es[j]? = some e := by
  by_cases h1 : i < b ∨ b + es.length ≤ i
  · rw [look_tailE_none h1] at h; cases h
  · have hj : i - b < es.length := by omega
    have h2 := look_tailE (b := b) (List.getElem?_eq_getElem hj)
    rw [show b + (i - b) = i by omega, h] at h2
    exact ⟨i - b, by omega, by rw [List.getElem?_eq_getElem hj]; exact h2.symm⟩
theorem Hx.Sat.pack {B : Nat} {w : World} {H : HL} (h : Sat B w H) (O E : HL) (rows : List Ent) (hO : Has H O) (hE : Has H E) (hr : ∀ j e, rows[j]? = some e → Hx.look H (1500 + j) = some e) (hid : ((O ++ E).map (·.1)).all (fun i => Nat.blt i 1500) = true) (hnd : ((O ++ E).map (·.1)).Nodup) : Sat B w (O ++ tailE 1500 (E.map (·.2) ++ rows)) := by
  have hlt : ∀ p ∈ O ++ E, p.1 < 1500 := fun p hp => by
    have := List.all_eq_true.1 hid p.1 (List.mem_map_of_mem hp)
    simpa using this
  have key : ∀ i e, Hx.look (O ++ tailE 1500 (E.map (·.2) ++ rows)) i = some e → (i < 1500 ∧ (i, e) ∈ O ∧ pf E i = i) ∨ (∃ j, ∃ p, i = 1500 + j ∧ E[j]? = some p ∧ p.2 = e ∧ pf E i = p.1) ∨ (∃ j, i = 1500 + (E.length + j) ∧ rows[j]? = some e ∧ pf E i = 1500 + j) := fun i e he => by
    rw [look_append] at he
    cases ho : Hx.look O i with
    | some f =>
      rw [ho] at he
      simp only [Option.or_some, Option.some.injEq] at he
      subst he
      have hm := look_mem ho
      have h1 := hlt _ (List.mem_append_left _ hm)
      exact .inl ⟨h1, hm, if_pos h1⟩
    | none =>
      rw [ho] at he
      simp only [Option.none_or] at he
      obtain ⟨j, rfl, hj⟩ := tailE_mem he
      have hp : pf E (1500 + j) = src E j := by unfold pf; rw [if_neg (by omega), show 1500 + j - 1500 = j by omega]
      rw [hp]
      by_cases hjl : j < E.length
      · rw [List.getElem?_append_left (by rw [List.length_map]; exact hjl), List.getElem?_map, List.getElem?_eq_getElem hjl] at hj
        refine .inr (.inl ⟨j, E[j], rfl, List.getElem?_eq_getElem hjl, by simpa using hj, ?_⟩)
        rw [src, List.getElem?_eq_getElem hjl]
      · rw [List.getElem?_append_right (by rw [List.length_map]; omega), List.length_map] at hj
        refine .inr (.inr ⟨j - E.length, by omega, hj, ?_⟩)
        rw [src, List.getElem?_eq_none (by omega)]
  have hsep : ∀ p ∈ O, ∀ q ∈ E, p.1 ≠ q.1 := fun p hp q hq he => by
    rw [List.map_append, List.nodup_append] at hnd
    exact hnd.2.2 p.1 (List.mem_map_of_mem hp) q.1 (List.mem_map_of_mem hq) he
  refine h.via (pf E) (fun i e he => ?_) fun i j e e' he he' hij => ?_
  · rcases key i e he with ⟨_, hm, hp⟩ | ⟨j, p, rfl, hj, rfl, hp⟩ | ⟨j, rfl, hj, hp⟩
    · rw [hp]; exact has_mem hO hm
    · rw [hp]; exact has_mem hE (List.mem_of_getElem? hj)
    · rw [hp]; exact hr j e hj
  · rcases key i e he with ⟨h1, hm, hp⟩ | ⟨a, p, rfl, ha, _, hp⟩ | ⟨a, rfl, ha, hp⟩ <;> rcases key j e' he' with ⟨h1', hm', hp'⟩ | ⟨b, q, rfl, hb, _, hp'⟩ | ⟨b, rfl, hb, hp'⟩ <;> rw [hp, hp']
    · exact hij
    · exact hsep _ hm _ (List.mem_of_getElem? hb)
    · omega
    · exact fun h => hsep _ hm' _ (List.mem_of_getElem? ha) h.symm
    · intro hpq
      rw [List.map_append, List.nodup_append] at hnd
      have h2 := hnd.2.1
      have ha' : (E.map (·.1))[a]? = some p.1 := by rw [List.getElem?_map, ha]; rfl
      have hb' : (E.map (·.1))[b]? = some q.1 := by rw [List.getElem?_map, hb]; rfl
      rw [hpq] at ha'
      obtain ⟨a1, a2⟩ := List.getElem?_eq_some_iff.1 ha'
      obtain ⟨b1, b2⟩ := List.getElem?_eq_some_iff.1 hb'
      exact hij (by rw [(List.getElem_inj (h₀ := a1) (h₁ := b1) h2).1 (a2.trans b2.symm)])
    · have := hlt p (List.mem_append_right _ (List.mem_of_getElem? ha)); omega
    · omega
    · have := hlt q (List.mem_append_right _ (List.mem_of_getElem? hb)); omega
    · omega
theorem Hx.Sat.unpack {B : Nat} {w : World} (O E : HL) (rows : List Ent) (h : Sat B w (O ++ tailE 1500 (E.map (·.2) ++ rows))) (hid : ((O ++ E).map (·.1)).all (fun i => Nat.blt i 1500) = true) : Sat B w (O ++ (E ++ tailE 1500 rows)) := by
  have hlt : ∀ p ∈ O ++ E, p.1 < 1500 := fun p hp => by
    have := List.all_eq_true.1 hid p.1 (List.mem_map_of_mem hp)
    simpa using this
  have hno : ∀ j, Hx.look O (1500 + j) = none := fun j => by
    cases ho : Hx.look O (1500 + j) with
    | none => rfl
    | some f => have := hlt _ (List.mem_append_left _ (look_mem ho)); omega
  have key : ∀ i e, Hx.look (O ++ (E ++ tailE 1500 rows)) i = some e → ∃ i', Hx.look (O ++ tailE 1500 (E.map (·.2) ++ rows)) i' = some e ∧ ((i = i' ∧ i < 1500) ∨ (∃ j, ∃ p, i' = 1500 + j ∧ E[j]? = some p ∧ p.1 = i) ∨ (∃ j, i = 1500 + j ∧ i' = 1500 + (E.length + j))) := fun i e he => by
    rw [look_append] at he
    cases ho : Hx.look O i with
    | some f =>
      rw [ho] at he
      simp only [Option.or_some, Option.some.injEq] at he
      subst he
      exact ⟨i, by rw [look_append, ho], .inl ⟨rfl, hlt _ (List.mem_append_left _ (look_mem ho))⟩⟩
    | none =>
      rw [ho] at he
      simp only [Option.none_or] at he
      rw [look_append] at he
      cases hE : Hx.look E i with
      | some f =>
        rw [hE] at he
        simp only [Option.or_some, Option.some.injEq] at he
        subst he
        obtain ⟨j, hj⟩ := List.getElem?_of_mem (look_mem hE)
        have hjl := (List.getElem?_eq_some_iff.1 hj).1
        refine ⟨1500 + j, ?_, .inr (.inl ⟨j, _, rfl, hj, rfl⟩)⟩
        rw [look_append, hno]
        simp only [Option.none_or]
        exact look_tailE (by rw [List.getElem?_append_left (by rw [List.length_map]; exact hjl), List.getElem?_map, hj]; rfl)
      | none =>
        rw [hE] at he
        simp only [Option.none_or] at he
        obtain ⟨j, rfl, hj⟩ := tailE_mem he
        refine ⟨1500 + (E.length + j), ?_, .inr (.inr ⟨j, rfl, rfl⟩)⟩
        rw [look_append, hno]
        simp only [Option.none_or]
        exact look_tailE (by rw [List.getElem?_append_right (by rw [List.length_map]; omega), List.length_map, show E.length + j - E.length = j by omega]; exact hj)
  constructor
  · intro i e he
    obtain ⟨i', h1, _⟩ := key i e he
    exact h.ok i' e h1
  · intro i j e e' hij he he'
    obtain ⟨i', h1, h2⟩ := key i e he
    obtain ⟨j', h3, h4⟩ := key j e' he'
    refine h.apart i' j' e e' ?_ h1 h3
    rcases h2 with ⟨rfl, h2⟩ | ⟨a, p, rfl, ha, rfl⟩ | ⟨a, rfl, rfl⟩ <;> rcases h4 with ⟨rfl, h4⟩ | ⟨b, q, rfl, hb, rfl⟩ | ⟨b, rfl, rfl⟩
    · exact hij
    · omega
    · omega
    · omega
    · intro hab
      obtain rfl : a = b := by omega
      rw [ha] at hb; cases hb; exact hij rfl
    · have := (List.getElem?_eq_some_iff.1 ha).1; omega
    · omega
    · have := (List.getElem?_eq_some_iff.1 hb).1; omega
    · omega
/-! #### the books between two calls -/
def InR (rows : List Ent) (D : DM) (cur : Cur) : Prop := ∀ x ∈ D, ∃ j : Nat, rows[j]? = some (Ent.row x.2.1 x.2.2.1 x.2.2.2 (encBest.enc (cur x.1)) 24 4)
structure BI (B : Nat) (w0 : World) (zs : List Int) (D1 D2 L : DM) (rows : List Ent) (cur : Cur) : Prop where
  n1 : (pKeys D1).Nodup
  n2 : (pKeys D2).Nodup
  nL : (pKeys L).Nodup
  k2 : ∀ x, x ∈ pKeys D1 ↔ x ∈ pKeys D2
  kL : ∀ x ∈ pKeys D1, ∃ v, pO L x = some v ∧ Rd encBest B w0 v.1 v.2.1 v.2.2 (cur x) ∧ v.2.1 ≤ 4398046511104
  ln : D1.length ≤ 5000
  ok : ∀ x ∈ pKeys D1, nameB x = true ∧ chkC (cur x) = 0 ∧ szs (cur x) = zs ∧ x.size ≤ maxLen
  r1 : InR rows D1 cur
  r2 : InR rows D2 cur
theorem BI.nil {B : Nat} {w0 : World} {zs : List Int} {cur : Cur} : BI B w0 zs [] [] [] [] cur :=
  ⟨List.nodup_nil, List.nodup_nil, List.nodup_nil, fun x => Iff.rfl, fun x h => (by cases h), Nat.zero_le _, fun x h => (by cases h), fun x h => (by cases h), fun x h => (by cases h)⟩
theorem BI.len {B : Nat} {w0 : World} {zs : List Int} {D1 D2 L : DM} {rows : List Ent} {cur : Cur} (h : BI B w0 zs D1 D2 L rows cur) : D2.length = D1.length := by
  have := ((List.perm_ext_iff_of_nodup h.n1 h.n2).2 h.k2).length_eq
  rw [pKeys, pKeys, List.length_map, List.length_map] at this
  exact this.symm
theorem BI.has {B : Nat} {w0 : World} {zs : List Int} {D1 D2 L : DM} {rows : List Ent} {cur : Cur} (h : BI B w0 zs D1 D2 L rows cur) (nm : ByteArray) : (pO D2 nm).isSome = (pO D1 nm).isSome := by
  rw [Bool.eq_iff_iff, isSome_mem, isSome_mem]; exact (h.k2 nm).symm
theorem BI.ord {B : Nat} {w0 : World} {zs : List Int} {D1 D2 L : DM} {rows : List Ent} {cur : Cur} (h : BI B w0 zs D1 D2 L rows cur) : ordBA (pKeys D2) = ordBA (pKeys D1) := ordBA_cong fun x => (h.k2 x).symm
theorem BI.cl {B : Nat} {w0 : World} {zs : List Int} {D1 D2 L : DM} {rows : List Ent} {cur : Cur} (h : BI B w0 zs D1 D2 L rows cur) : ∀ k ∈ pKeys D1, (cur k).length = zs.length := fun k hk => by
  have := (h.ok k hk).2.2.1
  rw [← this, szs, List.length_map]
theorem BI.ne {B : Nat} {w0 : World} {zs : List Int} {D1 D2 L : DM} {rows : List Ent} {cur : Cur} (h : BI B w0 zs D1 D2 L rows cur) : ∀ k ∈ pKeys D1, k ≠ noS := fun k hk he => by
  have := (h.ok k hk).1
  rw [he] at this
  revert this; decide
def AddTo (r : Int) (nm : ByteArray) (cs : List BestR) (D D' : DM) (es es' : List Ent) : Prop := (r = 0 ∧ ∃ a c, D' = Hx.pS D nm (a, cs.length, c) ∧ es' = es ++ [rowB a c cs]) ∨ (r ≠ 0 ∧ D' = D ∧ es' = es)
theorem AddTo.yes {r : Int} {nm : ByteArray} {cs : List BestR} {D D' : DM} {es es' : List Ent} (h : AddTo r nm cs D D' es es') (hr : r = 0) : ∃ a c, D' = Hx.pS D nm (a, cs.length, c) ∧ es' = es ++ [rowB a c cs] := by
  rcases h with ⟨_, h⟩ | ⟨h, _⟩
  · exact h
  · exact (h hr).elim
def upC (cur : Cur) (nm : ByteArray) (cs : List BestR) : Cur := fun x => if x = nm then cs else cur x
theorem upC_same (cur : Cur) (nm : ByteArray) (cs : List BestR) : upC cur nm cs nm = cs := if_pos rfl
theorem upC_other {cur : Cur} {nm x : ByteArray} {cs : List BestR} (h : x ≠ nm) : upC cur nm cs x = cur x := if_neg h
theorem mem_pS {β : Type} {D : List (ByteArray × β)} {k x : ByteArray} {v : β} : x ∈ pKeys (Hx.pS D k v) ↔ x ∈ pKeys D ∨ x = k := by
  rw [← isSome_mem, ← isSome_mem, pO_pS]
  by_cases h : k = x
  · rw [if_pos h]; simp [h]
  · rw [if_neg h]
    exact ⟨fun h2 => .inl h2, fun h2 => h2.elim _root_.id fun h3 => (h h3.symm).elim⟩
theorem InR.add {rows : List Ent} {D : DM} {cur : Cur} {nm : ByteArray} {cs : List BestR} {a : Option Addr} {c : Nat} (h : InR rows D cur) (hn : nm ∉ pKeys D) : InR (rows ++ [rowB a c cs]) (Hx.pS D nm (a, cs.length, c)) (upC cur nm cs) := by
  intro x hx
  rw [(pS_none (kIdx_none.2 hn)).1] at hx
  rcases List.mem_append.1 hx with hx | hx
  · obtain ⟨j, hj⟩ := h x hx
    refine ⟨j, ?_⟩
    rw [List.getElem?_append_left (List.getElem?_eq_some_iff.1 hj).1, hj, upC_other fun he => hn (by rw [← he]; exact List.mem_map_of_mem hx)]
  · rw [List.mem_singleton] at hx; subst hx
    exact ⟨rows.length, by rw [List.getElem?_append_right (Nat.le_refl _), Nat.sub_self, upC_same]; rfl⟩
theorem InR.more {rows es : List Ent} {D : DM} {cur : Cur} (h : InR rows D cur) : InR (rows ++ es) D cur := fun x hx => by
  obtain ⟨j, hj⟩ := h x hx
  exact ⟨j, by rw [List.getElem?_append_left (List.getElem?_eq_some_iff.1 hj).1, hj]⟩
theorem BI.add {B : Nat} {w0 : World} {zs : List Int} {D1 D2 L D1' D2' : DM} {rows rows1 rows2 : List Ent} {cur : Cur} {nm : ByteArray} {cs : List BestR} {v : Sl} (h : BI B w0 zs D1 D2 L rows cur) (hr : addR (pO D1 nm).isSome D1.length zs nm cs = 0) (h1 : AddTo (addR (pO D1 nm).isSome D1.length zs nm cs) nm cs D1 D1' rows rows1) (h2 : AddTo (addR (pO D1 nm).isSome D1.length zs nm cs) nm cs D2 D2' rows1 rows2) (hv : Rd encBest B w0 v.1 v.2.1 v.2.2 cs) (hvn : v.2.1 ≤ 4398046511104) (hs : nm.size ≤ maxLen) : BI B w0 zs D1' D2' (Hx.pS L nm v) rows2 (upC cur nm cs) := by
  obtain ⟨g1, g2, g3, g4, g5⟩ := addR_ok hr
  obtain ⟨a1, c1, rfl, rfl⟩ := h1.yes hr
  obtain ⟨a2, c2, rfl, rfl⟩ := h2.yes hr
  have hno : nm ∉ pKeys D1 := fun hm => by rw [isSome_mem.2 hm] at g4; cases g4
  have hno2 : nm ∉ pKeys D2 := fun hm => hno ((h.k2 nm).2 hm)
  have hlen : (Hx.pS D1 nm (a1, cs.length, c1)).length = D1.length + 1 := by rw [(pS_none (kIdx_none.2 hno)).1, List.length_append]; rfl
  exact { n1 := nodup_pS h.n1, n2 := nodup_pS h.n2, nL := nodup_pS h.nL, k2 := fun x => by rw [mem_pS, mem_pS, h.k2 x]
          kL := fun x hx => by
            rw [pO_pS]
            by_cases he : nm = x
            · subst he
              rw [if_pos rfl]
              exact ⟨v, rfl, by rw [upC_same]; exact hv, hvn⟩
            · rw [if_neg he]
              rcases mem_pS.1 hx with hx | hx
              · obtain ⟨u, u1, u2, u3⟩ := h.kL x hx
                exact ⟨u, u1, by rw [upC_other fun h => he h.symm]; exact u2, u3⟩
              · exact (he hx.symm).elim
          ln := by rw [hlen]; omega
          ok := fun x hx => by
            rcases mem_pS.1 hx with hx | hx
            · rw [upC_other fun he => hno (by rw [← he]; exact hx)]; exact h.ok x hx
            · subst hx; rw [upC_same]; exact ⟨g1, g2, g3, hs⟩
          r1 := (h.r1.add hno).more
          r2 := InR.add h.r2.more hno2 }
theorem BI.same {B : Nat} {w0 : World} {zs : List Int} {D1 D2 L D1' D2' : DM} {rows rows1 rows2 : List Ent} {cur : Cur} {nm : ByteArray} {cs : List BestR} {r : Int} (h : BI B w0 zs D1 D2 L rows cur) (hr : r ≠ 0) (h1 : AddTo r nm cs D1 D1' rows rows1) (h2 : AddTo r nm cs D2 D2' rows1 rows2) : BI B w0 zs D1' D2' L rows2 cur := by
  rcases h1 with ⟨h1, _⟩ | ⟨_, rfl, rfl⟩
  · exact (hr h1).elim
  rcases h2 with ⟨h2, _⟩ | ⟨_, rfl, rfl⟩
  · exact (hr h2).elim
  exact h
theorem pO_pD_ne {β : Type} {D : List (ByteArray × β)} {k x : ByteArray} (h : (pKeys D).Nodup) (hx : x ≠ k) : pO (pD D k) x = pO D x := by rw [pO_pD k x h, if_neg fun he => hx he.symm]
theorem BI.del {B : Nat} {w0 : World} {zs : List Int} {D1 D2 L : DM} {rows : List Ent} {cur : Cur} (h : BI B w0 zs D1 D2 L rows cur) (nm : ByteArray) : BI B w0 zs (pD D1 nm) (pD D2 nm) (pD L nm) rows cur :=
  { n1 := nodup_pD h.n1, n2 := nodup_pD h.n2, nL := nodup_pD h.nL, k2 := fun x => by rw [pKeys_pD h.n1, pKeys_pD h.n2, h.k2 x]
    kL := fun x hx => by
      obtain ⟨h1, h2⟩ := (pKeys_pD h.n1).1 hx
      rw [pO_pD_ne h.nL h2]; exact h.kL x h1
    ln := Nat.le_trans (pD_sub nm D1).length_le h.ln
    ok := fun x hx => h.ok x ((pKeys_pD h.n1).1 hx).1
    r1 := fun x hx => h.r1 x ((pD_sub nm D1).subset hx)
    r2 := fun x hx => h.r2 x ((pD_sub nm D2).subset hx) }
end Go.Proofs.Ytafkojlccknicaa

/-
  Books: the methods as the law calls them.
-/

namespace Go.Proofs.Ytafkojlccknicaa
open Go Go.RowKit Hx
set_option linter.unusedVariables false
set_option linter.unusedSimpArgs false
set_option maxRecDepth 8000
theorem eff_Add2 (B : Nat) (w : World) (pre rows : List Ent) (bb bm : Nat) (az : Option Addr) (nz cz : Nat) (zs : List Int) (D : DM) (nm : ByteArray) (a : Option Addr) (n c : Nat) (cs : List BestR) (hB0 : B ≤ w.heap.size) (hx : Rd encBest B w a n c cs) (hn : n ≤ 4398046511104) (hq : nm.size ≤ 9223372036854775807) (hln : D.length ≤ 5000)
    (hs0 : Sat B w (own1 bb bm az nz cz zs D ++ tailE 1500 (pre ++ rows))) :
    Calls Try.prog 56 #[.pointer (some ⟨bb, 0, none⟩), .string nm, .slice a n c] w fun e w' => e = .returned (.int .i64 (addR (pO D nm).isSome D.length zs nm cs)) ∧ Below B w w' ∧
      (∃ D' rows', AddTo (addR (pO D nm).isSome D.length zs nm cs) nm cs D D' rows rows' ∧ Sat B w' (own1 bb bm az nz cz zs D' ++ tailE 1500 (pre ++ rows'))) ∧ B ≤ w'.heap.size ∧ Kd (fun _ => True) w w' := by
  refine (eff_Add B w (pre ++ rows) bb bm az nz cz zs D nm a n c cs hB0 hx hn hq hln hs0).mono ?_
  rintro e w' ⟨rfl, hb, hif, hB, hk⟩
  refine ⟨rfl, hb, ?_, hB, hk⟩
  by_cases h : addR (pO D nm).isSome D.length zs nm cs = 0
  · rw [if_pos h] at hif
    obtain ⟨a', c', hs⟩ := hif
    rw [List.append_assoc] at hs
    exact ⟨_, _, .inl ⟨h, a', c', rfl, rfl⟩, hs⟩
  · rw [if_neg h] at hif
    exact ⟨_, _, .inr ⟨h, rfl, rfl⟩, hif⟩
theorem pKeys_no {D : DM} {nm : ByteArray} {v : Sl} (h : nm ∉ pKeys D) : pKeys (Hx.pS D nm v) = pKeys D ++ [nm] := by
  rw [(pS_none (kIdx_none.2 h)).1, pKeys, pKeys, List.map_append]; rfl
theorem ref4_Add2 (B : Nat) (w : World) (pre rows : List Ent) (xb xm : Nat) (az : Option Addr) (nz cz : Nat) (zs : List Int) (an : Option Addr) (nn cn : Nat) (D : DM) (nm : ByteArray) (a : Option Addr) (n c : Nat) (cs : List BestR) (hB0 : B ≤ w.heap.size) (hx : Rd encBest B w a n c cs) (hn : n ≤ 4398046511104) (hq : nm.size ≤ 9223372036854775807)
    (hnd : (pKeys D).Nodup) (hln : D.length ≤ 5000) (hs0 : Sat B w (own2 xb xm az nz cz zs an nn cn (ordBA (pKeys D)) D ++ tailE 1500 (pre ++ rows))) :
    Calls Try.prog 57 #[.pointer (some ⟨xb, 0, none⟩), .string nm, .slice a n c] w fun e w' => e = .returned (.int .i64 (addR (pO D nm).isSome D.length zs nm cs)) ∧ Below B w w' ∧
      (∃ an' nn' cn' D' rows', AddTo (addR (pO D nm).isSome D.length zs nm cs) nm cs D D' rows rows' ∧ Sat B w' (own2 xb xm az nz cz zs an' nn' cn' (ordBA (pKeys D')) D' ++ tailE 1500 (pre ++ rows'))) ∧ B ≤ w'.heap.size ∧ Kd (fun _ => True) w w' := by
  refine (ref4_Add B w (pre ++ rows) xb xm az nz cz zs an nn cn _ D nm a n c cs hB0 hx hn hq rfl hnd hln hs0).mono ?_
  rintro e w' ⟨rfl, hb, hif, hB, hk⟩
  refine ⟨rfl, hb, ?_, hB, hk⟩
  by_cases h : addR (pO D nm).isSome D.length zs nm cs = 0
  · rw [if_pos h] at hif
    obtain ⟨an', nn', cn', a', c', hs⟩ := hif
    rw [List.append_assoc] at hs
    have hno : nm ∉ pKeys D := fun hm => by have := (addR_ok h).2.2.2.1; rw [isSome_mem.2 hm] at this; cases this
    rw [← pKeys_no (v := (a', cs.length, c')) hno] at hs
    exact ⟨an', nn', cn', _, _, .inl ⟨h, a', c', rfl, rfl⟩, hs⟩
  · rw [if_neg h] at hif
    exact ⟨an, nn, cn, _, _, .inr ⟨h, rfl, rfl⟩, hif⟩
theorem Hx.Sat.bk1 {B : Nat} {w : World} {H : HL} {rows : List Ent} {bb bm : Nat} {az : Option Addr} {nz cz : Nat} {zs : List Int} {D : DM} {cur : Cur} (hs : Sat B w H) (hR : InR rows D cur) (hn : (pKeys D).Nodup) (hz : ∀ k ∈ pKeys D, k.size ≤ maxLen) (hl : D.length ≤ 5000) (i : Nat) (h1 : Hx.look H i = some (.blk bb [(0, .slice az nz cz), (1, .map (some bm))] 128)) (h2 : Hx.look H (i + 1) = some (.ob bm (MapO (pEnc Value.string slV D)))) (h3 : Hx.look H (i + 2) = some (.row az nz cz (encI.enc zs) 3 1)) (hr : ∀ j e, rows[j]? = some e → Hx.look H (1500 + j) = some e) : Bk1 w.heap.size w bb bm az nz cz zs D cur :=
  ⟨hs.blk h1, hs.ob h2, Sat.rd hs (E := encI) h3 rfl, fun x hx => by
    obtain ⟨j, hj⟩ := hR x hx
    exact Sat.rd hs (E := encBest) (hr j _ hj) rfl, hn, hz, hl⟩
theorem Hx.Sat.bk2 {B C : Nat} {w w0 : World} {H : HL} {rows : List Ent} {xb xm : Nat} {az : Option Addr} {nz cz : Nat} {zs : List Int} {an : Option Addr} {nn cn : Nat} {D1 D2 L : DM} {cur : Cur} (hs : Sat B w H) (hI : BI C w0 zs D1 D2 L rows cur) (h1 : Hx.look H 401 = some (.blk xb [(0, .slice az nz cz), (1, .slice an nn cn), (2, .map (some xm))] 130)) (h2 : Hx.look H 402 = some (.ob xm (MapO (pEnc Value.string slV D2)))) (h3 : Hx.look H 403 = some (.row az nz cz (encI.enc zs) 3 1)) (h4 : Hx.look H 404 = some (.row an nn cn (encStr.enc (ordBA (pKeys D2))) 9 1)) (hr : ∀ j e, rows[j]? = some e → Hx.look H (1500 + j) = some e) : Bk2 w.heap.size w xb xm az nz cz zs an nn cn (ordBA (pKeys D2)) D2 cur :=
  ⟨hs.blk h1, hs.ob h2, Sat.rd hs (E := encI) h3 rfl, Sat.rd hs (E := encStr) h4 rfl, fun x hx => by
    obtain ⟨j, hj⟩ := hI.r2 x hx
    exact Sat.rd hs (E := encBest) (hr j _ hj) rfl, hI.n2, rfl, by rw [hI.len]; exact hI.ln⟩
theorem BI.rank {B : Nat} {w0 : World} {zs : List Int} {D1 D2 L : DM} {rows : List Ent} {cur : Cur} (h : BI B w0 zs D1 D2 L rows cur) (z : Int) (nm : ByteArray) : rankR cur (pO D2 nm).isSome (pKeys D2) zs z nm = rankR cur (pO D1 nm).isSome (pKeys D1) zs z nm := by
  rw [h.has]
  have hp : (pKeys D2).Perm (pKeys D1) := (List.perm_ext_iff_of_nodup h.n2 h.n1).2 fun x => (h.k2 x).symm
  have hc : ∀ k own, rankC cur k own nm (pKeys D2) = rankC cur k own nm (pKeys D1) := fun k own => rankC_perm hp
  unfold rankR
  simp only [hc]
theorem rising_pw {zs : List Int} (h : sizesC zs = 0) : zs.Pairwise (· < ·) := by
  obtain ⟨_, _, _, h4⟩ := sizesC_ok h
  exact rising_pair.1 h4
theorem has_nil {H : HL} : Has H [] := trivial
theorem has_cons {H O : HL} {i : Nat} {e : Ent} (h : Hx.look H i = some e) (r : Has H O) : Has H ((i, e) :: O) := ⟨h, r⟩
theorem ordBA_nil : ordBA [] = [] := by
  have := ordBA_len []
  exact List.eq_nil_of_length_eq_zero (by simpa using this)
section
variable {C : Nat} {w0 : World} {zs : List Int} {D1 D2 L : DM} {rows : List Ent} {cur : Cur}
theorem ref4_Add3 (hd : BI C w0 zs D1 D2 L rows cur) (B : Nat) (w : World) (pre rows1 : List Ent) (xb xm : Nat) (az : Option Addr) (nz cz : Nat) (an : Option Addr) (nn cn : Nat) (nm : ByteArray) (a : Option Addr) (n c : Nat) (cs : List BestR) (hB0 : B ≤ w.heap.size) (hx : Rd encBest B w a n c cs) (hn : n ≤ 4398046511104) (hq : nm.size ≤ 9223372036854775807)
    (hs0 : Sat B w (own2 xb xm az nz cz zs an nn cn (ordBA (pKeys D2)) D2 ++ tailE 1500 (pre ++ rows1))) :
    Calls Try.prog 57 #[.pointer (some ⟨xb, 0, none⟩), .string nm, .slice a n c] w fun e w' => e = .returned (.int .i64 (addR (pO D1 nm).isSome D1.length zs nm cs)) ∧ Below B w w' ∧
      (∃ an' nn' cn' D' rows', AddTo (addR (pO D1 nm).isSome D1.length zs nm cs) nm cs D2 D' rows1 rows' ∧ Sat B w' (own2 xb xm az nz cz zs an' nn' cn' (ordBA (pKeys D')) D' ++ tailE 1500 (pre ++ rows'))) ∧ B ≤ w'.heap.size ∧ Kd (fun _ => True) w w' := by
  have h := ref4_Add2 B w pre rows1 xb xm az nz cz zs an nn cn D2 nm a n c cs hB0 hx hn hq hd.n2 (by rw [hd.len]; exact hd.ln) hs0
  rw [hd.has, hd.len] at h
  exact h
theorem ref4_Remove2 (hd : BI C w0 zs D1 D2 L rows cur) (B : Nat) (w : World) (es : List Ent) (xb xm : Nat) (az : Option Addr) (nz cz : Nat) (an : Option Addr) (nn cn : Nat) (nm : ByteArray) (hB0 : B ≤ w.heap.size) (hs0 : Sat B w (own2 xb xm az nz cz zs an nn cn (ordBA (pKeys D2)) D2 ++ tailE 1500 es)) :
    Calls Try.prog 59 #[.pointer (some ⟨xb, 0, none⟩), .string nm] w fun e w' => e = .returned (.int .i64 (if (pO D1 nm).isSome = true then 0 else 4)) ∧ Below B w w' ∧ (∃ an' nn' cn', Sat B w' (own2 xb xm az nz cz zs an' nn' cn' (ordBA (pKeys (pD D2 nm))) (pD D2 nm) ++ tailE 1500 es)) ∧ B ≤ w'.heap.size ∧ Kd (fun _ => True) w w' := by
  have h := ref4_Remove B w es xb xm az nz cz zs an nn cn _ D2 nm hB0 rfl hd.n2 (by rw [hd.len]; exact hd.ln) hs0
  rw [hd.has] at h
  exact h
theorem ref4_Rank2 (hd : BI C w0 zs D1 D2 L rows cur) (w : World) (xb xm : Nat) (az : Option Addr) (nz cz : Nat) (an : Option Addr) (nn cn : Nat) (z : Int) (nm : ByteArray) (hK : Bk2 w.heap.size w xb xm az nz cz zs an nn cn (ordBA (pKeys D2)) D2 cur) (hr : zs.Pairwise (· < ·)) :
    Calls Try.prog 61 #[.pointer (some ⟨xb, 0, none⟩), .int .i64 z, .string nm] w fun e w' => e = .returned (.tuple #[.int .i64 (rankR cur (pO D1 nm).isSome (pKeys D1) zs z nm).1, .bool (rankR cur (pO D1 nm).isSome (pKeys D1) zs z nm).2.1, .int .i64 (rankR cur (pO D1 nm).isSome (pKeys D1) zs z nm).2.2]) ∧ Below w.heap.size w w' := by
  have h := ref4_Rank w xb xm az nz cz zs an nn cn _ D2 cur z nm hK hr (fun k hk => hd.cl k ((hd.k2 k).2 hk))
  rw [hd.rank] at h
  exact h
theorem ref4_Names2 (hd : BI C w0 zs D1 D2 L rows cur) (w : World) (xb xm : Nat) (az : Option Addr) (nz cz : Nat) (an : Option Addr) (nn cn : Nat) (hK : Bk2 w.heap.size w xb xm az nz cz zs an nn cn (ordBA (pKeys D2)) D2 cur) :
    Calls Try.prog 64 #[.pointer (some ⟨xb, 0, none⟩)] w fun e w' => ∃ b m k, e = .returned (.slice b m k) ∧ Fresh encStr 9 w w' b m k (ordBA (pKeys D1)) := by
  have h := ref4_Names w xb xm az nz cz zs an nn cn _ D2 cur hK
  rw [hd.ord] at h
  exact h
theorem ref4_Holders2 (hd : BI C w0 zs D1 D2 L rows cur) (w : World) (xb xm : Nat) (az : Option Addr) (nz cz : Nat) (an : Option Addr) (nn cn : Nat) (hK : Bk2 w.heap.size w xb xm az nz cz zs an nn cn (ordBA (pKeys D2)) D2 cur) (hzl : zs.length ≤ 100) :
    Calls Try.prog 67 #[.pointer (some ⟨xb, 0, none⟩)] w fun e w' => ∃ b m k, e = .returned (.slice b m k) ∧ Fresh encHold 92 w w' b m k (holdK cur (ordBA (pKeys D1)) zs zs.length) := by
  have h := ref4_Holders w xb xm az nz cz zs an nn cn _ D2 cur hK hzl (fun k hk => hd.cl k ((hd.k2 k).2 hk)) (fun x hx => hd.ne x ((hd.k2 x).2 (mem_ordBA.1 hx)))
  rw [hd.ord] at h
  exact h
end
theorem rev_strT (B : Nat) (a : Option Addr) (n c : Nat) (xs : List ByteArray) (es : List Ent) (w : World) (hn : xs.length = n) (hn2 : n ≤ 1000000) (hB : B ≤ w.heap.size) (hs : Sat B w ([(141, .row a n c (encStr.enc xs) 9 1)] ++ tailE 1500 es)) :
    Calls Try.prog 68 #[.slice a n c] w fun e w' =>
      e = .returned (.tuple #[]) ∧ Below B w w' ∧ Sat B w' ([(141, .row a n c (encStr.enc xs.reverse) 9 1)] ++ tailE 1500 es) ∧ B ≤ w'.heap.size ∧ Kd (fun _ => False) w w' := by
  refine enterQ (N := 28) (C := fun _ => False) (H := [(141, .row a n c (encStr.enc xs) 9 1)] ++ tailE 1500 es) (B := B) (args := [_]) Try.func68 rfl rfl rfl (hB) (hs) fun Q hQ => ?_
  refine wp_seq' fun K1 hK1 => ?_
  refine wp_reg ?_
  refine ol_r (r_move rfl) rfl ?_
  refine ol_r (r_len rfl sl49) rfl ?_
  refine ol_r (r_sub rfl rfl (by omega)) rfl ?_
  refine ol_r (r_assign rfl) rfl ?_
  refine ol_r (r_assign rfl) rfl ?_
  refine ol_nil (to_k0 (fun _ _ h => h) (hK1 _ _ _ _ _ ?_))
  clear hK1
  refine wp_block' ?_
  apply wp_loopT (σ := Nat × List ByteArray) (fun s => s.1 ≤ n ∧ Rv xs s.1 s.2) (fun s => [(2, .int .i64 s.1), (3, .int .i64 ((n : Int) - 1 - s.1))]) [(0, _)] (fun s => [(141, .row a n c (encStr.enc s.2) 9 1)]) [] (fun s => tailE 1500 es) (fun s => n - s.1) ((0, xs))
  ·try dsimp only
   exact ⟨Nat.zero_le _, Rv.start xs⟩
  ·exact (sub_cons (by first | rfl | (first | rfl | (rw [show (n : Int) - 1 - ((0 : Nat) : Int) = (n : Int) - 1 by omega]; rfl))) (sub_cons (by first | rfl | (first | rfl | (rw [show (n : Int) - 1 - ((0 : Nat) : Int) = (n : Int) - 1 by omega]; rfl))) sub_nil))
  ·exact (sub_cons rfl sub_nil)
  ·exact (subH_row rfl (by first | (dsimp only; rfl; done) | (rfl; done) | (dsimp only; done)) subH_nil)
  ·exact subH_nil
  ·refine subH_tailE fun j x hj => ?_
   simp only [List.cons_append, List.nil_append]
   repeat' refine (look_cons_ne _ _ (by omega)).trans ?_
   exact look_tailE hj
  ·rintro ⟨k, zs⟩ ⟨hk, hR⟩
   dsimp only at hk hR ⊢
   have hzl := hR.1
   intro K2 hK2
   refine wp_seq' fun K3 hK3 => ?_
   refine wp_seq' fun K4 hK4 => ?_
   refine wp_reg ?_
   refine ol_r (r_move rfl) rfl ?_
   refine ol_r (r_move rfl) rfl ?_
   refine ol_r (r_lss rfl rfl) rfl ?_
   refine ol_nil (to_k0 (fun _ _ h => h) (hK4 _ _ _ _ _ ?_))
   clear hK4
   first | refine wp_condD rfl (fun hc9 => ?_) (fun hc9 => ?_) | refine wp_condN rfl (fun hc9 => ?_) (fun hc9 => ?_) | refine wp_condNB rfl (fun hc9 => ?_) (fun hc9 => ?_) | refine wp_cond' rfl (fun hc9 => ?_) (fun hc9 => ?_)
   ·refine wp_skip' (to_k0 (fun _ _ h => h) (hK3 _ _ _ _ _ ?_))
    clear hK3
    refine wp_seq' fun K5 hK5 => ?_
    refine wp_block' ?_
    refine wp_rega [(999, []), (13, [(141, _)])] (by kernel_rfl) ⟨.inr subH_nil, ⟨.inr (subH_same rfl subH_nil), trivial⟩⟩ ?_
    refine aq_r 0 999 rfl (by kernel_rfl) (by kernel_rfl) (by kernel_rfl) (.head _) (by kernel_rfl) (by kernel_rfl) rfl (r_move rfl) ?_
    refine aq_r 1 999 rfl (by kernel_rfl) (by kernel_rfl) (by kernel_rfl) (.head _) (by kernel_rfl) (by kernel_rfl) rfl (r_move rfl) ?_
    refine aq_r 2 999 rfl (by kernel_rfl) (by kernel_rfl) (by kernel_rfl) (.head _) (by kernel_rfl) (by kernel_rfl) rfl (r_move rfl) ?_
    refine aq_r 3 999 rfl (by kernel_rfl) (by kernel_rfl) (by kernel_rfl) (.head _) (by kernel_rfl) (by kernel_rfl) rfl (r_move rfl) ?_
    refine aq_r 4 999 rfl (by kernel_rfl) (by kernel_rfl) (by kernel_rfl) (.head _) (by kernel_rfl) (by kernel_rfl) rfl (r_move rfl) ?_
    refine aq_r 5 999 rfl (by kernel_rfl) (by kernel_rfl) (by kernel_rfl) (.head _) (by kernel_rfl) (by kernel_rfl) rfl (r_move rfl) ?_
    refine aq_ixo 6 13 rfl (by kernel_rfl) (by kernel_rfl) (by kernel_rfl) (.tail _ (.head _)) (by kernel_rfl) (by kernel_rfl) rfl (id := 141) encStr _ rfl rfl rfl rfl sl49 (by omega) (by omega) fun x20 hx20 => ?_
    try simp only [Int.toNat_natCast] at hx20
    try simp only [Int.toNat_natCast] at hx20
    refine aq_r 7 13 rfl (by kernel_rfl) (by kernel_rfl) (by kernel_rfl) (.tail _ (.head _)) (by kernel_rfl) (by kernel_rfl) rfl (r_ldw rfl (fun w1 hb1 hs1 hB1 => ld_own (id := 141) hs1 rfl rfl ty9 hx20)) ?_
    refine aq_r 8 999 rfl (by kernel_rfl) (by kernel_rfl) (by kernel_rfl) (.head _) (by kernel_rfl) (by kernel_rfl) rfl (r_move rfl) ?_
    refine aq_r 9 999 rfl (by kernel_rfl) (by kernel_rfl) (by kernel_rfl) (.head _) (by kernel_rfl) (by kernel_rfl) rfl (r_move rfl) ?_
    refine aq_one (i := 10) (by kernel_rfl) rfl fun K6 hK6 => ?_
    refine ol_ixo (id := 141) encStr _ rfl rfl rfl rfl sl49 (by omega) rfl fun x24 hx24 => ?_
    try simp only [Int.toNat_natCast] at hx24
    try simp only [Int.toNat_natCast] at hx24
    refine ol_nil (to_k0 (fun _ _ h => h) (hK6 _ _ ⟨.inr (by repeat' first | exact subH_nil | refine subH_same rfl ?_ | (refine subH_blk rfl (by repeat' first | exact sub_nil | refine sub_cons rfl ?_) ?_)), ⟨.inr (by repeat' first | exact subH_nil | refine subH_same rfl ?_ | (refine subH_blk rfl (by repeat' first | exact sub_nil | refine sub_cons rfl ?_) ?_)), trivial⟩⟩ ?_))
    clear hK6
    refine aq_r 11 13 rfl (by kernel_rfl) (by kernel_rfl) (by kernel_rfl) (.tail _ (.head _)) (by kernel_rfl) (by kernel_rfl) rfl (r_ldw rfl (fun w1 hb1 hs1 hB1 => ld_own (id := 141) hs1 rfl rfl ty9 hx24)) ?_
    refine aq_ixo 12 13 rfl (by kernel_rfl) (by kernel_rfl) (by kernel_rfl) (.tail _ (.head _)) (by kernel_rfl) (by kernel_rfl) rfl (id := 141) encStr _ rfl rfl rfl rfl sl49 (by omega) (by omega) fun x26 hx26 => ?_
    try simp only [Int.toNat_natCast] at hx26
    try simp only [Int.toNat_natCast] at hx26
    refine aq_one (i := 13) (by kernel_rfl) rfl fun K7 hK7 => ?_
    refine ol_storeRow (id := 141) _ _ _ rfl rfl rfl rfl sz9 (by omega) ?_
    refine ol_nil (to_k0 (fun _ _ h => h) (hK7 _ _ ⟨.inr (by repeat' first | exact subH_nil | refine subH_same rfl ?_ | (refine subH_blk rfl (by repeat' first | exact sub_nil | refine sub_cons rfl ?_) ?_)), ⟨.inl (by kernel_rfl), trivial⟩⟩ ?_))
    clear hK7
    refine aq_one (i := 14) (by kernel_rfl) rfl fun K8 hK8 => ?_
    refine ol_ixo (id := 141) encStr _ rfl rfl rfl rfl sl49 (by omega) rfl fun x27 hx27 => ?_
    try simp only [Int.toNat_natCast] at hx27
    try simp only [Int.toNat_natCast] at hx27
    refine ol_nil (to_k0 (fun _ _ h => h) (hK8 _ _ ⟨.inr (by repeat' first | exact subH_nil | refine subH_same rfl ?_ | (refine subH_blk rfl (by repeat' first | exact sub_nil | refine sub_cons rfl ?_) ?_)), ⟨.inl (by kernel_rfl), trivial⟩⟩ ?_))
    clear hK8
    refine aq_one (i := 15) (by kernel_rfl) rfl fun K9 hK9 => ?_
    refine ol_storeRow (id := 141) _ _ _ rfl rfl rfl rfl sz9 (by omega) ?_
    refine ol_nil (to_k0 (fun _ _ h => h) (hK9 _ _ ⟨.inr (by repeat' first | exact subH_nil | refine subH_same rfl ?_ | (refine subH_blk rfl (by repeat' first | exact sub_nil | refine sub_cons rfl ?_) ?_)), ⟨.inl (by kernel_rfl), trivial⟩⟩ ?_))
    clear hK9
    refine aq_done (by kernel_rfl) ?_
    refine (to_k0 (fun _ _ h => h) (hK5 _ _ _ _ _ ?_))
    clear hK5
    refine wp_reg ?_
    refine ol_r (r_move rfl) rfl ?_
    refine ol_r (r_add rfl rfl (by omega)) rfl ?_
    refine ol_r (r_move rfl) rfl ?_
    refine ol_r (r_sub rfl rfl (by omega)) rfl ?_
    refine ol_r (r_assign rfl) rfl ?_
    refine ol_r (r_assign rfl) rfl ?_
    refine ol_nil (to_k0 (fun _ _ h => h) (hK2 ((k + 1, (zs.set ((k : Nat) : Int).toNat x20).set ((n : Int) - 1 - (k : Int)).toNat x24)) _ _ ?_ ?_ (sub_cons (by first | rfl | (first | rfl | (rw [show (n : Int) - 1 - ((k + 1 : Nat) : Int) = (n : Int) - 1 - (k : Int) - 1 by omega]; rfl))) (sub_cons (by first | rfl | (first | rfl | (rw [show (n : Int) - 1 - ((k + 1 : Nat) : Int) = (n : Int) - 1 - (k : Int) - 1 by omega]; rfl))) sub_nil)) (sub_cons rfl sub_nil) (by exact (subH_row rfl (by first | (dsimp only; rfl; done) | (rfl; done) | (dsimp only; done)) subH_nil)) subH_nil ?_))
    ·try dsimp only
     rw [Int.toNat_natCast]
     rw [show ((n : Int) - 1 - (k : Int)).toNat = xs.length - 1 - k by omega] at hx20 ⊢
     exact ⟨by omega, hR.step hx24 hx20 (by omega)⟩
    ·try dsimp only
     omega
    ·try dsimp only
     refine subH_tailE fun j x hj => ?_
     simp only [List.cons_append, List.nil_append]
     repeat' refine (look_cons_ne _ _ (by omega)).trans ?_
     exact look_tailE hj
   ·refine wp_exit' (hQ.fall rvs0 (fun _ _ h => h) fun w hb hs hB hkd => ?_)
    have hz := hR.stop (by omega)
    subst hz
    refine ⟨rfl, hb, hs.sub (subH_same rfl (subH_tailE fun j x hj => by simp only [List.cons_append, List.nil_append]; (repeat' refine (look_cons_ne _ _ (by omega)).trans ?_); exact look_tailE hj)), hB, hkd⟩
end Go.Proofs.Ytafkojlccknicaa

/-
  CheckStream, windows, Best: program and reference.
-/

namespace Go.Proofs.Ytafkojlccknicaa
open Go Go.RowKit Hx
set_option linter.unusedVariables false
set_option linter.unusedSimpArgs false
set_option maxRecDepth 8000

/-! #### windows, for the function of best -/
def bestV (z : Int) (st : BestS) : List Value := [.int .i64 z, .int .i64 st.sum, .int .i64 st.at_, .bool st.found]
def bcells (z : Int) (st : BestS) : List (Nat × Value) := pairs 0 (bestV z st)
theorem best_step (B b : Nat) (z f s : Int) (st : BestS) (e1 : Ent) (w : World) (hB : B ≤ w.heap.size) (hs : Sat B w [(100, .blk b (bcells z st) 24), (101, e1)]) :
    Calls Try.prog 113 #[.int .i64 f, .int .i64 s, .pointer (some ⟨b, 0, none⟩)] w fun e w' => e = .returned (.tuple #[]) ∧ Below B w w' ∧ Sat B w' [(100, .blk b (bcells z (bstep st f s)) 24), (101, e1)] ∧ B ≤ w'.heap.size ∧ Kd (fun _ => False) w w' := by
  refine enterQ (N := 19) (C := fun _ => False) (H := [(100, .blk b (bcells z st) 24), (101, e1)]) (B := B) (args := [_, _, _]) Try.func113 rfl rfl rfl (hB) (hs) fun Q hQ => ?_
  refine wp_seq' fun K1 hK1 => ?_
  refine wp_reg ?_
  refine ol_r (r_fa (o' := 3) rfl fl24_3 rfl) rfl ?_
  refine ol_r (r_ld (id := 100) rfl rfl rfl sc4) rfl ?_
  refine ol_r (r_not rfl) rfl ?_
  refine ol_r (r_move rfl) rfl ?_
  refine ol_split (d := 8) rfl (fun hs8 => ?_) (fun hs8 => ?_)
  ·have phs8 := hs8; try simp only [decide_eq_true_eq, decide_eq_false_iff_not, Bool.not_eq_true', Bool.not_eq_false', Bool.not_true, Bool.not_false] at phs8
   refine ol_s rfl rfl hs8 rfl ?_
   refine ol_s rfl rfl hs8 rfl ?_
   refine ol_s rfl rfl hs8 rfl ?_
   refine ol_s rfl rfl hs8 rfl ?_
   refine ol_r (r_pickT rfl hs8 rfl) rfl ?_
   refine ol_nil (to_k0 (fun _ _ h => h) (hK1 _ _ _ _ _ ?_))
   clear hK1
   refine wp_condT rfl ?_
   refine wp_reg ?_
   refine ol_r (r_move rfl) rfl ?_
   refine ol_r (r_move rfl) rfl ?_
   refine ol_r (r_fa (o' := 3) rfl fl24_3 rfl) rfl ?_
   refine ol_store (id := 100) rfl rfl rfl rfl sz4 rfl rfl (by first | decide | exact Nat.zero_lt_succ _ | simp) ?_
   refine ol_r (r_fa (o' := 1) rfl fl24_1 rfl) rfl ?_
   refine ol_store (id := 100) rfl rfl rfl rfl sz3 rfl rfl (by first | decide | exact Nat.zero_lt_succ _ | simp) ?_
   refine ol_r (r_fa (o' := 2) rfl fl24_2 rfl) rfl ?_
   refine ol_store (id := 100) rfl rfl rfl rfl sz3 rfl rfl (by first | decide | exact Nat.zero_lt_succ _ | simp) ?_
   refine ol_nil (hQ.fall rvs0 (fun _ _ h => h) fun w hb hs hB hkd => ?_)
   have hst : bstep st f s = ⟨s, f, true⟩ ∨ bstep st f s = st := by unfold bstep; split; exact .inl rfl; exact .inr rfl
   first
     | (have h : bstep st f s = ⟨s, f, true⟩ := by unfold bstep; rw [if_pos (by simp_all)]
        rw [h]
        refine ⟨rfl, hb, hs.sub (subH_blk rfl ?_ (subH_same rfl subH_nil)), hB, hkd⟩
        exact sub_cons rfl (sub_cons rfl (sub_cons rfl (sub_cons rfl sub_nil))))
     | (have h : bstep st f s = st := by unfold bstep; rw [if_neg (by simp_all)]
        rw [h]
        refine ⟨rfl, hb, hs.sub (subH_blk rfl ?_ (subH_same rfl subH_nil)), hB, hkd⟩
        exact sub_cons rfl (sub_cons rfl (sub_cons rfl (sub_cons rfl sub_nil))))
  ·have phs8 := hs8; try simp only [decide_eq_true_eq, decide_eq_false_iff_not, Bool.not_eq_true', Bool.not_eq_false', Bool.not_true, Bool.not_false] at phs8
   refine ol_g rfl rfl hs8 ?_
   refine ol_r (r_move rfl) rfl ?_
   refine ol_g rfl rfl hs8 ?_
   refine ol_r (r_fa (o' := 1) rfl fl24_1 rfl) rfl ?_
   refine ol_g rfl rfl hs8 ?_
   refine ol_r (r_ld (id := 100) rfl rfl rfl sc3) rfl ?_
   refine ol_g rfl rfl hs8 ?_
   refine ol_r (r_gtr rfl rfl) rfl ?_
   refine ol_r (r_pickF rfl hs8 rfl) rfl ?_
   refine ol_nil (to_k0 (fun _ _ h => h) (hK1 _ _ _ _ _ ?_))
   clear hK1
   first | refine wp_condD rfl (fun hc13 => ?_) (fun hc13 => ?_) | refine wp_condN rfl (fun hc13 => ?_) (fun hc13 => ?_) | refine wp_condNB rfl (fun hc13 => ?_) (fun hc13 => ?_) | refine wp_cond' rfl (fun hc13 => ?_) (fun hc13 => ?_)
   ·refine wp_reg ?_
    refine ol_r (r_move rfl) rfl ?_
    refine ol_r (r_move rfl) rfl ?_
    refine ol_r (r_fa (o' := 3) rfl fl24_3 rfl) rfl ?_
    refine ol_store (id := 100) rfl rfl rfl rfl sz4 rfl rfl (by first | decide | exact Nat.zero_lt_succ _ | simp) ?_
    refine ol_r (r_fa (o' := 1) rfl fl24_1 rfl) rfl ?_
    refine ol_store (id := 100) rfl rfl rfl rfl sz3 rfl rfl (by first | decide | exact Nat.zero_lt_succ _ | simp) ?_
    refine ol_r (r_fa (o' := 2) rfl fl24_2 rfl) rfl ?_
    refine ol_store (id := 100) rfl rfl rfl rfl sz3 rfl rfl (by first | decide | exact Nat.zero_lt_succ _ | simp) ?_
    refine ol_nil (hQ.fall rvs0 (fun _ _ h => h) fun w hb hs hB hkd => ?_)
    have hst : bstep st f s = ⟨s, f, true⟩ ∨ bstep st f s = st := by unfold bstep; split; exact .inl rfl; exact .inr rfl
    first
      | (have h : bstep st f s = ⟨s, f, true⟩ := by unfold bstep; rw [if_pos (by simp_all)]
         rw [h]
         refine ⟨rfl, hb, hs.sub (subH_blk rfl ?_ (subH_same rfl subH_nil)), hB, hkd⟩
         exact sub_cons rfl (sub_cons rfl (sub_cons rfl (sub_cons rfl sub_nil))))
      | (have h : bstep st f s = st := by unfold bstep; rw [if_neg (by simp_all)]
         rw [h]
         refine ⟨rfl, hb, hs.sub (subH_blk rfl ?_ (subH_same rfl subH_nil)), hB, hkd⟩
         exact sub_cons rfl (sub_cons rfl (sub_cons rfl (sub_cons rfl sub_nil))))
   ·refine wp_skip' (hQ.fall rvs0 (fun _ _ h => h) fun w hb hs hB hkd => ?_)
    have hst : bstep st f s = ⟨s, f, true⟩ ∨ bstep st f s = st := by unfold bstep; split; exact .inl rfl; exact .inr rfl
    first
      | (have h : bstep st f s = ⟨s, f, true⟩ := by unfold bstep; rw [if_pos (by simp_all)]
         rw [h]
         refine ⟨rfl, hb, hs.sub (subH_blk rfl ?_ (subH_same rfl subH_nil)), hB, hkd⟩
         exact sub_cons rfl (sub_cons rfl (sub_cons rfl (sub_cons rfl sub_nil))))
      | (have h : bstep st f s = st := by unfold bstep; rw [if_neg (by simp_all)]
         rw [h]
         refine ⟨rfl, hb, hs.sub (subH_blk rfl ?_ (subH_same rfl subH_nil)), hB, hkd⟩
         exact sub_cons rfl (sub_cons rfl (sub_cons rfl (sub_cons rfl sub_nil))))
theorem windows_best (B b : Nat) (a : Option Addr) (n cap : Nat) (xs : List Int) (z : Nat) (e1 : Ent) (w : World) (hl : Rd encI B w a n cap xs) (hz : 1 ≤ z ∧ z ≤ 1000000) (hx : streamR xs = 0) (hB : B ≤ w.heap.size)
    (hs : Sat B w [(100, .blk b (bcells z (bestK xs z 0)) 24), (101, e1)]) :
    Calls Try.prog 112 #[.slice a n cap, .int .i64 z, .func (.func 113) #[] #[.pointer (some ⟨b, 0, none⟩)]] w fun e w' =>
      e = .returned (.tuple #[]) ∧ Below B w w' ∧ Sat B w' [(100, .blk b (bcells z (bestK xs z n)) 24), (101, e1)] ∧ B ≤ w'.heap.size ∧ Kd (fun _ => False) w w' := by
  have hn := hl.len
  have hfit := hl.fit
  subst hn
  have hok := streamR_ok hx
  refine enterQ (N := 62) (C := fun _ => False) (H := [(100, .blk b (bcells z (bestK xs z 0)) 24), (101, e1)]) (B := B) (args := [_, _, _]) Try.func112 rfl rfl rfl (hB) (hs) fun Q hQ => ?_
  refine wp_seq' fun K1 hK1 => ?_
  refine wp_reg ?_
  refine ol_r (r_assign rfl) rfl ?_
  refine ol_r (r_assign rfl) rfl ?_
  refine ol_nil (to_k0 (fun _ _ h => h) (hK1 _ _ _ _ _ ?_))
  clear hK1
  refine wp_seq' fun K2 hK2 => ?_
  refine wp_reg ?_
  refine ol_r (r_move rfl) rfl ?_
  refine ol_r (r_len rfl sl22) rfl ?_
  refine ol_r (r_move rfl) rfl ?_
  refine ol_nil (to_k0 (fun _ _ h => h) (hK2 _ _ _ _ _ ?_))
  clear hK2
  refine wp_block' ?_
  apply wp_loopM (σ := Nat × Int × Int × BestS) (fun s => s.1 ≤ xs.length ∧ s.2.1 = pS xs s.1 - pS xs (s.1 - z) ∧ s.2.2.1 = pU xs s.1 - pU xs (s.1 - z) ∧ s.2.2.2 = bestK xs z s.1) (fun s => [(12, .int .i64 s.1), (6, .int .i64 s.2.1), (7, .int .i64 s.2.2.1)]) [(0, _), (1, _), (2, _), (10, _), (11, _)] (fun s => [(100, (.blk b (bcells z s.2.2.2) 24))]) [(101, _)] (fun s => xs.length - s.1) ((0, 0, 0, bestK xs z 0))
  ·try dsimp only
   exact ⟨Nat.zero_le _, by simp [pS_zero], by simp [pU_zero], rfl⟩
  ·exact (sub_cons rfl (sub_cons rfl (sub_cons rfl sub_nil)))
  ·exact (sub_cons rfl (sub_cons rfl (sub_cons rfl (sub_cons rfl (sub_cons rfl sub_nil)))))
  ·exact (subH_same rfl subH_nil)
  ·exact (subH_same rfl subH_nil)
  ·rintro ⟨k, sum, unk, st⟩ ⟨hk, hsum, hunk, hst⟩
   dsimp only at hk hsum hunk hst ⊢
   intro K3 hK3
   refine wp_seq' fun K4 hK4 => ?_
   refine wp_reg ?_
   refine ol_r (r_lss rfl rfl) rfl ?_
   refine ol_nil (to_k0 (fun _ _ h => h) (hK4 _ _ _ _ _ ?_))
   clear hK4
   refine wp_seq' fun K5 hK5 => ?_
   first | refine wp_condD rfl (fun hc13 => ?_) (fun hc13 => ?_) | refine wp_condN rfl (fun hc13 => ?_) (fun hc13 => ?_) | refine wp_condNB rfl (fun hc13 => ?_) (fun hc13 => ?_) | refine wp_cond' rfl (fun hc13 => ?_) (fun hc13 => ?_)
   ·refine wp_skip' (to_k0 (fun _ _ h => h) (hK5 _ _ _ _ _ ?_))
    clear hK5
    refine wp_seq' fun K6 hK6 => ?_
    refine wp_block' ?_
    refine wp_seq' fun K7 hK7 => ?_
    refine wp_reg ?_
    refine ol_r (r_move rfl) rfl ?_
    refine ol_ixr hl rfl rfl sl22 (by omega) rfl fun x15 hx15 => ?_
    try simp only [Int.toNat_natCast] at hx15
    refine ol_r (r_ldw rfl (fun w1 hb1 hs1 hB1 => show Loads _ _ _ _ (.int .i64 x15) from Rd.loads hl ty3 hx15 hb1)) rfl ?_
    refine ol_r (r_assign rfl) rfl ?_
    refine ol_r (r_assign rfl) rfl ?_
    refine ol_nil (to_k0 (fun _ _ h => h) (hK7 _ _ _ _ _ ?_))
    clear hK7
    refine wp_seq' fun K8 hK8 => ?_
    refine wp_reg ?_
    refine ol_r (r_move rfl) rfl ?_
    have q1 := pS_bd hok.1 hok.2 k
    have q2 := pS_bd hok.1 hok.2 (k - z)
    have q3 := pU_bd hok.1 k (xs := xs)
    have q4 := pU_bd hok.1 (k - z) (xs := xs)
    have qx := hok.2 _ (List.mem_of_getElem? hx15)
    have qs := pS_succ hx15
    have qu := pU_succ hx15
    have ep1 := pv_bd qx.2
    have ep2 := nv_bd x15
    refine ol_r (r_move rfl) rfl ?_
    refine ol_r (r_max rfl rfl) rfl ?_
    refine ol_r (r_add rfl rfl (by omega)) rfl ?_
    refine ol_r (r_assign rfl) rfl ?_
    refine ol_nil (to_k0 (fun _ _ h => h) (hK8 _ _ _ _ _ ?_))
    clear hK8
    refine wp_seq' fun K9 hK9 => ?_
    refine wp_seq' fun K10 hK10 => ?_
    refine wp_reg ?_
    refine ol_r (r_move rfl) rfl ?_
    refine ol_r (r_lss rfl rfl) rfl ?_
    refine ol_nil (to_k0 (fun _ _ h => h) (hK10 _ _ _ _ _ ?_))
    clear hK10
    first | refine wp_condD rfl (fun hc22 => ?_) (fun hc22 => ?_) | refine wp_condN rfl (fun hc22 => ?_) (fun hc22 => ?_) | refine wp_condNB rfl (fun hc22 => ?_) (fun hc22 => ?_) | refine wp_cond' rfl (fun hc22 => ?_) (fun hc22 => ?_)
    ·refine wp_reg ?_
     refine ol_r (r_move rfl) rfl ?_
     refine ol_r (r_add rfl rfl (by omega)) rfl ?_
     refine ol_r (r_assign rfl) rfl ?_
     refine ol_nil (to_k0 (fun _ _ h => h) (hK9 _ _ _ _ _ ?_))
     clear hK9
     refine wp_seq' fun K11 hK11 => ?_
     refine wp_seq' fun K12 hK12 => ?_
     refine wp_reg ?_
     refine ol_r (r_move rfl) rfl ?_
     refine ol_r (r_move rfl) rfl ?_
     refine ol_r (r_geq rfl rfl) rfl ?_
     refine ol_nil (to_k0 (fun _ _ h => h) (hK12 _ _ _ _ _ ?_))
     clear hK12
     first | refine wp_condD rfl (fun hc27 => ?_) (fun hc27 => ?_) | refine wp_condN rfl (fun hc27 => ?_) (fun hc27 => ?_) | refine wp_condNB rfl (fun hc27 => ?_) (fun hc27 => ?_) | refine wp_cond' rfl (fun hc27 => ?_) (fun hc27 => ?_)
     ·refine wp_seq' fun K13 hK13 => ?_
      refine wp_reg ?_
      refine ol_r (r_move rfl) rfl ?_
      refine ol_r (r_move rfl) rfl ?_
      refine ol_r (r_move rfl) rfl ?_
      refine ol_r (r_move rfl) rfl ?_
      refine ol_r (r_sub rfl rfl (by omega)) rfl ?_
      refine ol_ixr hl rfl rfl sl22 (by omega) rfl fun x33 hx33 => ?_
      try simp only [Int.toNat_natCast] at hx33
      have hk33 : xs[k - z]? = some x33 := by rw [← hx33]; congr 1; omega
      have r1 := pS_succ hk33
      have r2 := pU_succ hk33
      have r3 := hok.2 _ (List.mem_of_getElem? hk33)
      have r4 := pv_bd r3.2
      refine ol_r (r_ldw rfl (fun w1 hb1 hs1 hB1 => show Loads _ _ _ _ (.int .i64 x33) from Rd.loads hl ty3 hx33 hb1)) rfl ?_
      refine ol_r (r_max rfl rfl) rfl ?_
      refine ol_r (r_sub rfl rfl (by omega)) rfl ?_
      refine ol_r (r_assign rfl) rfl ?_
      refine ol_nil (to_k0 (fun _ _ h => h) (hK13 _ _ _ _ _ ?_))
      clear hK13
      refine wp_seq' fun K14 hK14 => ?_
      refine wp_reg ?_
      refine ol_r (r_move rfl) rfl ?_
      refine ol_r (r_move rfl) rfl ?_
      refine ol_r (r_move rfl) rfl ?_
      refine ol_r (r_sub rfl rfl (by omega)) rfl ?_
      refine ol_ixr hl rfl rfl sl22 (by omega) rfl fun x41 hx41 => ?_
      try simp only [Int.toNat_natCast] at hx41
      have h41 : x41 = x33 := by rw [hx33] at hx41; cases hx41; rfl
      subst h41
      refine ol_r (r_ldw rfl (fun w1 hb1 hs1 hB1 => show Loads _ _ _ _ (.int .i64 x41) from Rd.loads hl ty3 hx41 hb1)) rfl ?_
      refine ol_r (r_lss rfl rfl) rfl ?_
      refine ol_nil (to_k0 (fun _ _ h => h) (hK14 _ _ _ _ _ ?_))
      clear hK14
      first | refine wp_condD rfl (fun hc43 => ?_) (fun hc43 => ?_) | refine wp_condN rfl (fun hc43 => ?_) (fun hc43 => ?_) | refine wp_condNB rfl (fun hc43 => ?_) (fun hc43 => ?_) | refine wp_cond' rfl (fun hc43 => ?_) (fun hc43 => ?_)
      ·refine wp_reg ?_
       refine ol_r (r_move rfl) rfl ?_
       refine ol_r (r_sub rfl rfl (by omega)) rfl ?_
       refine ol_r (r_assign rfl) rfl ?_
       refine ol_nil (to_k0 (fun _ _ h => h) (hK11 _ _ _ _ _ ?_))
       clear hK11
       refine wp_seq' fun K15 hK15 => ?_
       refine wp_reg ?_
       refine ol_r (r_move rfl) rfl ?_
       refine ol_r (r_move rfl) rfl ?_
       refine ol_r (r_sub rfl rfl (by omega)) rfl ?_
       refine ol_r (r_geq rfl rfl) rfl ?_
       refine ol_r (r_move rfl) rfl ?_
       refine ol_split (d := 50) rfl (fun hs50 => ?_) (fun hs50 => ?_)
       ·have phs50 := hs50; try simp only [decide_eq_true_eq, decide_eq_false_iff_not, Bool.not_eq_true', Bool.not_eq_false', Bool.not_true, Bool.not_false] at phs50
        refine ol_g rfl rfl hs50 ?_
        refine ol_r (r_move rfl) rfl ?_
        refine ol_g rfl rfl hs50 ?_
        refine ol_r (r_eql rfl rfl) rfl ?_
        refine ol_r (r_pickT rfl hs50 rfl) rfl ?_
        refine ol_nil (to_k0 (fun _ _ h => h) (hK15 _ _ _ _ _ ?_))
        clear hK15
        first | refine wp_condD rfl (fun hc53 => ?_) (fun hc53 => ?_) | refine wp_condN rfl (fun hc53 => ?_) (fun hc53 => ?_) | refine wp_condNB rfl (fun hc53 => ?_) (fun hc53 => ?_) | refine wp_cond' rfl (fun hc53 => ?_) (fun hc53 => ?_)
        ·refine wp_reg ?_
         refine ol_r (r_move rfl) rfl ?_
         refine ol_r (r_move rfl) rfl ?_
         refine ol_r (r_move rfl) rfl ?_
         refine ol_r (r_sub rfl rfl (by omega)) rfl ?_
         refine ol_r (r_add rfl rfl (by omega)) rfl ?_
         refine ol_r (r_move rfl) rfl ?_
         refine ol_call rfl rfl cb113 rfl (fun w1 hb1 hs1 hB1 => ?_)
         refine Calls.mono (best_step B b z _ _ _ e1 _ hB1 (hs1.sub (subH_same rfl (subH_same rfl subH_nil)))) ?_
         rintro e w2 ⟨rfl, hb2, hs2, hB2, hk2⟩
         refine After.sat rfl hb1 hb2 hs2 hB2 (hk2.imp fun _ h => h.elim) ?_
         clear hk2 hs2 hb2 hB2 hB1 hs1 hb1 w2 w1
         refine ol_nil (to_k0 (fun _ _ h => h) (hK6 _ _ _ _ _ ?_))
         clear hK6
         refine wp_reg ?_
         refine ol_r (r_add rfl rfl (by omega)) rfl ?_
         refine ol_r (r_move rfl) rfl ?_
         refine ol_nil (to_k0 (fun _ _ h => h) (hK3 ((k + 1, _, _, _)) _ _ ?_ ?_ (sub_cons rfl (sub_cons rfl (sub_cons rfl sub_nil))) (sub_cons rfl (sub_cons rfl (sub_cons rfl (sub_cons rfl (sub_cons rfl sub_nil))))) (by exact (subH_same rfl subH_nil)) (subH_same rfl subH_nil)))
         ·try dsimp only
          have p15 : pv x15 = max x15 0 := by unfold pv; split <;> omega
          have n15 : nv x15 = (if x15 < 0 then 1 else 0) := rfl
          first
            | (have n15' := nv_neg hc22; clear n15)
            | (have n15' := nv_nn hc22; clear n15)
          first
            | (exfalso; omega)
            | (have hk1 : k + 1 - z = k - z + 1 := by omega
               have p33 : pv x41 = max x41 0 := by unfold pv; split <;> omega
               skip
               first | have n33' := nv_neg hc43 | have n33' := nv_nn hc43
               refine ⟨by omega, by rw [hk1]; omega, by rw [hk1]; omega, ?_⟩
               first
                 | (rw [bestK_known (by omega) (by rw [hk1]; omega)]; refine congr (congr (congrArg bstep hst) ?_) ?_ <;> first | omega | (rw [hk1]; omega))
                 | (rw [bestK_unknown (by omega) (by rw [hk1]; omega)]; exact hst))
            | (have hk1 : k + 1 - z = k - z := by omega
               refine ⟨by omega, by rw [hk1]; omega, by rw [hk1]; omega, ?_⟩
               first
                 | (rw [bestK_known (by omega) (by rw [hk1]; omega)]; refine congr (congr (congrArg bstep hst) ?_) ?_ <;> first | omega | (rw [hk1]; omega))
                 | (rw [bestK_less (by omega)]; exact hst)
                 | (rw [bestK_unknown (by omega) (by rw [hk1]; omega)]; exact hst))
         ·try dsimp only
          omega
        ·refine wp_skip' (to_k0 (fun _ _ h => h) (hK6 _ _ _ _ _ ?_))
         clear hK6
         refine wp_reg ?_
         refine ol_r (r_add rfl rfl (by omega)) rfl ?_
         refine ol_r (r_move rfl) rfl ?_
         refine ol_nil (to_k0 (fun _ _ h => h) (hK3 ((k + 1, _, _, _)) _ _ ?_ ?_ (sub_cons rfl (sub_cons rfl (sub_cons rfl sub_nil))) (sub_cons rfl (sub_cons rfl (sub_cons rfl (sub_cons rfl (sub_cons rfl sub_nil))))) (by exact (subH_same rfl subH_nil)) (subH_same rfl subH_nil)))
         ·try dsimp only
          have p15 : pv x15 = max x15 0 := by unfold pv; split <;> omega
          have n15 : nv x15 = (if x15 < 0 then 1 else 0) := rfl
          first
            | (have n15' := nv_neg hc22; clear n15)
            | (have n15' := nv_nn hc22; clear n15)
          first
            | (exfalso; omega)
            | (have hk1 : k + 1 - z = k - z + 1 := by omega
               have p33 : pv x41 = max x41 0 := by unfold pv; split <;> omega
               skip
               first | have n33' := nv_neg hc43 | have n33' := nv_nn hc43
               refine ⟨by omega, by rw [hk1]; omega, by rw [hk1]; omega, ?_⟩
               first
                 | (rw [bestK_known (by omega) (by rw [hk1]; omega)]; refine congr (congr (congrArg bstep hst) ?_) ?_ <;> first | omega | (rw [hk1]; omega))
                 | (rw [bestK_unknown (by omega) (by rw [hk1]; omega)]; exact hst))
            | (have hk1 : k + 1 - z = k - z := by omega
               refine ⟨by omega, by rw [hk1]; omega, by rw [hk1]; omega, ?_⟩
               first
                 | (rw [bestK_known (by omega) (by rw [hk1]; omega)]; refine congr (congr (congrArg bstep hst) ?_) ?_ <;> first | omega | (rw [hk1]; omega))
                 | (rw [bestK_less (by omega)]; exact hst)
                 | (rw [bestK_unknown (by omega) (by rw [hk1]; omega)]; exact hst))
         ·try dsimp only
          omega
       ·have phs50 := hs50; try simp only [decide_eq_true_eq, decide_eq_false_iff_not, Bool.not_eq_true', Bool.not_eq_false', Bool.not_true, Bool.not_false] at phs50
        refine ol_s rfl rfl hs50 rfl ?_
        refine ol_s rfl rfl hs50 rfl ?_
        refine ol_r (r_pickF rfl hs50 rfl) rfl ?_
        refine ol_nil (to_k0 (fun _ _ h => h) (hK15 _ _ _ _ _ ?_))
        clear hK15
        refine wp_condF rfl ?_
        refine wp_skip' (to_k0 (fun _ _ h => h) (hK6 _ _ _ _ _ ?_))
        clear hK6
        refine wp_reg ?_
        refine ol_r (r_add rfl rfl (by omega)) rfl ?_
        refine ol_r (r_move rfl) rfl ?_
        refine ol_nil (to_k0 (fun _ _ h => h) (hK3 ((k + 1, _, _, _)) _ _ ?_ ?_ (sub_cons rfl (sub_cons rfl (sub_cons rfl sub_nil))) (sub_cons rfl (sub_cons rfl (sub_cons rfl (sub_cons rfl (sub_cons rfl sub_nil))))) (by exact (subH_same rfl subH_nil)) (subH_same rfl subH_nil)))
        ·try dsimp only
         have p15 : pv x15 = max x15 0 := by unfold pv; split <;> omega
         have n15 : nv x15 = (if x15 < 0 then 1 else 0) := rfl
         first
           | (have n15' := nv_neg hc22; clear n15)
           | (have n15' := nv_nn hc22; clear n15)
         first
           | (exfalso; omega)
           | (have hk1 : k + 1 - z = k - z + 1 := by omega
              have p33 : pv x41 = max x41 0 := by unfold pv; split <;> omega
              skip
              first | have n33' := nv_neg hc43 | have n33' := nv_nn hc43
              refine ⟨by omega, by rw [hk1]; omega, by rw [hk1]; omega, ?_⟩
              first
                | (rw [bestK_known (by omega) (by rw [hk1]; omega)]; refine congr (congr (congrArg bstep hst) ?_) ?_ <;> first | omega | (rw [hk1]; omega))
                | (rw [bestK_unknown (by omega) (by rw [hk1]; omega)]; exact hst))
           | (have hk1 : k + 1 - z = k - z := by omega
              refine ⟨by omega, by rw [hk1]; omega, by rw [hk1]; omega, ?_⟩
              first
                | (rw [bestK_known (by omega) (by rw [hk1]; omega)]; refine congr (congr (congrArg bstep hst) ?_) ?_ <;> first | omega | (rw [hk1]; omega))
                | (rw [bestK_less (by omega)]; exact hst)
                | (rw [bestK_unknown (by omega) (by rw [hk1]; omega)]; exact hst))
        ·try dsimp only
         omega
      ·refine wp_skip' (to_k0 (fun _ _ h => h) (hK11 _ _ _ _ _ ?_))
       clear hK11
       refine wp_seq' fun K16 hK16 => ?_
       refine wp_reg ?_
       refine ol_r (r_move rfl) rfl ?_
       refine ol_r (r_move rfl) rfl ?_
       refine ol_r (r_sub rfl rfl (by omega)) rfl ?_
       refine ol_r (r_geq rfl rfl) rfl ?_
       refine ol_r (r_move rfl) rfl ?_
       refine ol_split (d := 50) rfl (fun hs50 => ?_) (fun hs50 => ?_)
       ·have phs50 := hs50; try simp only [decide_eq_true_eq, decide_eq_false_iff_not, Bool.not_eq_true', Bool.not_eq_false', Bool.not_true, Bool.not_false] at phs50
        refine ol_g rfl rfl hs50 ?_
        refine ol_r (r_move rfl) rfl ?_
        refine ol_g rfl rfl hs50 ?_
        refine ol_r (r_eql rfl rfl) rfl ?_
        refine ol_r (r_pickT rfl hs50 rfl) rfl ?_
        refine ol_nil (to_k0 (fun _ _ h => h) (hK16 _ _ _ _ _ ?_))
        clear hK16
        first | refine wp_condD rfl (fun hc53 => ?_) (fun hc53 => ?_) | refine wp_condN rfl (fun hc53 => ?_) (fun hc53 => ?_) | refine wp_condNB rfl (fun hc53 => ?_) (fun hc53 => ?_) | refine wp_cond' rfl (fun hc53 => ?_) (fun hc53 => ?_)
        ·refine wp_reg ?_
         refine ol_r (r_move rfl) rfl ?_
         refine ol_r (r_move rfl) rfl ?_
         refine ol_r (r_move rfl) rfl ?_
         refine ol_r (r_sub rfl rfl (by omega)) rfl ?_
         refine ol_r (r_add rfl rfl (by omega)) rfl ?_
         refine ol_r (r_move rfl) rfl ?_
         refine ol_call rfl rfl cb113 rfl (fun w1 hb1 hs1 hB1 => ?_)
         refine Calls.mono (best_step B b z _ _ _ e1 _ hB1 (hs1.sub (subH_same rfl (subH_same rfl subH_nil)))) ?_
         rintro e w2 ⟨rfl, hb2, hs2, hB2, hk2⟩
         refine After.sat rfl hb1 hb2 hs2 hB2 (hk2.imp fun _ h => h.elim) ?_
         clear hk2 hs2 hb2 hB2 hB1 hs1 hb1 w2 w1
         refine ol_nil (to_k0 (fun _ _ h => h) (hK6 _ _ _ _ _ ?_))
         clear hK6
         refine wp_reg ?_
         refine ol_r (r_add rfl rfl (by omega)) rfl ?_
         refine ol_r (r_move rfl) rfl ?_
         refine ol_nil (to_k0 (fun _ _ h => h) (hK3 ((k + 1, _, _, _)) _ _ ?_ ?_ (sub_cons rfl (sub_cons rfl (sub_cons rfl sub_nil))) (sub_cons rfl (sub_cons rfl (sub_cons rfl (sub_cons rfl (sub_cons rfl sub_nil))))) (by exact (subH_same rfl subH_nil)) (subH_same rfl subH_nil)))
         ·try dsimp only
          have p15 : pv x15 = max x15 0 := by unfold pv; split <;> omega
          have n15 : nv x15 = (if x15 < 0 then 1 else 0) := rfl
          first
            | (have n15' := nv_neg hc22; clear n15)
            | (have n15' := nv_nn hc22; clear n15)
          first
            | (exfalso; omega)
            | (have hk1 : k + 1 - z = k - z + 1 := by omega
               have p33 : pv x41 = max x41 0 := by unfold pv; split <;> omega
               skip
               first | have n33' := nv_neg hc43 | have n33' := nv_nn hc43
               refine ⟨by omega, by rw [hk1]; omega, by rw [hk1]; omega, ?_⟩
               first
                 | (rw [bestK_known (by omega) (by rw [hk1]; omega)]; refine congr (congr (congrArg bstep hst) ?_) ?_ <;> first | omega | (rw [hk1]; omega))
                 | (rw [bestK_unknown (by omega) (by rw [hk1]; omega)]; exact hst))
            | (have hk1 : k + 1 - z = k - z := by omega
               refine ⟨by omega, by rw [hk1]; omega, by rw [hk1]; omega, ?_⟩
               first
                 | (rw [bestK_known (by omega) (by rw [hk1]; omega)]; refine congr (congr (congrArg bstep hst) ?_) ?_ <;> first | omega | (rw [hk1]; omega))
                 | (rw [bestK_less (by omega)]; exact hst)
                 | (rw [bestK_unknown (by omega) (by rw [hk1]; omega)]; exact hst))
         ·try dsimp only
          omega
        ·refine wp_skip' (to_k0 (fun _ _ h => h) (hK6 _ _ _ _ _ ?_))
         clear hK6
         refine wp_reg ?_
         refine ol_r (r_add rfl rfl (by omega)) rfl ?_
         refine ol_r (r_move rfl) rfl ?_
         refine ol_nil (to_k0 (fun _ _ h => h) (hK3 ((k + 1, _, _, _)) _ _ ?_ ?_ (sub_cons rfl (sub_cons rfl (sub_cons rfl sub_nil))) (sub_cons rfl (sub_cons rfl (sub_cons rfl (sub_cons rfl (sub_cons rfl sub_nil))))) (by exact (subH_same rfl subH_nil)) (subH_same rfl subH_nil)))
         ·try dsimp only
          have p15 : pv x15 = max x15 0 := by unfold pv; split <;> omega
          have n15 : nv x15 = (if x15 < 0 then 1 else 0) := rfl
          first
            | (have n15' := nv_neg hc22; clear n15)
            | (have n15' := nv_nn hc22; clear n15)
          first
            | (exfalso; omega)
            | (have hk1 : k + 1 - z = k - z + 1 := by omega
               have p33 : pv x41 = max x41 0 := by unfold pv; split <;> omega
               skip
               first | have n33' := nv_neg hc43 | have n33' := nv_nn hc43
               refine ⟨by omega, by rw [hk1]; omega, by rw [hk1]; omega, ?_⟩
               first
                 | (rw [bestK_known (by omega) (by rw [hk1]; omega)]; refine congr (congr (congrArg bstep hst) ?_) ?_ <;> first | omega | (rw [hk1]; omega))
                 | (rw [bestK_unknown (by omega) (by rw [hk1]; omega)]; exact hst))
            | (have hk1 : k + 1 - z = k - z := by omega
               refine ⟨by omega, by rw [hk1]; omega, by rw [hk1]; omega, ?_⟩
               first
                 | (rw [bestK_known (by omega) (by rw [hk1]; omega)]; refine congr (congr (congrArg bstep hst) ?_) ?_ <;> first | omega | (rw [hk1]; omega))
                 | (rw [bestK_less (by omega)]; exact hst)
                 | (rw [bestK_unknown (by omega) (by rw [hk1]; omega)]; exact hst))
         ·try dsimp only
          omega
       ·have phs50 := hs50; try simp only [decide_eq_true_eq, decide_eq_false_iff_not, Bool.not_eq_true', Bool.not_eq_false', Bool.not_true, Bool.not_false] at phs50
        refine ol_s rfl rfl hs50 rfl ?_
        refine ol_s rfl rfl hs50 rfl ?_
        refine ol_r (r_pickF rfl hs50 rfl) rfl ?_
        refine ol_nil (to_k0 (fun _ _ h => h) (hK16 _ _ _ _ _ ?_))
        clear hK16
        refine wp_condF rfl ?_
        refine wp_skip' (to_k0 (fun _ _ h => h) (hK6 _ _ _ _ _ ?_))
        clear hK6
        refine wp_reg ?_
        refine ol_r (r_add rfl rfl (by omega)) rfl ?_
        refine ol_r (r_move rfl) rfl ?_
        refine ol_nil (to_k0 (fun _ _ h => h) (hK3 ((k + 1, _, _, _)) _ _ ?_ ?_ (sub_cons rfl (sub_cons rfl (sub_cons rfl sub_nil))) (sub_cons rfl (sub_cons rfl (sub_cons rfl (sub_cons rfl (sub_cons rfl sub_nil))))) (by exact (subH_same rfl subH_nil)) (subH_same rfl subH_nil)))
        ·try dsimp only
         have p15 : pv x15 = max x15 0 := by unfold pv; split <;> omega
         have n15 : nv x15 = (if x15 < 0 then 1 else 0) := rfl
         first
           | (have n15' := nv_neg hc22; clear n15)
           | (have n15' := nv_nn hc22; clear n15)
         first
           | (exfalso; omega)
           | (have hk1 : k + 1 - z = k - z + 1 := by omega
              have p33 : pv x41 = max x41 0 := by unfold pv; split <;> omega
              skip
              first | have n33' := nv_neg hc43 | have n33' := nv_nn hc43
              refine ⟨by omega, by rw [hk1]; omega, by rw [hk1]; omega, ?_⟩
              first
                | (rw [bestK_known (by omega) (by rw [hk1]; omega)]; refine congr (congr (congrArg bstep hst) ?_) ?_ <;> first | omega | (rw [hk1]; omega))
                | (rw [bestK_unknown (by omega) (by rw [hk1]; omega)]; exact hst))
           | (have hk1 : k + 1 - z = k - z := by omega
              refine ⟨by omega, by rw [hk1]; omega, by rw [hk1]; omega, ?_⟩
              first
                | (rw [bestK_known (by omega) (by rw [hk1]; omega)]; refine congr (congr (congrArg bstep hst) ?_) ?_ <;> first | omega | (rw [hk1]; omega))
                | (rw [bestK_less (by omega)]; exact hst)
                | (rw [bestK_unknown (by omega) (by rw [hk1]; omega)]; exact hst))
        ·try dsimp only
         omega
     ·refine wp_skip' (to_k0 (fun _ _ h => h) (hK11 _ _ _ _ _ ?_))
      clear hK11
      refine wp_seq' fun K17 hK17 => ?_
      refine wp_reg ?_
      refine ol_r (r_move rfl) rfl ?_
      refine ol_r (r_move rfl) rfl ?_
      refine ol_r (r_sub rfl rfl (by omega)) rfl ?_
      refine ol_r (r_geq rfl rfl) rfl ?_
      refine ol_r (r_move rfl) rfl ?_
      refine ol_split (d := 50) rfl (fun hs50 => ?_) (fun hs50 => ?_)
      ·have phs50 := hs50; try simp only [decide_eq_true_eq, decide_eq_false_iff_not, Bool.not_eq_true', Bool.not_eq_false', Bool.not_true, Bool.not_false] at phs50
       refine ol_g rfl rfl hs50 ?_
       refine ol_r (r_move rfl) rfl ?_
       refine ol_g rfl rfl hs50 ?_
       refine ol_r (r_eql rfl rfl) rfl ?_
       refine ol_r (r_pickT rfl hs50 rfl) rfl ?_
       refine ol_nil (to_k0 (fun _ _ h => h) (hK17 _ _ _ _ _ ?_))
       clear hK17
       first | refine wp_condD rfl (fun hc53 => ?_) (fun hc53 => ?_) | refine wp_condN rfl (fun hc53 => ?_) (fun hc53 => ?_) | refine wp_condNB rfl (fun hc53 => ?_) (fun hc53 => ?_) | refine wp_cond' rfl (fun hc53 => ?_) (fun hc53 => ?_)
       ·refine wp_reg ?_
        refine ol_r (r_move rfl) rfl ?_
        refine ol_r (r_move rfl) rfl ?_
        refine ol_r (r_move rfl) rfl ?_
        refine ol_r (r_sub rfl rfl (by omega)) rfl ?_
        refine ol_r (r_add rfl rfl (by omega)) rfl ?_
        refine ol_r (r_move rfl) rfl ?_
        refine ol_call rfl rfl cb113 rfl (fun w1 hb1 hs1 hB1 => ?_)
        refine Calls.mono (best_step B b z _ _ _ e1 _ hB1 (hs1.sub (subH_same rfl (subH_same rfl subH_nil)))) ?_
        rintro e w2 ⟨rfl, hb2, hs2, hB2, hk2⟩
        refine After.sat rfl hb1 hb2 hs2 hB2 (hk2.imp fun _ h => h.elim) ?_
        clear hk2 hs2 hb2 hB2 hB1 hs1 hb1 w2 w1
        refine ol_nil (to_k0 (fun _ _ h => h) (hK6 _ _ _ _ _ ?_))
        clear hK6
        refine wp_reg ?_
        refine ol_r (r_add rfl rfl (by omega)) rfl ?_
        refine ol_r (r_move rfl) rfl ?_
        refine ol_nil (to_k0 (fun _ _ h => h) (hK3 ((k + 1, _, _, _)) _ _ ?_ ?_ (sub_cons rfl (sub_cons rfl (sub_cons rfl sub_nil))) (sub_cons rfl (sub_cons rfl (sub_cons rfl (sub_cons rfl (sub_cons rfl sub_nil))))) (by exact (subH_same rfl subH_nil)) (subH_same rfl subH_nil)))
        ·try dsimp only
         have p15 : pv x15 = max x15 0 := by unfold pv; split <;> omega
         have n15 : nv x15 = (if x15 < 0 then 1 else 0) := rfl
         first
           | (have n15' := nv_neg hc22; clear n15)
           | (have n15' := nv_nn hc22; clear n15)
         first
           | (exfalso; omega)
           | (have hk1 : k + 1 - z = k - z + 1 := by omega
              have p33 : pv x41 = max x41 0 := by unfold pv; split <;> omega
              skip
              first | have n33' := nv_neg hc43 | have n33' := nv_nn hc43
              refine ⟨by omega, by rw [hk1]; omega, by rw [hk1]; omega, ?_⟩
              first
                | (rw [bestK_known (by omega) (by rw [hk1]; omega)]; refine congr (congr (congrArg bstep hst) ?_) ?_ <;> first | omega | (rw [hk1]; omega))
                | (rw [bestK_unknown (by omega) (by rw [hk1]; omega)]; exact hst))
           | (have hk1 : k + 1 - z = k - z := by omega
              refine ⟨by omega, by rw [hk1]; omega, by rw [hk1]; omega, ?_⟩
              first
                | (rw [bestK_known (by omega) (by rw [hk1]; omega)]; refine congr (congr (congrArg bstep hst) ?_) ?_ <;> first | omega | (rw [hk1]; omega))
                | (rw [bestK_less (by omega)]; exact hst)
                | (rw [bestK_unknown (by omega) (by rw [hk1]; omega)]; exact hst))
        ·try dsimp only
         omega
       ·refine wp_skip' (to_k0 (fun _ _ h => h) (hK6 _ _ _ _ _ ?_))
        clear hK6
        refine wp_reg ?_
        refine ol_r (r_add rfl rfl (by omega)) rfl ?_
        refine ol_r (r_move rfl) rfl ?_
        refine ol_nil (to_k0 (fun _ _ h => h) (hK3 ((k + 1, _, _, _)) _ _ ?_ ?_ (sub_cons rfl (sub_cons rfl (sub_cons rfl sub_nil))) (sub_cons rfl (sub_cons rfl (sub_cons rfl (sub_cons rfl (sub_cons rfl sub_nil))))) (by exact (subH_same rfl subH_nil)) (subH_same rfl subH_nil)))
        ·try dsimp only
         have p15 : pv x15 = max x15 0 := by unfold pv; split <;> omega
         have n15 : nv x15 = (if x15 < 0 then 1 else 0) := rfl
         first
           | (have n15' := nv_neg hc22; clear n15)
           | (have n15' := nv_nn hc22; clear n15)
         first
           | (exfalso; omega)
           | (have hk1 : k + 1 - z = k - z + 1 := by omega
              have p33 : pv x41 = max x41 0 := by unfold pv; split <;> omega
              skip
              first | have n33' := nv_neg hc43 | have n33' := nv_nn hc43
              refine ⟨by omega, by rw [hk1]; omega, by rw [hk1]; omega, ?_⟩
              first
                | (rw [bestK_known (by omega) (by rw [hk1]; omega)]; refine congr (congr (congrArg bstep hst) ?_) ?_ <;> first | omega | (rw [hk1]; omega))
                | (rw [bestK_unknown (by omega) (by rw [hk1]; omega)]; exact hst))
           | (have hk1 : k + 1 - z = k - z := by omega
              refine ⟨by omega, by rw [hk1]; omega, by rw [hk1]; omega, ?_⟩
              first
                | (rw [bestK_known (by omega) (by rw [hk1]; omega)]; refine congr (congr (congrArg bstep hst) ?_) ?_ <;> first | omega | (rw [hk1]; omega))
                | (rw [bestK_less (by omega)]; exact hst)
                | (rw [bestK_unknown (by omega) (by rw [hk1]; omega)]; exact hst))
        ·try dsimp only
         omega
      ·have phs50 := hs50; try simp only [decide_eq_true_eq, decide_eq_false_iff_not, Bool.not_eq_true', Bool.not_eq_false', Bool.not_true, Bool.not_false] at phs50
       refine ol_s rfl rfl hs50 rfl ?_
       refine ol_s rfl rfl hs50 rfl ?_
       refine ol_r (r_pickF rfl hs50 rfl) rfl ?_
       refine ol_nil (to_k0 (fun _ _ h => h) (hK17 _ _ _ _ _ ?_))
       clear hK17
       refine wp_condF rfl ?_
       refine wp_skip' (to_k0 (fun _ _ h => h) (hK6 _ _ _ _ _ ?_))
       clear hK6
       refine wp_reg ?_
       refine ol_r (r_add rfl rfl (by omega)) rfl ?_
       refine ol_r (r_move rfl) rfl ?_
       refine ol_nil (to_k0 (fun _ _ h => h) (hK3 ((k + 1, _, _, _)) _ _ ?_ ?_ (sub_cons rfl (sub_cons rfl (sub_cons rfl sub_nil))) (sub_cons rfl (sub_cons rfl (sub_cons rfl (sub_cons rfl (sub_cons rfl sub_nil))))) (by exact (subH_same rfl subH_nil)) (subH_same rfl subH_nil)))
       ·try dsimp only
        have p15 : pv x15 = max x15 0 := by unfold pv; split <;> omega
        have n15 : nv x15 = (if x15 < 0 then 1 else 0) := rfl
        first
          | (have n15' := nv_neg hc22; clear n15)
          | (have n15' := nv_nn hc22; clear n15)
        first
          | (exfalso; omega)
          | (have hk1 : k + 1 - z = k - z + 1 := by omega
             have p33 : pv x41 = max x41 0 := by unfold pv; split <;> omega
             skip
             first | have n33' := nv_neg hc43 | have n33' := nv_nn hc43
             refine ⟨by omega, by rw [hk1]; omega, by rw [hk1]; omega, ?_⟩
             first
               | (rw [bestK_known (by omega) (by rw [hk1]; omega)]; refine congr (congr (congrArg bstep hst) ?_) ?_ <;> first | omega | (rw [hk1]; omega))
               | (rw [bestK_unknown (by omega) (by rw [hk1]; omega)]; exact hst))
          | (have hk1 : k + 1 - z = k - z := by omega
             refine ⟨by omega, by rw [hk1]; omega, by rw [hk1]; omega, ?_⟩
             first
               | (rw [bestK_known (by omega) (by rw [hk1]; omega)]; refine congr (congr (congrArg bstep hst) ?_) ?_ <;> first | omega | (rw [hk1]; omega))
               | (rw [bestK_less (by omega)]; exact hst)
               | (rw [bestK_unknown (by omega) (by rw [hk1]; omega)]; exact hst))
       ·try dsimp only
        omega
    ·refine wp_skip' (to_k0 (fun _ _ h => h) (hK9 _ _ _ _ _ ?_))
     clear hK9
     refine wp_seq' fun K18 hK18 => ?_
     refine wp_seq' fun K19 hK19 => ?_
     refine wp_reg ?_
     refine ol_r (r_move rfl) rfl ?_
     refine ol_r (r_move rfl) rfl ?_
     refine ol_r (r_geq rfl rfl) rfl ?_
     refine ol_nil (to_k0 (fun _ _ h => h) (hK19 _ _ _ _ _ ?_))
     clear hK19
     first | refine wp_condD rfl (fun hc27 => ?_) (fun hc27 => ?_) | refine wp_condN rfl (fun hc27 => ?_) (fun hc27 => ?_) | refine wp_condNB rfl (fun hc27 => ?_) (fun hc27 => ?_) | refine wp_cond' rfl (fun hc27 => ?_) (fun hc27 => ?_)
     ·refine wp_seq' fun K20 hK20 => ?_
      refine wp_reg ?_
      refine ol_r (r_move rfl) rfl ?_
      refine ol_r (r_move rfl) rfl ?_
      refine ol_r (r_move rfl) rfl ?_
      refine ol_r (r_move rfl) rfl ?_
      refine ol_r (r_sub rfl rfl (by omega)) rfl ?_
      refine ol_ixr hl rfl rfl sl22 (by omega) rfl fun x33 hx33 => ?_
      try simp only [Int.toNat_natCast] at hx33
      have hk33 : xs[k - z]? = some x33 := by rw [← hx33]; congr 1; omega
      have r1 := pS_succ hk33
      have r2 := pU_succ hk33
      have r3 := hok.2 _ (List.mem_of_getElem? hk33)
      have r4 := pv_bd r3.2
      refine ol_r (r_ldw rfl (fun w1 hb1 hs1 hB1 => show Loads _ _ _ _ (.int .i64 x33) from Rd.loads hl ty3 hx33 hb1)) rfl ?_
      refine ol_r (r_max rfl rfl) rfl ?_
      refine ol_r (r_sub rfl rfl (by omega)) rfl ?_
      refine ol_r (r_assign rfl) rfl ?_
      refine ol_nil (to_k0 (fun _ _ h => h) (hK20 _ _ _ _ _ ?_))
      clear hK20
      refine wp_seq' fun K21 hK21 => ?_
      refine wp_reg ?_
      refine ol_r (r_move rfl) rfl ?_
      refine ol_r (r_move rfl) rfl ?_
      refine ol_r (r_move rfl) rfl ?_
      refine ol_r (r_sub rfl rfl (by omega)) rfl ?_
      refine ol_ixr hl rfl rfl sl22 (by omega) rfl fun x41 hx41 => ?_
      try simp only [Int.toNat_natCast] at hx41
      have h41 : x41 = x33 := by rw [hx33] at hx41; cases hx41; rfl
      subst h41
      refine ol_r (r_ldw rfl (fun w1 hb1 hs1 hB1 => show Loads _ _ _ _ (.int .i64 x41) from Rd.loads hl ty3 hx41 hb1)) rfl ?_
      refine ol_r (r_lss rfl rfl) rfl ?_
      refine ol_nil (to_k0 (fun _ _ h => h) (hK21 _ _ _ _ _ ?_))
      clear hK21
      first | refine wp_condD rfl (fun hc43 => ?_) (fun hc43 => ?_) | refine wp_condN rfl (fun hc43 => ?_) (fun hc43 => ?_) | refine wp_condNB rfl (fun hc43 => ?_) (fun hc43 => ?_) | refine wp_cond' rfl (fun hc43 => ?_) (fun hc43 => ?_)
      ·refine wp_reg ?_
       refine ol_r (r_move rfl) rfl ?_
       refine ol_r (r_sub rfl rfl (by omega)) rfl ?_
       refine ol_r (r_assign rfl) rfl ?_
       refine ol_nil (to_k0 (fun _ _ h => h) (hK18 _ _ _ _ _ ?_))
       clear hK18
       refine wp_seq' fun K22 hK22 => ?_
       refine wp_reg ?_
       refine ol_r (r_move rfl) rfl ?_
       refine ol_r (r_move rfl) rfl ?_
       refine ol_r (r_sub rfl rfl (by omega)) rfl ?_
       refine ol_r (r_geq rfl rfl) rfl ?_
       refine ol_r (r_move rfl) rfl ?_
       refine ol_split (d := 50) rfl (fun hs50 => ?_) (fun hs50 => ?_)
       ·have phs50 := hs50; try simp only [decide_eq_true_eq, decide_eq_false_iff_not, Bool.not_eq_true', Bool.not_eq_false', Bool.not_true, Bool.not_false] at phs50
        refine ol_g rfl rfl hs50 ?_
        refine ol_r (r_move rfl) rfl ?_
        refine ol_g rfl rfl hs50 ?_
        refine ol_r (r_eql rfl rfl) rfl ?_
        refine ol_r (r_pickT rfl hs50 rfl) rfl ?_
        refine ol_nil (to_k0 (fun _ _ h => h) (hK22 _ _ _ _ _ ?_))
        clear hK22
        first | refine wp_condD rfl (fun hc53 => ?_) (fun hc53 => ?_) | refine wp_condN rfl (fun hc53 => ?_) (fun hc53 => ?_) | refine wp_condNB rfl (fun hc53 => ?_) (fun hc53 => ?_) | refine wp_cond' rfl (fun hc53 => ?_) (fun hc53 => ?_)
        ·refine wp_reg ?_
         refine ol_r (r_move rfl) rfl ?_
         refine ol_r (r_move rfl) rfl ?_
         refine ol_r (r_move rfl) rfl ?_
         refine ol_r (r_sub rfl rfl (by omega)) rfl ?_
         refine ol_r (r_add rfl rfl (by omega)) rfl ?_
         refine ol_r (r_move rfl) rfl ?_
         refine ol_call rfl rfl cb113 rfl (fun w1 hb1 hs1 hB1 => ?_)
         refine Calls.mono (best_step B b z _ _ _ e1 _ hB1 (hs1.sub (subH_same rfl (subH_same rfl subH_nil)))) ?_
         rintro e w2 ⟨rfl, hb2, hs2, hB2, hk2⟩
         refine After.sat rfl hb1 hb2 hs2 hB2 (hk2.imp fun _ h => h.elim) ?_
         clear hk2 hs2 hb2 hB2 hB1 hs1 hb1 w2 w1
         refine ol_nil (to_k0 (fun _ _ h => h) (hK6 _ _ _ _ _ ?_))
         clear hK6
         refine wp_reg ?_
         refine ol_r (r_add rfl rfl (by omega)) rfl ?_
         refine ol_r (r_move rfl) rfl ?_
         refine ol_nil (to_k0 (fun _ _ h => h) (hK3 ((k + 1, _, _, _)) _ _ ?_ ?_ (sub_cons rfl (sub_cons rfl (sub_cons rfl sub_nil))) (sub_cons rfl (sub_cons rfl (sub_cons rfl (sub_cons rfl (sub_cons rfl sub_nil))))) (by exact (subH_same rfl subH_nil)) (subH_same rfl subH_nil)))
         ·try dsimp only
          have p15 : pv x15 = max x15 0 := by unfold pv; split <;> omega
          have n15 : nv x15 = (if x15 < 0 then 1 else 0) := rfl
          first
            | (have n15' := nv_neg hc22; clear n15)
            | (have n15' := nv_nn hc22; clear n15)
          first
            | (exfalso; omega)
            | (have hk1 : k + 1 - z = k - z + 1 := by omega
               have p33 : pv x41 = max x41 0 := by unfold pv; split <;> omega
               skip
               first | have n33' := nv_neg hc43 | have n33' := nv_nn hc43
               refine ⟨by omega, by rw [hk1]; omega, by rw [hk1]; omega, ?_⟩
               first
                 | (rw [bestK_known (by omega) (by rw [hk1]; omega)]; refine congr (congr (congrArg bstep hst) ?_) ?_ <;> first | omega | (rw [hk1]; omega))
                 | (rw [bestK_unknown (by omega) (by rw [hk1]; omega)]; exact hst))
            | (have hk1 : k + 1 - z = k - z := by omega
               refine ⟨by omega, by rw [hk1]; omega, by rw [hk1]; omega, ?_⟩
               first
                 | (rw [bestK_known (by omega) (by rw [hk1]; omega)]; refine congr (congr (congrArg bstep hst) ?_) ?_ <;> first | omega | (rw [hk1]; omega))
                 | (rw [bestK_less (by omega)]; exact hst)
                 | (rw [bestK_unknown (by omega) (by rw [hk1]; omega)]; exact hst))
         ·try dsimp only
          omega
        ·refine wp_skip' (to_k0 (fun _ _ h => h) (hK6 _ _ _ _ _ ?_))
         clear hK6
         refine wp_reg ?_
         refine ol_r (r_add rfl rfl (by omega)) rfl ?_
         refine ol_r (r_move rfl) rfl ?_
         refine ol_nil (to_k0 (fun _ _ h => h) (hK3 ((k + 1, _, _, _)) _ _ ?_ ?_ (sub_cons rfl (sub_cons rfl (sub_cons rfl sub_nil))) (sub_cons rfl (sub_cons rfl (sub_cons rfl (sub_cons rfl (sub_cons rfl sub_nil))))) (by exact (subH_same rfl subH_nil)) (subH_same rfl subH_nil)))
         ·try dsimp only
          have p15 : pv x15 = max x15 0 := by unfold pv; split <;> omega
          have n15 : nv x15 = (if x15 < 0 then 1 else 0) := rfl
          first
            | (have n15' := nv_neg hc22; clear n15)
            | (have n15' := nv_nn hc22; clear n15)
          first
            | (exfalso; omega)
            | (have hk1 : k + 1 - z = k - z + 1 := by omega
               have p33 : pv x41 = max x41 0 := by unfold pv; split <;> omega
               skip
               first | have n33' := nv_neg hc43 | have n33' := nv_nn hc43
               refine ⟨by omega, by rw [hk1]; omega, by rw [hk1]; omega, ?_⟩
               first
                 | (rw [bestK_known (by omega) (by rw [hk1]; omega)]; refine congr (congr (congrArg bstep hst) ?_) ?_ <;> first | omega | (rw [hk1]; omega))
                 | (rw [bestK_unknown (by omega) (by rw [hk1]; omega)]; exact hst))
            | (have hk1 : k + 1 - z = k - z := by omega
               refine ⟨by omega, by rw [hk1]; omega, by rw [hk1]; omega, ?_⟩
               first
                 | (rw [bestK_known (by omega) (by rw [hk1]; omega)]; refine congr (congr (congrArg bstep hst) ?_) ?_ <;> first | omega | (rw [hk1]; omega))
                 | (rw [bestK_less (by omega)]; exact hst)
                 | (rw [bestK_unknown (by omega) (by rw [hk1]; omega)]; exact hst))
         ·try dsimp only
          omega
       ·have phs50 := hs50; try simp only [decide_eq_true_eq, decide_eq_false_iff_not, Bool.not_eq_true', Bool.not_eq_false', Bool.not_true, Bool.not_false] at phs50
        refine ol_s rfl rfl hs50 rfl ?_
        refine ol_s rfl rfl hs50 rfl ?_
        refine ol_r (r_pickF rfl hs50 rfl) rfl ?_
        refine ol_nil (to_k0 (fun _ _ h => h) (hK22 _ _ _ _ _ ?_))
        clear hK22
        refine wp_condF rfl ?_
        refine wp_skip' (to_k0 (fun _ _ h => h) (hK6 _ _ _ _ _ ?_))
        clear hK6
        refine wp_reg ?_
        refine ol_r (r_add rfl rfl (by omega)) rfl ?_
        refine ol_r (r_move rfl) rfl ?_
        refine ol_nil (to_k0 (fun _ _ h => h) (hK3 ((k + 1, _, _, _)) _ _ ?_ ?_ (sub_cons rfl (sub_cons rfl (sub_cons rfl sub_nil))) (sub_cons rfl (sub_cons rfl (sub_cons rfl (sub_cons rfl (sub_cons rfl sub_nil))))) (by exact (subH_same rfl subH_nil)) (subH_same rfl subH_nil)))
        ·try dsimp only
         have p15 : pv x15 = max x15 0 := by unfold pv; split <;> omega
         have n15 : nv x15 = (if x15 < 0 then 1 else 0) := rfl
         first
           | (have n15' := nv_neg hc22; clear n15)
           | (have n15' := nv_nn hc22; clear n15)
         first
           | (exfalso; omega)
           | (have hk1 : k + 1 - z = k - z + 1 := by omega
              have p33 : pv x41 = max x41 0 := by unfold pv; split <;> omega
              skip
              first | have n33' := nv_neg hc43 | have n33' := nv_nn hc43
              refine ⟨by omega, by rw [hk1]; omega, by rw [hk1]; omega, ?_⟩
              first
                | (rw [bestK_known (by omega) (by rw [hk1]; omega)]; refine congr (congr (congrArg bstep hst) ?_) ?_ <;> first | omega | (rw [hk1]; omega))
                | (rw [bestK_unknown (by omega) (by rw [hk1]; omega)]; exact hst))
           | (have hk1 : k + 1 - z = k - z := by omega
              refine ⟨by omega, by rw [hk1]; omega, by rw [hk1]; omega, ?_⟩
              first
                | (rw [bestK_known (by omega) (by rw [hk1]; omega)]; refine congr (congr (congrArg bstep hst) ?_) ?_ <;> first | omega | (rw [hk1]; omega))
                | (rw [bestK_less (by omega)]; exact hst)
                | (rw [bestK_unknown (by omega) (by rw [hk1]; omega)]; exact hst))
        ·try dsimp only
         omega
      ·refine wp_skip' (to_k0 (fun _ _ h => h) (hK18 _ _ _ _ _ ?_))
       clear hK18
       refine wp_seq' fun K23 hK23 => ?_
       refine wp_reg ?_
       refine ol_r (r_move rfl) rfl ?_
       refine ol_r (r_move rfl) rfl ?_
       refine ol_r (r_sub rfl rfl (by omega)) rfl ?_
       refine ol_r (r_geq rfl rfl) rfl ?_
       refine ol_r (r_move rfl) rfl ?_
       refine ol_split (d := 50) rfl (fun hs50 => ?_) (fun hs50 => ?_)
       ·have phs50 := hs50; try simp only [decide_eq_true_eq, decide_eq_false_iff_not, Bool.not_eq_true', Bool.not_eq_false', Bool.not_true, Bool.not_false] at phs50
        refine ol_g rfl rfl hs50 ?_
        refine ol_r (r_move rfl) rfl ?_
        refine ol_g rfl rfl hs50 ?_
        refine ol_r (r_eql rfl rfl) rfl ?_
        refine ol_r (r_pickT rfl hs50 rfl) rfl ?_
        refine ol_nil (to_k0 (fun _ _ h => h) (hK23 _ _ _ _ _ ?_))
        clear hK23
        first | refine wp_condD rfl (fun hc53 => ?_) (fun hc53 => ?_) | refine wp_condN rfl (fun hc53 => ?_) (fun hc53 => ?_) | refine wp_condNB rfl (fun hc53 => ?_) (fun hc53 => ?_) | refine wp_cond' rfl (fun hc53 => ?_) (fun hc53 => ?_)
        ·refine wp_reg ?_
         refine ol_r (r_move rfl) rfl ?_
         refine ol_r (r_move rfl) rfl ?_
         refine ol_r (r_move rfl) rfl ?_
         refine ol_r (r_sub rfl rfl (by omega)) rfl ?_
         refine ol_r (r_add rfl rfl (by omega)) rfl ?_
         refine ol_r (r_move rfl) rfl ?_
         refine ol_call rfl rfl cb113 rfl (fun w1 hb1 hs1 hB1 => ?_)
         refine Calls.mono (best_step B b z _ _ _ e1 _ hB1 (hs1.sub (subH_same rfl (subH_same rfl subH_nil)))) ?_
         rintro e w2 ⟨rfl, hb2, hs2, hB2, hk2⟩
         refine After.sat rfl hb1 hb2 hs2 hB2 (hk2.imp fun _ h => h.elim) ?_
         clear hk2 hs2 hb2 hB2 hB1 hs1 hb1 w2 w1
         refine ol_nil (to_k0 (fun _ _ h => h) (hK6 _ _ _ _ _ ?_))
         clear hK6
         refine wp_reg ?_
         refine ol_r (r_add rfl rfl (by omega)) rfl ?_
         refine ol_r (r_move rfl) rfl ?_
         refine ol_nil (to_k0 (fun _ _ h => h) (hK3 ((k + 1, _, _, _)) _ _ ?_ ?_ (sub_cons rfl (sub_cons rfl (sub_cons rfl sub_nil))) (sub_cons rfl (sub_cons rfl (sub_cons rfl (sub_cons rfl (sub_cons rfl sub_nil))))) (by exact (subH_same rfl subH_nil)) (subH_same rfl subH_nil)))
         ·try dsimp only
          have p15 : pv x15 = max x15 0 := by unfold pv; split <;> omega
          have n15 : nv x15 = (if x15 < 0 then 1 else 0) := rfl
          first
            | (have n15' := nv_neg hc22; clear n15)
            | (have n15' := nv_nn hc22; clear n15)
          first
            | (exfalso; omega)
            | (have hk1 : k + 1 - z = k - z + 1 := by omega
               have p33 : pv x41 = max x41 0 := by unfold pv; split <;> omega
               skip
               first | have n33' := nv_neg hc43 | have n33' := nv_nn hc43
               refine ⟨by omega, by rw [hk1]; omega, by rw [hk1]; omega, ?_⟩
               first
                 | (rw [bestK_known (by omega) (by rw [hk1]; omega)]; refine congr (congr (congrArg bstep hst) ?_) ?_ <;> first | omega | (rw [hk1]; omega))
                 | (rw [bestK_unknown (by omega) (by rw [hk1]; omega)]; exact hst))
            | (have hk1 : k + 1 - z = k - z := by omega
               refine ⟨by omega, by rw [hk1]; omega, by rw [hk1]; omega, ?_⟩
               first
                 | (rw [bestK_known (by omega) (by rw [hk1]; omega)]; refine congr (congr (congrArg bstep hst) ?_) ?_ <;> first | omega | (rw [hk1]; omega))
                 | (rw [bestK_less (by omega)]; exact hst)
                 | (rw [bestK_unknown (by omega) (by rw [hk1]; omega)]; exact hst))
         ·try dsimp only
          omega
        ·refine wp_skip' (to_k0 (fun _ _ h => h) (hK6 _ _ _ _ _ ?_))
         clear hK6
         refine wp_reg ?_
         refine ol_r (r_add rfl rfl (by omega)) rfl ?_
         refine ol_r (r_move rfl) rfl ?_
         refine ol_nil (to_k0 (fun _ _ h => h) (hK3 ((k + 1, _, _, _)) _ _ ?_ ?_ (sub_cons rfl (sub_cons rfl (sub_cons rfl sub_nil))) (sub_cons rfl (sub_cons rfl (sub_cons rfl (sub_cons rfl (sub_cons rfl sub_nil))))) (by exact (subH_same rfl subH_nil)) (subH_same rfl subH_nil)))
         ·try dsimp only
          have p15 : pv x15 = max x15 0 := by unfold pv; split <;> omega
          have n15 : nv x15 = (if x15 < 0 then 1 else 0) := rfl
          first
            | (have n15' := nv_neg hc22; clear n15)
            | (have n15' := nv_nn hc22; clear n15)
          first
            | (exfalso; omega)
            | (have hk1 : k + 1 - z = k - z + 1 := by omega
               have p33 : pv x41 = max x41 0 := by unfold pv; split <;> omega
               skip
               first | have n33' := nv_neg hc43 | have n33' := nv_nn hc43
               refine ⟨by omega, by rw [hk1]; omega, by rw [hk1]; omega, ?_⟩
               first
                 | (rw [bestK_known (by omega) (by rw [hk1]; omega)]; refine congr (congr (congrArg bstep hst) ?_) ?_ <;> first | omega | (rw [hk1]; omega))
                 | (rw [bestK_unknown (by omega) (by rw [hk1]; omega)]; exact hst))
            | (have hk1 : k + 1 - z = k - z := by omega
               refine ⟨by omega, by rw [hk1]; omega, by rw [hk1]; omega, ?_⟩
               first
                 | (rw [bestK_known (by omega) (by rw [hk1]; omega)]; refine congr (congr (congrArg bstep hst) ?_) ?_ <;> first | omega | (rw [hk1]; omega))
                 | (rw [bestK_less (by omega)]; exact hst)
                 | (rw [bestK_unknown (by omega) (by rw [hk1]; omega)]; exact hst))
         ·try dsimp only
          omega
       ·have phs50 := hs50; try simp only [decide_eq_true_eq, decide_eq_false_iff_not, Bool.not_eq_true', Bool.not_eq_false', Bool.not_true, Bool.not_false] at phs50
        refine ol_s rfl rfl hs50 rfl ?_
        refine ol_s rfl rfl hs50 rfl ?_
        refine ol_r (r_pickF rfl hs50 rfl) rfl ?_
        refine ol_nil (to_k0 (fun _ _ h => h) (hK23 _ _ _ _ _ ?_))
        clear hK23
        refine wp_condF rfl ?_
        refine wp_skip' (to_k0 (fun _ _ h => h) (hK6 _ _ _ _ _ ?_))
        clear hK6
        refine wp_reg ?_
        refine ol_r (r_add rfl rfl (by omega)) rfl ?_
        refine ol_r (r_move rfl) rfl ?_
        refine ol_nil (to_k0 (fun _ _ h => h) (hK3 ((k + 1, _, _, _)) _ _ ?_ ?_ (sub_cons rfl (sub_cons rfl (sub_cons rfl sub_nil))) (sub_cons rfl (sub_cons rfl (sub_cons rfl (sub_cons rfl (sub_cons rfl sub_nil))))) (by exact (subH_same rfl subH_nil)) (subH_same rfl subH_nil)))
        ·try dsimp only
         have p15 : pv x15 = max x15 0 := by unfold pv; split <;> omega
         have n15 : nv x15 = (if x15 < 0 then 1 else 0) := rfl
         first
           | (have n15' := nv_neg hc22; clear n15)
           | (have n15' := nv_nn hc22; clear n15)
         first
           | (exfalso; omega)
           | (have hk1 : k + 1 - z = k - z + 1 := by omega
              have p33 : pv x41 = max x41 0 := by unfold pv; split <;> omega
              skip
              first | have n33' := nv_neg hc43 | have n33' := nv_nn hc43
              refine ⟨by omega, by rw [hk1]; omega, by rw [hk1]; omega, ?_⟩
              first
                | (rw [bestK_known (by omega) (by rw [hk1]; omega)]; refine congr (congr (congrArg bstep hst) ?_) ?_ <;> first | omega | (rw [hk1]; omega))
                | (rw [bestK_unknown (by omega) (by rw [hk1]; omega)]; exact hst))
           | (have hk1 : k + 1 - z = k - z := by omega
              refine ⟨by omega, by rw [hk1]; omega, by rw [hk1]; omega, ?_⟩
              first
                | (rw [bestK_known (by omega) (by rw [hk1]; omega)]; refine congr (congr (congrArg bstep hst) ?_) ?_ <;> first | omega | (rw [hk1]; omega))
                | (rw [bestK_less (by omega)]; exact hst)
                | (rw [bestK_unknown (by omega) (by rw [hk1]; omega)]; exact hst))
        ·try dsimp only
         omega
     ·refine wp_skip' (to_k0 (fun _ _ h => h) (hK18 _ _ _ _ _ ?_))
      clear hK18
      refine wp_seq' fun K24 hK24 => ?_
      refine wp_reg ?_
      refine ol_r (r_move rfl) rfl ?_
      refine ol_r (r_move rfl) rfl ?_
      refine ol_r (r_sub rfl rfl (by omega)) rfl ?_
      refine ol_r (r_geq rfl rfl) rfl ?_
      refine ol_r (r_move rfl) rfl ?_
      refine ol_split (d := 50) rfl (fun hs50 => ?_) (fun hs50 => ?_)
      ·have phs50 := hs50; try simp only [decide_eq_true_eq, decide_eq_false_iff_not, Bool.not_eq_true', Bool.not_eq_false', Bool.not_true, Bool.not_false] at phs50
       refine ol_g rfl rfl hs50 ?_
       refine ol_r (r_move rfl) rfl ?_
       refine ol_g rfl rfl hs50 ?_
       refine ol_r (r_eql rfl rfl) rfl ?_
       refine ol_r (r_pickT rfl hs50 rfl) rfl ?_
       refine ol_nil (to_k0 (fun _ _ h => h) (hK24 _ _ _ _ _ ?_))
       clear hK24
       first | refine wp_condD rfl (fun hc53 => ?_) (fun hc53 => ?_) | refine wp_condN rfl (fun hc53 => ?_) (fun hc53 => ?_) | refine wp_condNB rfl (fun hc53 => ?_) (fun hc53 => ?_) | refine wp_cond' rfl (fun hc53 => ?_) (fun hc53 => ?_)
       ·refine wp_reg ?_
        refine ol_r (r_move rfl) rfl ?_
        refine ol_r (r_move rfl) rfl ?_
        refine ol_r (r_move rfl) rfl ?_
        refine ol_r (r_sub rfl rfl (by omega)) rfl ?_
        refine ol_r (r_add rfl rfl (by omega)) rfl ?_
        refine ol_r (r_move rfl) rfl ?_
        refine ol_call rfl rfl cb113 rfl (fun w1 hb1 hs1 hB1 => ?_)
        refine Calls.mono (best_step B b z _ _ _ e1 _ hB1 (hs1.sub (subH_same rfl (subH_same rfl subH_nil)))) ?_
        rintro e w2 ⟨rfl, hb2, hs2, hB2, hk2⟩
        refine After.sat rfl hb1 hb2 hs2 hB2 (hk2.imp fun _ h => h.elim) ?_
        clear hk2 hs2 hb2 hB2 hB1 hs1 hb1 w2 w1
        refine ol_nil (to_k0 (fun _ _ h => h) (hK6 _ _ _ _ _ ?_))
        clear hK6
        refine wp_reg ?_
        refine ol_r (r_add rfl rfl (by omega)) rfl ?_
        refine ol_r (r_move rfl) rfl ?_
        refine ol_nil (to_k0 (fun _ _ h => h) (hK3 ((k + 1, _, _, _)) _ _ ?_ ?_ (sub_cons rfl (sub_cons rfl (sub_cons rfl sub_nil))) (sub_cons rfl (sub_cons rfl (sub_cons rfl (sub_cons rfl (sub_cons rfl sub_nil))))) (by exact (subH_same rfl subH_nil)) (subH_same rfl subH_nil)))
        ·try dsimp only
         have p15 : pv x15 = max x15 0 := by unfold pv; split <;> omega
         have n15 : nv x15 = (if x15 < 0 then 1 else 0) := rfl
         first
           | (have n15' := nv_neg hc22; clear n15)
           | (have n15' := nv_nn hc22; clear n15)
         first
           | (exfalso; omega)
           | (have hk1 : k + 1 - z = k - z + 1 := by omega
              have p33 : pv x41 = max x41 0 := by unfold pv; split <;> omega
              skip
              first | have n33' := nv_neg hc43 | have n33' := nv_nn hc43
              refine ⟨by omega, by rw [hk1]; omega, by rw [hk1]; omega, ?_⟩
              first
                | (rw [bestK_known (by omega) (by rw [hk1]; omega)]; refine congr (congr (congrArg bstep hst) ?_) ?_ <;> first | omega | (rw [hk1]; omega))
                | (rw [bestK_unknown (by omega) (by rw [hk1]; omega)]; exact hst))
           | (have hk1 : k + 1 - z = k - z := by omega
              refine ⟨by omega, by rw [hk1]; omega, by rw [hk1]; omega, ?_⟩
              first
                | (rw [bestK_known (by omega) (by rw [hk1]; omega)]; refine congr (congr (congrArg bstep hst) ?_) ?_ <;> first | omega | (rw [hk1]; omega))
                | (rw [bestK_less (by omega)]; exact hst)
                | (rw [bestK_unknown (by omega) (by rw [hk1]; omega)]; exact hst))
        ·try dsimp only
         omega
       ·refine wp_skip' (to_k0 (fun _ _ h => h) (hK6 _ _ _ _ _ ?_))
        clear hK6
        refine wp_reg ?_
        refine ol_r (r_add rfl rfl (by omega)) rfl ?_
        refine ol_r (r_move rfl) rfl ?_
        refine ol_nil (to_k0 (fun _ _ h => h) (hK3 ((k + 1, _, _, _)) _ _ ?_ ?_ (sub_cons rfl (sub_cons rfl (sub_cons rfl sub_nil))) (sub_cons rfl (sub_cons rfl (sub_cons rfl (sub_cons rfl (sub_cons rfl sub_nil))))) (by exact (subH_same rfl subH_nil)) (subH_same rfl subH_nil)))
        ·try dsimp only
         have p15 : pv x15 = max x15 0 := by unfold pv; split <;> omega
         have n15 : nv x15 = (if x15 < 0 then 1 else 0) := rfl
         first
           | (have n15' := nv_neg hc22; clear n15)
           | (have n15' := nv_nn hc22; clear n15)
         first
           | (exfalso; omega)
           | (have hk1 : k + 1 - z = k - z + 1 := by omega
              have p33 : pv x41 = max x41 0 := by unfold pv; split <;> omega
              skip
              first | have n33' := nv_neg hc43 | have n33' := nv_nn hc43
              refine ⟨by omega, by rw [hk1]; omega, by rw [hk1]; omega, ?_⟩
              first
                | (rw [bestK_known (by omega) (by rw [hk1]; omega)]; refine congr (congr (congrArg bstep hst) ?_) ?_ <;> first | omega | (rw [hk1]; omega))
                | (rw [bestK_unknown (by omega) (by rw [hk1]; omega)]; exact hst))
           | (have hk1 : k + 1 - z = k - z := by omega
              refine ⟨by omega, by rw [hk1]; omega, by rw [hk1]; omega, ?_⟩
              first
                | (rw [bestK_known (by omega) (by rw [hk1]; omega)]; refine congr (congr (congrArg bstep hst) ?_) ?_ <;> first | omega | (rw [hk1]; omega))
                | (rw [bestK_less (by omega)]; exact hst)
                | (rw [bestK_unknown (by omega) (by rw [hk1]; omega)]; exact hst))
        ·try dsimp only
         omega
      ·have phs50 := hs50; try simp only [decide_eq_true_eq, decide_eq_false_iff_not, Bool.not_eq_true', Bool.not_eq_false', Bool.not_true, Bool.not_false] at phs50
       refine ol_s rfl rfl hs50 rfl ?_
       refine ol_s rfl rfl hs50 rfl ?_
       refine ol_r (r_pickF rfl hs50 rfl) rfl ?_
       refine ol_nil (to_k0 (fun _ _ h => h) (hK24 _ _ _ _ _ ?_))
       clear hK24
       refine wp_condF rfl ?_
       refine wp_skip' (to_k0 (fun _ _ h => h) (hK6 _ _ _ _ _ ?_))
       clear hK6
       refine wp_reg ?_
       refine ol_r (r_add rfl rfl (by omega)) rfl ?_
       refine ol_r (r_move rfl) rfl ?_
       refine ol_nil (to_k0 (fun _ _ h => h) (hK3 ((k + 1, _, _, _)) _ _ ?_ ?_ (sub_cons rfl (sub_cons rfl (sub_cons rfl sub_nil))) (sub_cons rfl (sub_cons rfl (sub_cons rfl (sub_cons rfl (sub_cons rfl sub_nil))))) (by exact (subH_same rfl subH_nil)) (subH_same rfl subH_nil)))
       ·try dsimp only
        have p15 : pv x15 = max x15 0 := by unfold pv; split <;> omega
        have n15 : nv x15 = (if x15 < 0 then 1 else 0) := rfl
        first
          | (have n15' := nv_neg hc22; clear n15)
          | (have n15' := nv_nn hc22; clear n15)
        first
          | (exfalso; omega)
          | (have hk1 : k + 1 - z = k - z + 1 := by omega
             have p33 : pv x41 = max x41 0 := by unfold pv; split <;> omega
             skip
             first | have n33' := nv_neg hc43 | have n33' := nv_nn hc43
             refine ⟨by omega, by rw [hk1]; omega, by rw [hk1]; omega, ?_⟩
             first
               | (rw [bestK_known (by omega) (by rw [hk1]; omega)]; refine congr (congr (congrArg bstep hst) ?_) ?_ <;> first | omega | (rw [hk1]; omega))
               | (rw [bestK_unknown (by omega) (by rw [hk1]; omega)]; exact hst))
          | (have hk1 : k + 1 - z = k - z := by omega
             refine ⟨by omega, by rw [hk1]; omega, by rw [hk1]; omega, ?_⟩
             first
               | (rw [bestK_known (by omega) (by rw [hk1]; omega)]; refine congr (congr (congrArg bstep hst) ?_) ?_ <;> first | omega | (rw [hk1]; omega))
               | (rw [bestK_less (by omega)]; exact hst)
               | (rw [bestK_unknown (by omega) (by rw [hk1]; omega)]; exact hst))
       ·try dsimp only
        omega
   ·refine wp_exit' (hQ.fall rvs0 (fun _ _ h => h) fun w hb hs hB hkd => ?_)
    refine ⟨rfl, hb, hs.sub ?_, hB, hkd⟩
    have hkn : k = xs.length := by omega
    subst hkn
    rw [← hst]
    exact subH_same rfl (subH_same rfl subH_nil)
theorem effort_best (a : Option Addr) (n cap : Nat) (xs : List Int) (z : Nat) (w : World) (hl : Rd encI w.heap.size w a n cap xs) (hz : 1 ≤ z ∧ z ≤ 1000000) (hx : streamR xs = 0) :
    Calls Try.prog 70 #[.slice a n cap, .int .i64 z] w fun e w' => e = .returned (.agg (bestV z (bestK xs z n)).toArray) ∧ Below w.heap.size w w' := by
  have h0 : bestK xs z 0 = ⟨0, 0, false⟩ := by unfold bestK; rw [show 0 + 1 - z = 0 by omega]; rfl
  refine enterQ (N := 13) (C := fun _ => True) (H := []) (B := w.heap.size) (args := [_, _]) Try.func70 rfl rfl rfl (Nat.le_refl _) (Sat.nil _ _) fun Q hQ => ?_
  refine wp_seq' fun K1 hK1 => ?_
  refine wp_reg ?_
  refine ol_alloc 4 z24 rfl fun b4 => ?_
  refine ol_nil (to_k0 (fun _ _ h => h) (hK1 _ _ _ _ _ ?_))
  clear hK1
  refine wp_seq' fun K2 hK2 => ?_
  refine wp_reg ?_
  refine ol_r (r_move rfl) rfl ?_
  refine ol_r (r_build rfl (fun _ => bd24_0 _ _)) rfl ?_
  refine ol_alloc 5 z24 rfl fun b5 => ?_
  refine ol_store (id := 5) rfl rfl rfl rfl sz24 rfl rfl (by first | decide | exact Nat.zero_lt_succ _ | simp) ?_
  refine ol_nil (to_k0 (fun _ _ h => h) (hK2 _ _ _ _ _ ?_))
  clear hK2
  refine wp_seq' fun K3 hK3 => ?_
  refine wp_reg ?_
  refine ol_r (r_move rfl) rfl ?_
  refine ol_r (r_move rfl) rfl ?_
  refine ol_r (r_func rfl) rfl ?_
  refine ol_call rfl rfl cb112 rfl (fun w1 hb1 hs1 hB1 => ?_)
  refine Calls.mono (windows_best w.heap.size b5 a n cap xs z (.blk b4 (bcells 0 ⟨0, 0, false⟩) 24) _ (hl.below hb1) hz hx hB1 (hs1.two 5 4 100 101 (by decide) rfl rfl ⟨rfl, rfl, by rw [h0]; exact Sub.out (sub_cons rfl (sub_cons rfl (sub_cons rfl (sub_cons rfl sub_nil))))⟩ ⟨rfl, rfl, Sub.out (sub_cons rfl (sub_cons rfl (sub_cons rfl (sub_cons rfl sub_nil))))⟩)) ?_
  rintro e w2 ⟨rfl, hb2, hs2, hB2, hk2⟩
  refine After.sat rfl hb1 hb2 (hs2.two 100 101 5 4 (by decide) rfl rfl (Ent.le_refl _) (Ent.le_refl _)) hB2 (hk2.imp fun _ h => h.elim) ?_
  clear hk2 hs2 hb2 hB2 hB1 hs1 hb1 w2 w1
  refine ol_nil (to_k0 (fun _ _ h => h) (hK3 _ _ _ _ _ ?_))
  clear hK3
  refine wp_seq' fun K4 hK4 => ?_
  refine wp_reg ?_
  refine ol_r (r_lda (id := 5) (n := 4) rfl rfl rfl ag24) rfl ?_
  refine ol_store (id := 4) rfl rfl rfl rfl sz24 rfl rfl (by first | decide | exact Nat.zero_lt_succ _ | simp) ?_
  refine ol_nil (to_k0 (fun _ _ h => h) (hK4 _ _ _ _ _ ?_))
  clear hK4
  refine hQ.ret (rvs1 (rv_c (id := 4) (n := 4) rfl rfl ag24 rfl)) (fun _ _ h => h) fun w hb hs hB hkd => ?_
  exact ⟨rfl, hb⟩
def bestR (xs : List Int) (size : Int) : BestS × Int × Int :=
  if streamR xs ≠ 0 then (⟨0, 0, false⟩, 0, streamR xs) else if inB size 1 1000000 = true then (bestK xs size.toNat xs.length, size, 0) else (⟨0, 0, false⟩, 0, 9)
theorem effort_Best (a : Option Addr) (n cap : Nat) (xs : List Int) (size : Int) (w : World) (hl : Rd encI w.heap.size w a n cap xs) :
    Calls Try.prog 14 #[.slice a n cap, .int .i64 size] w fun e w' => e = .returned (.tuple #[.agg (bestV (bestR xs size).2.1 (bestR xs size).1).toArray, .int .i64 (bestR xs size).2.2]) ∧ Below w.heap.size w w' := by
  have hn := hl.len
  subst hn
  refine enterQ (N := 20) (C := fun _ => True) (H := []) (B := w.heap.size) (args := [_, _]) Try.func14 rfl rfl rfl (Nat.le_refl _) (Sat.nil _ _) fun Q hQ => ?_
  refine wp_seq' fun K1 hK1 => ?_
  refine wp_reg ?_
  refine ol_alloc 4 z24 rfl fun b4 => ?_
  refine ol_r (r_assign rfl) rfl ?_
  refine ol_nil (to_k0 (fun _ _ h => h) (hK1 _ _ _ _ _ ?_))
  clear hK1
  refine wp_seq' fun K2 hK2 => ?_
  refine wp_seq' fun K3 hK3 => ?_
  refine wp_reg ?_
  refine ol_r (r_move rfl) rfl ?_
  refine ol_call rfl rfl cb20 rfl (fun w1 hb1 hs1 hB1 => Calls.mono (effort_CheckStream _ _ _ xs _ (hl.at hb1 hB1)) ?_)
  rintro e w2 ⟨rfl, hb2⟩
  refine After.below rfl hb1 hs1 hB1 hb2 ?_
  clear hb2 hB1 hs1 hb1 w2 w1
  refine ol_r (r_assign rfl) rfl ?_
  refine ol_nil (to_k0 (fun _ _ h => h) (hK3 _ _ _ _ _ ?_))
  clear hK3
  refine wp_seq' fun K4 hK4 => ?_
  refine wp_reg ?_
  refine ol_r (r_move rfl) rfl ?_
  refine ol_r (r_neq rfl rfl) rfl ?_
  refine ol_nil (to_k0 (fun _ _ h => h) (hK4 _ _ _ _ _ ?_))
  clear hK4
  first | refine wp_condD rfl (fun hc10 => ?_) (fun hc10 => ?_) | refine wp_condN rfl (fun hc10 => ?_) (fun hc10 => ?_) | refine wp_condNB rfl (fun hc10 => ?_) (fun hc10 => ?_) | refine wp_cond' rfl (fun hc10 => ?_) (fun hc10 => ?_)
  ·refine wp_seq' fun K5 hK5 => ?_
   refine wp_reg ?_
   refine ol_r (r_build rfl (fun _ => bd24 _)) rfl ?_
   refine ol_r (r_move rfl) rfl ?_
   refine ol_store (id := 4) rfl rfl rfl rfl sz24 rfl rfl (by first | decide | exact Nat.zero_lt_succ _ | simp) ?_
   refine ol_r (r_assign rfl) rfl ?_
   refine ol_nil (to_k0 (fun _ _ h => h) (hK5 _ _ _ _ _ ?_))
   clear hK5
   refine hQ.ret (rvs2 (rv_c (id := 4) (n := 4) rfl rfl ag24 rfl) (rv_t rfl)) (fun _ _ h => h) fun w hb hs hB hkd => ?_
   first
     | (refine ⟨?_, hb⟩; unfold bestR; rw [if_pos hc10]; rfl; done)
     | (refine ⟨?_, hb⟩; unfold bestR; rw [if_neg hc10, if_neg (by simpa using hc15)]; rfl; done)
     | (refine ⟨?_, hb⟩; unfold bestR; rw [if_neg hc10, if_pos (by simpa using hc15)]; rfl; done)
  ·refine wp_skip' (to_k0 (fun _ _ h => h) (hK2 _ _ _ _ _ ?_))
   clear hK2
   refine wp_seq' fun K6 hK6 => ?_
   refine wp_seq' fun K7 hK7 => ?_
   refine wp_reg ?_
   refine ol_r (r_move rfl) rfl ?_
   refine ol_call rfl rfl cb69 rfl (fun w1 hb1 hs1 hB1 => Calls.mono (effort_in _ _ _ _) ?_)
   rintro e w2 ⟨rfl, hb2⟩
   refine After.below rfl hb1 hs1 hB1 hb2 ?_
   clear hb2 hB1 hs1 hb1 w2 w1
   refine ol_r (r_not rfl) rfl ?_
   refine ol_nil (to_k0 (fun _ _ h => h) (hK7 _ _ _ _ _ ?_))
   clear hK7
   first | refine wp_condD rfl (fun hc15 => ?_) (fun hc15 => ?_) | refine wp_condN rfl (fun hc15 => ?_) (fun hc15 => ?_) | refine wp_condNB rfl (fun hc15 => ?_) (fun hc15 => ?_) | refine wp_cond' rfl (fun hc15 => ?_) (fun hc15 => ?_)
   ·refine wp_seq' fun K8 hK8 => ?_
    refine wp_reg ?_
    refine ol_r (r_build rfl (fun _ => bd24 _)) rfl ?_
    refine ol_store (id := 4) rfl rfl rfl rfl sz24 rfl rfl (by first | decide | exact Nat.zero_lt_succ _ | simp) ?_
    refine ol_r (r_assign rfl) rfl ?_
    refine ol_nil (to_k0 (fun _ _ h => h) (hK8 _ _ _ _ _ ?_))
    clear hK8
    refine hQ.ret (rvs2 (rv_c (id := 4) (n := 4) rfl rfl ag24 rfl) (rv_t rfl)) (fun _ _ h => h) fun w hb hs hB hkd => ?_
    first
      | (refine ⟨?_, hb⟩; unfold bestR; rw [if_pos hc10]; rfl; done)
      | (refine ⟨?_, hb⟩; unfold bestR; rw [if_neg hc10, if_neg (by simpa using hc15)]; rfl; done)
      | (refine ⟨?_, hb⟩; unfold bestR; rw [if_neg hc10, if_pos (by simpa using hc15)]; rfl; done)
   ·refine wp_skip' (to_k0 (fun _ _ h => h) (hK6 _ _ _ _ _ ?_))
    clear hK6
    refine wp_seq' fun K9 hK9 => ?_
    refine wp_reg ?_
    refine ol_r (r_move rfl) rfl ?_
    refine ol_r (r_move rfl) rfl ?_
    have hr := inB_iff.1 (by simpa using hc15 : inB size 1 1000000 = true)
    obtain ⟨z, rfl⟩ := Int.eq_ofNat_of_zero_le (show 0 ≤ size by omega)
    refine ol_call rfl rfl cb70 rfl (fun w1 hb1 hs1 hB1 => Calls.mono (effort_best _ _ _ xs z _ (hl.at hb1 hB1) (by omega) (Decidable.not_not.1 hc10)) ?_)
    rintro e w2 ⟨rfl, hb2⟩
    refine After.below rfl hb1 hs1 hB1 hb2 ?_
    clear hb2 hB1 hs1 hb1 w2 w1
    refine ol_store (id := 4) rfl rfl rfl rfl sz24 rfl rfl (by first | decide | exact Nat.zero_lt_succ _ | simp) ?_
    refine ol_r (r_assign rfl) rfl ?_
    refine ol_nil (to_k0 (fun _ _ h => h) (hK9 _ _ _ _ _ ?_))
    clear hK9
    refine hQ.ret (rvs2 (rv_c (id := 4) (n := 4) rfl rfl ag24 rfl) (rv_t rfl)) (fun _ _ h => h) fun w hb hs hB hkd => ?_
    first
      | (refine ⟨?_, hb⟩; unfold bestR; rw [if_pos hc10]; rfl; done)
      | (refine ⟨?_, hb⟩; unfold bestR; rw [if_neg hc10, if_neg (by simpa using hc15)]; rfl; done)
      | (refine ⟨?_, hb⟩; unfold bestR; rw [if_neg hc10, if_pos (by simpa using hc15)]; rfl; done)

theorem effort_told (w : World) : Calls Try.prog 16 #[] w fun e w' => e = .returned (.bool true) ∧ Below w.heap.size w w' := by
  have hS : bestV (bestR [1, 5, 2, -1, 9, 1] 2).2.1 (bestR [1, 5, 2, -1, 9, 1] 2).1 = [.int .i64 2, .int .i64 10, .int .i64 4, .bool true] := rfl
  have hE : (bestR [1, 5, 2, -1, 9, 1] 2).2.2 = 0 := rfl
  refine enterQ (N := 15) (C := fun _ => True) (H := []) (B := w.heap.size) (args := []) Try.func16 rfl rfl rfl (Nat.le_refl _) (Sat.nil _ _) fun Q hQ => ?_
  refine wp_seq' fun K1 hK1 => ?_
  refine wp_reg ?_
  refine ol_r (r_assign rfl) rfl ?_
  refine ol_nil (to_k0 (fun _ _ h => h) (hK1 _ _ _ _ _ ?_))
  clear hK1
  refine wp_seq' fun K2 hK2 => ?_
  refine wp_reg ?_
  refine ol_bsN 4 rfl rw22 rfl rfl (fun _ => by kernel_rfl) rfl fun a4 => ?_
  refine ol_call rfl rfl cb14 rfl (fun w1 hb1 hs1 hB1 => Calls.mono (effort_Best _ _ _ [1, 5, 2, -1, 9, 1] _ _ (Sat.rd hs1 (E := encI) (xs := [1, 5, 2, -1, 9, 1]) (id := 4) rfl rfl)) ?_)
  rintro e w2 ⟨rfl, hb2⟩
  refine After.below rfl hb1 hs1 hB1 hb2 ?_
  clear hb2 hB1 hs1 hb1 w2 w1
  refine ol_r (r_move rfl) rfl ?_
  refine ol_r (r_extract rfl rfl) rfl ?_
  refine ol_r (r_extract rfl rfl) rfl ?_
  refine ol_alloc 1 z24 rfl fun b1 => ?_
  refine ol_store (id := 1) rfl rfl rfl rfl sz24 rfl rfl (by first | decide | exact Nat.zero_lt_succ _ | simp) ?_
  refine ol_r (r_assign rfl) rfl ?_
  refine ol_nil (to_k0 (fun _ _ h => h) (hK2 _ _ _ _ _ ?_))
  clear hK2
  refine wp_seq' fun K3 hK3 => ?_
  refine wp_reg ?_
  refine ol_r (r_move rfl) rfl ?_
  refine ol_r (r_eql rfl rfl) rfl ?_
  refine ol_r (r_move rfl) rfl ?_
  refine ol_split (d := 10) rfl (fun hs10 => ?_) (fun hs10 => ?_)
  ·have phs10 := hs10; try simp only [decide_eq_true_eq, decide_eq_false_iff_not, Bool.not_eq_true', Bool.not_eq_false', Bool.not_true, Bool.not_false] at phs10
   refine ol_g rfl rfl hs10 ?_
   refine ol_r (r_lda (id := 1) (n := 4) rfl rfl rfl ag24) rfl ?_
   refine ol_g rfl rfl hs10 ?_
   refine ol_r (r_build rfl (fun _ => bd24_0_1_2_3 _ _ _ _ _)) rfl ?_
   refine ol_g rfl rfl hs10 ?_
   refine ol_r (r_eqs rfl rfl (by kernel_rfl) (fun w => run_eqs (by kernel_rfl) (by kernel_rfl) w)) rfl ?_
   refine ol_r (r_pickT rfl hs10 rfl) rfl ?_
   refine ol_r (r_assign rfl) rfl ?_
   refine ol_nil (to_k0 (fun _ _ h => h) (hK3 _ _ _ _ _ ?_))
   clear hK3
   refine hQ.ret (rvs1 (rv_t rfl)) (fun _ _ h => h) fun w hb hs hB hkd => ?_
   first
     | exact ⟨rfl, hb⟩
     | (exfalso; simp_all; done)
  ·have phs10 := hs10; try simp only [decide_eq_true_eq, decide_eq_false_iff_not, Bool.not_eq_true', Bool.not_eq_false', Bool.not_true, Bool.not_false] at phs10
   refine ol_s rfl rfl hs10 rfl ?_
   refine ol_s rfl rfl hs10 rfl ?_
   refine ol_s rfl rfl hs10 rfl ?_
   refine ol_r (r_pickF rfl hs10 rfl) rfl ?_
   refine ol_r (r_assign rfl) rfl ?_
   refine ol_nil (to_k0 (fun _ _ h => h) (hK3 _ _ _ _ _ ?_))
   clear hK3
   refine hQ.ret (rvs1 (rv_t rfl)) (fun _ _ h => h) fun w hb hs hB hkd => ?_
   first
     | exact ⟨rfl, hb⟩
     | (exfalso; simp_all; done)
end Go.Proofs.Ytafkojlccknicaa
