/-
  EffortBookMatchesSpec.
-/
import Derived.Test.YtafkojlccknicaaXmA
import Derived.Test.YtafkojlccknicaaXmB
import Derived.Test.YtafkojlccknicaaXmC
import Derived.Test.YtafkojlccknicaaXmD


namespace Go.Proofs.Ytafkojlccknicaa
open Go Go.RowKit Hx
set_option linter.unusedVariables false
set_option linter.unusedSimpArgs false
set_option maxRecDepth 8000
/-- A call of the law's as it lies in memory. -/
structure CallV where
  kind : Int
  name : ByteArray
  size : Int
  a : Option Addr
  n : Nat
  c : Nat
  cs : List BestR
def encCall : Enc CallV := { size := 4, cells := fun x => [.int .i64 x.kind, .string x.name, .int .i64 x.size, .slice x.a x.n x.c], val := fun x => .agg #[.int .i64 x.kind, .string x.name, .int .i64 x.size, .slice x.a x.n x.c], len := fun _ => rfl, ones := fun _ u h => (by simp at h; rcases h with h | h | h | h <;> subst h <;> rfl), pos := by decide, vc := fun _ => rfl }
theorem ty83 : Ty Try.prog 83 encCall := .inr ⟨ag83, fun _ => rfl⟩
structure CallV.Ok (C : Nat) (w : World) (x : CallV) : Prop where
  r : Rd encBest C w x.a x.n x.c x.cs
  n : x.n ≤ 4398046511104
  s : x.name.size ≤ maxLen
theorem upC_self (cur : Cur) (nm : ByteArray) : upC cur nm (cur nm) = cur := by
  funext x; unfold upC; split
  · rename_i h; rw [h]
  · rfl
theorem not_take {l : List ByteArray} {x : ByteArray} {i : Nat} (hn : l.Nodup) (hx : l[i]? = some x) : x ∉ l.take i := fun hm => by
  obtain ⟨j, hj, he⟩ := List.mem_take_iff_getElem.1 hm
  obtain ⟨hi, he2⟩ := List.getElem?_eq_some_iff.1 hx
  have := (List.getElem_inj (h₀ := by omega) (h₁ := hi) hn).1 (he.trans he2.symm)
  omega
theorem eff_Holders2 {D : DM} {l : List ByteArray} (hke : ordBA (pKeys D) = l) (w : World) (bb bm : Nat) (az : Option Addr) (nz cz : Nat) (zs : List Int) (cur : Cur) (hK : Bk1 w.heap.size w bb bm az nz cz zs D cur) (hzl : zs.length ≤ 100) (hcl : ∀ k ∈ pKeys D, (cur k).length = zs.length) :
    Calls Try.prog 66 #[.pointer (some ⟨bb, 0, none⟩)] w fun e w' => ∃ b m k, e = .returned (.slice b m k) ∧ Fresh encHold 92 w w' b m k (holdK cur l zs zs.length) := by
  subst hke
  exact eff_Holders w bb bm az nz cz zs D cur hK hzl hcl
theorem law_bookE (a : Option Addr) (n c : Nat) (zs : List Int) (b : Option Addr) (m d : Nat) (xs : List CallV) (w : World) (hz : Rd encI w.heap.size w a n c zs) (hz0 : sizesC zs ≠ 0) :
    Calls Try.prog 13 #[.slice a n c, .slice b m d] w fun e w' => e = .returned (.bool true) ∧ Below w.heap.size w w' := by
  refine enterQ (N := 166) (C := fun _ => True) (H := []) (B := w.heap.size) (args := [_, _]) Try.func13 rfl rfl rfl (Nat.le_refl _) (Sat.nil _ _) fun Q hQ => ?_
  refine wp_seq' fun K1 hK1 => ?_
  refine wp_reg ?_
  refine ol_r (r_assign rfl) rfl ?_
  refine ol_nil (to_k0 (fun _ _ h => h) (hK1 _ _ _ _ _ ?_))
  clear hK1
  refine wp_seq' fun K2 hK2 => ?_
  refine wp_reg ?_
  refine ol_r (r_move rfl) rfl ?_
  refine ol_call rfl rfl cb54 rfl (fun w1 hb1 hs1 hB1 => Calls.mono (eff_NewBook _ _ _ zs _ (hz.at hb1 hB1)) ?_)
  rintro e w2 hh
  rw [if_neg hz0] at hh
  obtain ⟨rfl, hb2⟩ := hh
  refine After.below rfl hb1 hs1 hB1 hb2 ?_
  clear hb2 hB1 hs1 hb1 w2 w1
  refine ol_r (r_move rfl) rfl ?_
  refine ol_r (r_extract rfl rfl) rfl ?_
  refine ol_r (r_extract rfl rfl) rfl ?_
  refine ol_r (r_assign rfl) rfl ?_
  refine ol_r (r_assign rfl) rfl ?_
  refine ol_nil (to_k0 (fun _ _ h => h) (hK2 _ _ _ _ _ ?_))
  clear hK2
  refine wp_seq' fun K3 hK3 => ?_
  refine wp_reg ?_
  refine ol_r (r_move rfl) rfl ?_
  refine ol_call rfl rfl cb55 rfl (fun w1 hb1 hs1 hB1 => Calls.mono (ref4_NewBook _ _ _ zs _ (hz.at hb1 hB1)) ?_)
  rintro e w2 hh
  rw [if_neg hz0] at hh
  obtain ⟨rfl, hb2⟩ := hh
  refine After.below rfl hb1 hs1 hB1 hb2 ?_
  clear hb2 hB1 hs1 hb1 w2 w1
  refine ol_r (r_move rfl) rfl ?_
  refine ol_r (r_extract rfl rfl) rfl ?_
  refine ol_r (r_extract rfl rfl) rfl ?_
  refine ol_r (r_assign rfl) rfl ?_
  refine ol_r (r_assign rfl) rfl ?_
  refine ol_nil (to_k0 (fun _ _ h => h) (hK3 _ _ _ _ _ ?_))
  clear hK3
  refine wp_seq' fun K4 hK4 => ?_
  refine wp_seq' fun K5 hK5 => ?_
  refine wp_reg ?_
  refine ol_r (r_move rfl) rfl ?_
  refine ol_r (r_move rfl) rfl ?_
  refine ol_r (r_neq rfl rfl) rfl ?_
  refine ol_nil (to_k0 (fun _ _ h => h) (hK5 _ _ _ _ _ ?_))
  clear hK5
  first | refine wp_condD rfl (fun hc35 => ?_) (fun hc35 => ?_) | refine wp_condN rfl (fun hc35 => ?_) (fun hc35 => ?_) | refine wp_condNB rfl (fun hc35 => ?_) (fun hc35 => ?_) | refine wp_cond' rfl (fun hc35 => ?_) (fun hc35 => ?_)
  ·exfalso
   exact hc35 rfl
  ·refine wp_skip' (to_k0 (fun _ _ h => h) (hK4 _ _ _ _ _ ?_))
   clear hK4
   refine wp_seq' fun K6 hK6 => ?_
   refine wp_seq' fun K7 hK7 => ?_
   refine wp_reg ?_
   refine ol_r (r_move rfl) rfl ?_
   refine ol_r (r_neq rfl rfl) rfl ?_
   refine ol_nil (to_k0 (fun _ _ h => h) (hK7 _ _ _ _ _ ?_))
   clear hK7
   first | refine wp_condD rfl (fun hc37 => ?_) (fun hc37 => ?_) | refine wp_condN rfl (fun hc37 => ?_) (fun hc37 => ?_) | refine wp_condNB rfl (fun hc37 => ?_) (fun hc37 => ?_) | refine wp_cond' rfl (fun hc37 => ?_) (fun hc37 => ?_)
   ·refine wp_seq' fun K8 hK8 => ?_
    refine wp_reg ?_
    refine ol_call rfl rfl cb16 rfl (fun w1 hb1 hs1 hB1 => Calls.mono (effort_told _) ?_)
    rintro e w2 ⟨rfl, hb2⟩
    refine After.below rfl hb1 hs1 hB1 hb2 ?_
    clear hb2 hB1 hs1 hb1 w2 w1
    refine ol_r (r_assign rfl) rfl ?_
    refine ol_nil (to_k0 (fun _ _ h => h) (hK8 _ _ _ _ _ ?_))
    clear hK8
    refine hQ.ret (rvs1 (rv_t rfl)) (fun _ _ h => h) fun w hb hs hB hkd => ?_
    exact ⟨rfl, hb⟩
   ·exfalso
    exact hc37 hz0
theorem law_bookG (a : Option Addr) (n c : Nat) (zs : List Int) (b : Option Addr) (m d : Nat) (xs : List CallV) (w : World) (hz : Rd encI w.heap.size w a n c zs) (hc : Rd encCall w.heap.size w b m d xs) (hx : ∀ x ∈ xs, x.Ok w.heap.size w) (hz0 : sizesC zs = 0) :
    Calls Try.prog 13 #[.slice a n c, .slice b m d] w fun e w' => e = .returned (.bool true) ∧ Below w.heap.size w w' := by
  have hml := hc.len
  have hmf := hc.fit
  have hzl : zs.length ≤ 100 := (sizesC_ok hz0).2.1
  have hrz := rising_pw hz0
  refine enterQ (N := 166) (C := fun _ => True) (H := []) (B := w.heap.size) (args := [_, _]) Try.func13 rfl rfl rfl (Nat.le_refl _) (Sat.nil _ _) fun Q hQ => ?_
  refine wp_seq' fun K1 hK1 => ?_
  refine wp_reg ?_
  refine ol_r (r_assign rfl) rfl ?_
  refine ol_nil (to_k0 (fun _ _ h => h) (hK1 _ _ _ _ _ ?_))
  clear hK1
  refine wp_seq' fun K2 hK2 => ?_
  refine wp_reg ?_
  refine ol_r (r_move rfl) rfl ?_
  refine ol_call rfl rfl cb54 rfl (fun w1 hb1 hs1 hB1 => ?_)
  refine Calls.mono (eff_NewBook _ _ _ zs _ (hz.at hb1 hB1)) ?_
  rintro e w2 hh
  rw [if_pos hz0] at hh
  obtain ⟨bb, bm, az, nz, cz, rfl, hb2, hs2⟩ := hh
  refine After.more rfl hb1 hs1 hB1 hb2 (hs2.kle [(1001, 301), (1002, 302), (1003, 303)] (kle_cons rfl (Ent.le_refl _) (kle_cons rfl (Ent.le_refl _) (kle_cons rfl (Ent.le_refl _) kle_nil))) (by decide)) ?_
  clear hs2 hb2 hB1 hs1 hb1 w2 w1
  refine ol_r (r_move rfl) rfl ?_
  refine ol_r (r_extract rfl rfl) rfl ?_
  refine ol_r (r_extract rfl rfl) rfl ?_
  refine ol_r (r_assign rfl) rfl ?_
  refine ol_r (r_assign rfl) rfl ?_
  refine ol_nil (to_k0 (fun _ _ h => h) (hK2 _ _ _ _ _ ?_))
  clear hK2
  refine wp_seq' fun K3 hK3 => ?_
  refine wp_reg ?_
  refine ol_r (r_move rfl) rfl ?_
  refine ol_call rfl rfl cb55 rfl (fun w1 hb1 hs1 hB1 => ?_)
  refine Calls.mono (ref4_NewBook _ _ _ zs _ (hz.at hb1 hB1)) ?_
  rintro e w2 hh
  rw [if_pos hz0] at hh
  obtain ⟨xb, xm, az2, nz2, cz2, rfl, hb2, hs2⟩ := hh
  refine After.more rfl hb1 hs1 hB1 hb2 (hs2.kle [(1001, 401), (1002, 402), (1003, 403)] (kle_cons rfl (Ent.le_refl _) (kle_cons rfl (Ent.le_refl _) (kle_cons rfl (Ent.le_refl _) kle_nil))) (by decide)) ?_
  clear hs2 hb2 hB1 hs1 hb1 w2 w1
  refine ol_nilrow 404 9 1 ?_
  refine ol_r (r_move rfl) rfl ?_
  refine ol_r (r_extract rfl rfl) rfl ?_
  refine ol_r (r_extract rfl rfl) rfl ?_
  refine ol_r (r_assign rfl) rfl ?_
  refine ol_r (r_assign rfl) rfl ?_
  refine ol_nil (to_k0 (fun _ _ h => h) (hK3 _ _ _ _ _ ?_))
  clear hK3
  refine wp_seq' fun K4 hK4 => ?_
  refine wp_seq' fun K5 hK5 => ?_
  refine wp_reg ?_
  refine ol_r (r_move rfl) rfl ?_
  refine ol_r (r_move rfl) rfl ?_
  refine ol_r (r_neq rfl rfl) rfl ?_
  refine ol_nil (to_k0 (fun _ _ h => h) (hK5 _ _ _ _ _ ?_))
  clear hK5
  first | refine wp_condD rfl (fun hc35 => ?_) (fun hc35 => ?_) | refine wp_condN rfl (fun hc35 => ?_) (fun hc35 => ?_) | refine wp_condNB rfl (fun hc35 => ?_) (fun hc35 => ?_) | refine wp_cond' rfl (fun hc35 => ?_) (fun hc35 => ?_)
  ·exfalso
   exact hc35 rfl
  ·refine wp_skip' (to_k0 (fun _ _ h => h) (hK4 _ _ _ _ _ ?_))
   clear hK4
   refine wp_seq' fun K6 hK6 => ?_
   refine wp_seq' fun K7 hK7 => ?_
   refine wp_reg ?_
   refine ol_r (r_move rfl) rfl ?_
   refine ol_r (r_neq rfl rfl) rfl ?_
   refine ol_nil (to_k0 (fun _ _ h => h) (hK7 _ _ _ _ _ ?_))
   clear hK7
   first | refine wp_condD rfl (fun hc37 => ?_) (fun hc37 => ?_) | refine wp_condN rfl (fun hc37 => ?_) (fun hc37 => ?_) | refine wp_condNB rfl (fun hc37 => ?_) (fun hc37 => ?_) | refine wp_cond' rfl (fun hc37 => ?_) (fun hc37 => ?_)
   ·exfalso
    exact hc37 rfl
   ·refine wp_skip' (to_k0 (fun _ _ h => h) (hK6 _ _ _ _ _ ?_))
    clear hK6
    refine wp_seq' fun K8 hK8 => ?_
    refine wp_reg ?_
    refine ol_mkmapE (Value.string) (slV) 39 rfl fun b39 => ?_
    refine ol_r (r_assign rfl) rfl ?_
    refine ol_nil (to_k0 (fun _ _ h => h) (hK8 _ _ _ _ _ ?_))
    clear hK8
    refine wp_seq' fun K9 hK9 => ?_
    refine wp_seq' fun K10 hK10 => ?_
    refine wp_reg ?_
    refine ol_r (r_move rfl) rfl ?_
    refine ol_r (r_len rfl sl74) rfl ?_
    refine ol_r (r_move rfl) rfl ?_
    refine ol_nil (to_k0 (fun _ _ h => h) (hK10 _ _ _ _ _ ?_))
    clear hK10
    refine wp_block' ?_
    apply wp_loopT (σ := Nat × DM × DM × DM × Option Addr × Nat × Nat × List Ent × Cur) (fun s => s.1 ≤ m ∧ BI w.heap.size w zs s.2.1 s.2.2.1 s.2.2.2.1 s.2.2.2.2.2.2.2.1 s.2.2.2.2.2.2.2.2) (fun s => [(42, .int .i64 s.1)]) [(0, _), (5, _), (6, _), (7, _), (9, _), (40, _), (41, _)] (fun s => [(302, .ob bm (MapO (pEnc Value.string slV s.2.1))), (401, .blk xb [(0, .slice az2 nz2 cz2), (1, .slice s.2.2.2.2.1 s.2.2.2.2.2.1 s.2.2.2.2.2.2.1), (2, .map (some xm))] 130), (402, .ob xm (MapO (pEnc Value.string slV s.2.2.1))), (404, .row s.2.2.2.2.1 s.2.2.2.2.2.1 s.2.2.2.2.2.2.1 (encStr.enc (ordBA (pKeys s.2.2.1))) 9 1), (39, .ob b39 (MapO (pEnc Value.string slV s.2.2.2.1)))]) [(301, _), (303, _), (403, _)] (fun s => tailE 1500 s.2.2.2.2.2.2.2.1) (fun s => m - s.1) ((0, [], [], [], none, 0, 0, [], fun _ => []))
    ·try dsimp only
     exact ⟨Nat.zero_le _, BI.nil⟩
    ·exact (sub_cons rfl sub_nil)
    ·exact (sub_cons rfl (sub_cons rfl (sub_cons rfl (sub_cons rfl (sub_cons rfl (sub_cons rfl (sub_cons rfl sub_nil)))))))
    ·exact (subH_same rfl (subH_blk rfl (sub_cons rfl (sub_cons rfl (sub_cons rfl sub_nil))) (subH_same rfl (subH_row rfl (by first | (dsimp only; first | rfl | (rw [show pKeys ([] : DM) = [] from rfl, ordBA_nil]; rfl); done) | (first | rfl | (rw [show pKeys ([] : DM) = [] from rfl, ordBA_nil]; rfl); done) | (dsimp only; done)) (subH_same rfl subH_nil)))))
    ·exact (subH_same rfl (subH_same rfl (subH_same rfl subH_nil)))
    ·trivial
    ·rintro ⟨k, D1, D2, L, an, nn, cn, rows, cur⟩ ⟨hk, hd⟩
     dsimp only at hk hd ⊢
     intro K11 hK11
     refine wp_seq' fun K12 hK12 => ?_
     refine wp_reg ?_
     refine ol_r (r_lss rfl rfl) rfl ?_
     refine ol_nil (to_k0 (fun _ _ h => h) (hK12 _ _ _ _ _ ?_))
     clear hK12
     refine wp_seq' fun K13 hK13 => ?_
     first | refine wp_condD rfl (fun hc43 => ?_) (fun hc43 => ?_) | refine wp_condN rfl (fun hc43 => ?_) (fun hc43 => ?_) | refine wp_condNB rfl (fun hc43 => ?_) (fun hc43 => ?_) | refine wp_cond' rfl (fun hc43 => ?_) (fun hc43 => ?_)
     ·refine wp_skip' (to_k0 (fun _ _ h => h) (hK13 _ _ _ _ _ ?_))
      clear hK13
      refine wp_seq' fun K14 hK14 => ?_
      refine wp_block' ?_
      refine wp_seq' fun K15 hK15 => ?_
      refine wp_reg ?_
      refine ol_ixr hc rfl rfl sl74 (by omega) rfl fun x44 hx44 => ?_
      try simp only [Int.toNat_natCast] at hx44
      refine ol_r (r_ldw rfl (fun w1 hb1 hs1 hB1 => Rd.loads hc ty83 hx44 hb1)) rfl ?_
      refine ol_alloc 11 z83 rfl fun b11 => ?_
      refine ol_store (id := 11) rfl rfl rfl rfl sz83 rfl rfl (by first | decide | exact Nat.zero_lt_succ _ | simp) ?_
      refine ol_nil (to_k0 (fun _ _ h => h) (hK15 _ _ _ _ _ ?_))
      clear hK15
      apply wp_seq_cutT (σ := DM × DM × DM × Option Addr × Nat × Nat × List Ent × Cur) (fun s => BI w.heap.size w zs s.1 s.2.1 s.2.2.1 s.2.2.2.2.2.2.1 s.2.2.2.2.2.2.2) (fun s => []) [(0, _), (5, _), (6, _), (7, _), (9, _), (40, _), (41, _), (42, _)] (fun s => [(302, .ob bm (MapO (pEnc Value.string slV s.1))), (401, .blk xb [(0, .slice az2 nz2 cz2), (1, .slice s.2.2.2.1 s.2.2.2.2.1 s.2.2.2.2.2.1), (2, .map (some xm))] 130), (402, .ob xm (MapO (pEnc Value.string slV s.2.1))), (404, .row s.2.2.2.1 s.2.2.2.2.1 s.2.2.2.2.2.1 (encStr.enc (ordBA (pKeys s.2.1))) 9 1), (39, .ob b39 (MapO (pEnc Value.string slV s.2.2.1)))]) [(11, _), (301, _), (303, _), (403, _)] (fun s => tailE 1500 s.2.2.2.2.2.2.1)
      ·exact (sub_cons rfl (sub_cons rfl (sub_cons rfl (sub_cons rfl (sub_cons rfl (sub_cons rfl (sub_cons rfl (sub_cons rfl sub_nil))))))))
      ·exact (subH_same rfl (subH_same rfl (subH_same rfl (subH_same rfl subH_nil))))
      ·intro K16 hK16
       refine wp_seq' fun K17 hK17 => ?_
       refine wp_reg ?_
       have hxo := hx x44 (List.mem_of_getElem? hx44)
       have hxr := hxo.r
       refine ol_r (r_fa (o' := 0) rfl fl83_0 rfl) rfl ?_
       refine ol_r (r_ld (id := 11) rfl rfl rfl sc3) rfl ?_
       refine ol_nil (to_k0 (fun _ _ h => h) (hK17 _ _ _ _ _ ?_))
       clear hK17
       refine wp_block' ?_
       refine wp_seq' fun K18 hK18 => ?_
       refine wp_reg ?_
       refine ol_r (r_eql rfl rfl) rfl ?_
       refine ol_r (r_assign rfl) rfl ?_
       refine ol_nil (to_k0 (fun _ _ h => h) (hK18 _ _ _ _ _ ?_))
       clear hK18
       first | refine wp_condD rfl (fun hc81 => ?_) (fun hc81 => ?_) | refine wp_condN rfl (fun hc81 => ?_) (fun hc81 => ?_) | refine wp_condNB rfl (fun hc81 => ?_) (fun hc81 => ?_) | refine wp_cond' rfl (fun hc81 => ?_) (fun hc81 => ?_)
       ·refine wp_seq' fun K19 hK19 => ?_
        refine wp_reg ?_
        refine ol_r (r_move rfl) rfl ?_
        refine ol_r (r_fa (o' := 1) rfl fl83_1 rfl) rfl ?_
        refine ol_r (r_ld (id := 11) rfl rfl rfl sc9) rfl ?_
        refine ol_r (r_fa (o' := 3) rfl fl83_3 rfl) rfl ?_
        refine ol_r (r_ld (id := 11) rfl rfl rfl sc38) rfl ?_
        refine ol_call rfl rfl cb56 rfl (fun w1 hb1 hs1 hB1 => ?_)
        refine Calls.mono (eff_Add2 _ _ _ rows bb bm az nz cz zs D1 x44.name _ _ _ x44.cs hB1 (hxo.r.below hb1) hxo.n hxo.s hd.ln (hs1.pack (own1 bb bm az nz cz zs D1) [(401, _), (402, _), (403, _), (404, _), (39, _), (11, _)] rows (has_cons rfl (has_cons rfl (has_cons rfl has_nil))) (has_cons rfl (has_cons rfl (has_cons rfl (has_cons rfl (has_cons rfl (has_cons rfl has_nil)))))) (fun j e he => by simp only [List.cons_append, List.nil_append]; (repeat' refine (look_cons_ne _ _ (by omega)).trans ?_); exact look_tailE he) (by rfl) (show List.Nodup ([301, 302, 303, 401, 402, 403, 404, 39, 11] : List Nat) by decide))) ?_
        rintro e w2 ⟨rfl, hbw, ⟨D1', rows1, hA1, hs2⟩, hB2, hkd2⟩
        refine After.sat rfl hb1 hbw (Hx.Sat.unpack _ [(401, _), (402, _), (403, _), (404, _), (39, _), (11, _)] rows1 hs2 (by rfl)) hB2 hkd2 ?_
        clear hkd2 hB2 hs2 hbw hB1 hs1 hb1 w2 w1
        refine ol_r (r_assign rfl) rfl ?_
        refine ol_nil (to_k0 (fun _ _ h => h) (hK19 _ _ _ _ _ ?_))
        clear hK19
        refine wp_seq' fun K20 hK20 => ?_
        refine wp_seq' fun K21 hK21 => ?_
        refine wp_reg ?_
        refine ol_r (r_move rfl) rfl ?_
        refine ol_r (r_move rfl) rfl ?_
        refine ol_r (r_fa (o' := 1) rfl fl83_1 rfl) rfl ?_
        refine ol_r (r_ld (id := 11) rfl rfl rfl sc9) rfl ?_
        refine ol_r (r_fa (o' := 3) rfl fl83_3 rfl) rfl ?_
        refine ol_r (r_ld (id := 11) rfl rfl rfl sc38) rfl ?_
        refine ol_call rfl rfl cb57 rfl (fun w1 hb1 hs1 hB1 => ?_)
        refine Calls.mono (ref4_Add3 hd _ _ _ rows1 xb xm az2 nz2 cz2 an nn cn x44.name _ _ _ x44.cs hB1 (hxo.r.below hb1) hxo.n hxo.s (hs1.pack (own2 xb xm az2 nz2 cz2 zs an nn cn (ordBA (pKeys D2)) D2) [(301, _), (302, _), (303, _), (39, _), (11, _)] rows1 (has_cons rfl (has_cons rfl (has_cons rfl (has_cons rfl has_nil)))) (has_cons rfl (has_cons rfl (has_cons rfl (has_cons rfl (has_cons rfl has_nil))))) (fun j e he => by simp only [List.cons_append, List.nil_append]; (repeat' refine (look_cons_ne _ _ (by omega)).trans ?_); exact look_tailE he) (by rfl) (show List.Nodup ([401, 402, 403, 404, 301, 302, 303, 39, 11] : List Nat) by decide))) ?_
        rintro e w2 ⟨rfl, hbw, ⟨an', nn', cn', D2', rows2, hA2, hs2⟩, hB2, hkd2⟩
        refine After.sat rfl hb1 hbw (Hx.Sat.unpack _ [(301, _), (302, _), (303, _), (39, _), (11, _)] rows2 hs2 (by rfl)) hB2 hkd2 ?_
        clear hkd2 hB2 hs2 hbw hB1 hs1 hb1 w2 w1
        refine ol_r (r_neq rfl rfl) rfl ?_
        refine ol_nil (to_k0 (fun _ _ h => h) (hK21 _ _ _ _ _ ?_))
        clear hK21
        first | refine wp_condD rfl (fun hc96 => ?_) (fun hc96 => ?_) | refine wp_condN rfl (fun hc96 => ?_) (fun hc96 => ?_) | refine wp_condNB rfl (fun hc96 => ?_) (fun hc96 => ?_) | refine wp_cond' rfl (fun hc96 => ?_) (fun hc96 => ?_)
        ·exfalso
         exact hc96 rfl
        ·refine wp_skip' (to_k0 (fun _ _ h => h) (hK20 _ _ _ _ _ ?_))
         clear hK20
         refine wp_seq' fun K22 hK22 => ?_
         refine wp_reg ?_
         refine ol_r (r_move rfl) rfl ?_
         refine ol_r (r_eql rfl rfl) rfl ?_
         refine ol_nil (to_k0 (fun _ _ h => h) (hK22 _ _ _ _ _ ?_))
         clear hK22
         first | refine wp_condD rfl (fun hc98 => ?_) (fun hc98 => ?_) | refine wp_condN rfl (fun hc98 => ?_) (fun hc98 => ?_) | refine wp_condNB rfl (fun hc98 => ?_) (fun hc98 => ?_) | refine wp_cond' rfl (fun hc98 => ?_) (fun hc98 => ?_)
         ·refine wp_reg ?_
          refine ol_r (r_move rfl) rfl ?_
          refine ol_r (r_fa (o' := 1) rfl fl83_1 rfl) rfl ?_
          refine ol_r (r_ld (id := 11) rfl rfl rfl sc9) rfl ?_
          refine ol_r (r_fa (o' := 3) rfl fl83_3 rfl) rfl ?_
          refine ol_r (r_ld (id := 11) rfl rfl rfl sc38) rfl ?_
          refine ol_mapset (K := Value.string) (V := slV) (z := nilS) (k := x44.name) (v := (x44.a, x44.n, x44.c)) (id := 39) rfl rfl rfl rfl mk81 trivial ?_
          refine ol_nil (to_k0 (fun _ _ h => h) (hK16 ((D1', D2', Hx.pS L x44.name (x44.a, x44.n, x44.c), an', nn', cn', rows2, upC cur x44.name x44.cs)) _ _ ?_ sub_nil (sub_cons rfl (sub_cons rfl (sub_cons rfl (sub_cons rfl (sub_cons rfl (sub_cons rfl (sub_cons rfl (sub_cons rfl sub_nil)))))))) (subH_same rfl (subH_blk rfl (by repeat' first | exact sub_nil | refine sub_cons rfl ?_) (subH_same rfl (subH_row rfl (by first | (dsimp only; rfl; done) | (rfl; done) | (dsimp only; done)) (subH_same rfl subH_nil))))) (subH_same rfl (subH_same rfl (subH_same rfl (subH_same rfl subH_nil)))) ?_))
          ·try dsimp only
           exact hd.add hc98 hA1 hA2 hxo.r hxo.n hxo.s
          ·try dsimp only
           refine subH_tailE fun j x hj => ?_
           simp only [List.cons_append, List.nil_append]
           repeat' refine (look_cons_ne _ _ (by omega)).trans ?_
           exact look_tailE hj
         ·refine wp_skip' (to_k0 (fun _ _ h => h) (hK16 ((D1', D2', L, an', nn', cn', rows2, cur)) _ _ ?_ sub_nil (sub_cons rfl (sub_cons rfl (sub_cons rfl (sub_cons rfl (sub_cons rfl (sub_cons rfl (sub_cons rfl (sub_cons rfl sub_nil)))))))) (subH_same rfl (subH_blk rfl (by repeat' first | exact sub_nil | refine sub_cons rfl ?_) (subH_same rfl (subH_row rfl (by first | (dsimp only; rfl; done) | (rfl; done) | (dsimp only; done)) (subH_same rfl subH_nil))))) (subH_same rfl (subH_same rfl (subH_same rfl (subH_same rfl subH_nil)))) ?_))
          ·try dsimp only
           exact hd.same hc98 hA1 hA2
          ·try dsimp only
           refine subH_tailE fun j x hj => ?_
           simp only [List.cons_append, List.nil_append]
           repeat' refine (look_cons_ne _ _ (by omega)).trans ?_
           exact look_tailE hj
       ·refine wp_seq' fun K23 hK23 => ?_
        refine wp_reg ?_
        refine ol_r (r_eql rfl rfl) rfl ?_
        refine ol_r (r_assign rfl) rfl ?_
        refine ol_nil (to_k0 (fun _ _ h => h) (hK23 _ _ _ _ _ ?_))
        clear hK23
        first | refine wp_condD rfl (fun hc104 => ?_) (fun hc104 => ?_) | refine wp_condN rfl (fun hc104 => ?_) (fun hc104 => ?_) | refine wp_condNB rfl (fun hc104 => ?_) (fun hc104 => ?_) | refine wp_cond' rfl (fun hc104 => ?_) (fun hc104 => ?_)
        ·refine wp_seq' fun K24 hK24 => ?_
         refine wp_seq' fun K25 hK25 => ?_
         refine wp_rega [(999, [(11, _), (39, _), (303, _), (403, _)]), (3, [(301, _)]), (3, [(302, _)]), (7, [(401, _)]), (7, [(402, _)]), (7, [(404, _)])] (by kernel_rfl) ⟨.inr (subH_same rfl (subH_same rfl (subH_same rfl (subH_same rfl subH_nil)))), ⟨.inr (subH_same rfl subH_nil), ⟨.inr (subH_same rfl subH_nil), ⟨.inr (subH_same rfl subH_nil), ⟨.inr (subH_same rfl subH_nil), ⟨.inr (subH_same rfl subH_nil), trivial⟩⟩⟩⟩⟩⟩ ?_
         refine aq_r 0 999 rfl (by kernel_rfl) (by kernel_rfl) (by kernel_rfl) (.head _) (by kernel_rfl) (by kernel_rfl) rfl (r_move rfl) ?_
         refine aq_r 1 999 rfl (by kernel_rfl) (by kernel_rfl) (by kernel_rfl) (.head _) (by kernel_rfl) (by kernel_rfl) rfl (r_fa (o' := 1) rfl fl83_1 rfl) ?_
         refine aq_r 2 999 rfl (by kernel_rfl) (by kernel_rfl) (by kernel_rfl) (.head _) (by kernel_rfl) (by kernel_rfl) rfl (r_ld (id := 11) rfl rfl rfl sc9) ?_
         refine aq_r 4 999 rfl (by kernel_rfl) (by kernel_rfl) (by kernel_rfl) (.head _) (by kernel_rfl) (by kernel_rfl) rfl (r_move rfl) ?_
         refine aq_r 5 999 rfl (by kernel_rfl) (by kernel_rfl) (by kernel_rfl) (.head _) (by kernel_rfl) (by kernel_rfl) rfl (r_fa (o' := 1) rfl fl83_1 rfl) ?_
         refine aq_r 6 999 rfl (by kernel_rfl) (by kernel_rfl) (by kernel_rfl) (.head _) (by kernel_rfl) (by kernel_rfl) rfl (r_ld (id := 11) rfl rfl rfl sc9) ?_
         refine aq_one (i := 3) (by kernel_rfl) rfl fun K26 hK26 => ?_
         refine ol_call rfl rfl cb58 rfl (fun w1 hb1 hs1 hB1 => ?_)
         refine Calls.mono (eff_Remove _ _ _ bb bm az nz cz zs D1 x44.name hB1 (hs1.pack (own1 bb bm az nz cz zs D1) [(401, _), (402, _), (403, _), (404, _), (39, _), (11, _)] rows (has_cons rfl (has_cons rfl (has_cons rfl has_nil))) (has_cons rfl (has_cons rfl (has_cons rfl (has_cons rfl (has_cons rfl (has_cons rfl has_nil)))))) (fun j e he => by simp only [List.cons_append, List.nil_append]; (repeat' refine (look_cons_ne _ _ (by omega)).trans ?_); exact look_tailE he) (by rfl) (show List.Nodup ([301, 302, 303, 401, 402, 403, 404, 39, 11] : List Nat) by decide))) ?_
         rintro e w2 ⟨rfl, hbw, hs2, hB2, hkd2⟩
         refine After.sat rfl hb1 hbw (Hx.Sat.unpack _ [(401, _), (402, _), (403, _), (404, _), (39, _), (11, _)] rows hs2 (by rfl)) hB2 hkd2 ?_
         clear hkd2 hB2 hs2 hbw hB1 hs1 hb1 w2 w1
         refine ol_nil (to_k0 (fun _ _ h => h) (hK26 _ _ ⟨.inr (by repeat' first | exact subH_nil | refine subH_same rfl ?_ | (refine subH_blk rfl (by repeat' first | exact sub_nil | refine sub_cons rfl ?_) ?_)), ⟨.inl (by kernel_rfl), ⟨.inl (by kernel_rfl), ⟨.inr (by repeat' first | exact subH_nil | refine subH_same rfl ?_ | (refine subH_blk rfl (by repeat' first | exact sub_nil | refine sub_cons rfl ?_) ?_)), ⟨.inr (by repeat' first | exact subH_nil | refine subH_same rfl ?_ | (refine subH_blk rfl (by repeat' first | exact sub_nil | refine sub_cons rfl ?_) ?_)), ⟨.inr (by repeat' first | exact subH_nil | refine subH_same rfl ?_ | (refine subH_blk rfl (by repeat' first | exact sub_nil | refine sub_cons rfl ?_) ?_)), trivial⟩⟩⟩⟩⟩⟩ ?_))
         clear hK26
         refine aq_one (i := 7) (by kernel_rfl) rfl fun K27 hK27 => ?_
         refine ol_call rfl rfl cb59 rfl (fun w1 hb1 hs1 hB1 => ?_)
         refine Calls.mono (ref4_Remove2 hd _ _ _ xb xm az2 nz2 cz2 an nn cn x44.name hB1 (hs1.pack (own2 xb xm az2 nz2 cz2 zs an nn cn (ordBA (pKeys D2)) D2) [(301, _), (302, _), (303, _), (39, _), (11, _)] rows (has_cons rfl (has_cons rfl (has_cons rfl (has_cons rfl has_nil)))) (has_cons rfl (has_cons rfl (has_cons rfl (has_cons rfl (has_cons rfl has_nil))))) (fun j e he => by simp only [List.cons_append, List.nil_append]; (repeat' refine (look_cons_ne _ _ (by omega)).trans ?_); exact look_tailE he) (by rfl) (show List.Nodup ([401, 402, 403, 404, 301, 302, 303, 39, 11] : List Nat) by decide))) ?_
         rintro e w2 ⟨rfl, hbw, ⟨an', nn', cn', hs2⟩, hB2, hkd2⟩
         refine After.sat rfl hb1 hbw (Hx.Sat.unpack _ [(301, _), (302, _), (303, _), (39, _), (11, _)] rows hs2 (by rfl)) hB2 hkd2 ?_
         clear hkd2 hB2 hs2 hbw hB1 hs1 hb1 w2 w1
         refine ol_nil (to_k0 (fun _ _ h => h) (hK27 _ _ ⟨.inr (by repeat' first | exact subH_nil | refine subH_same rfl ?_ | (refine subH_blk rfl (by repeat' first | exact sub_nil | refine sub_cons rfl ?_) ?_)), ⟨.inl (by kernel_rfl), ⟨.inl (by kernel_rfl), ⟨.inl (by kernel_rfl), ⟨.inl (by kernel_rfl), ⟨.inl (by kernel_rfl), trivial⟩⟩⟩⟩⟩⟩ ?_))
         clear hK27
         refine aq_r 8 999 rfl (by kernel_rfl) (by kernel_rfl) (by kernel_rfl) (.head _) (by kernel_rfl) (by kernel_rfl) rfl (r_neq rfl rfl) ?_
         refine aq_done (by kernel_rfl) ?_
         refine (to_k0 (fun _ _ h => h) (hK25 _ _ _ _ _ ?_))
         clear hK25
         first | refine wp_condD rfl (fun hc114 => ?_) (fun hc114 => ?_) | refine wp_condN rfl (fun hc114 => ?_) (fun hc114 => ?_) | refine wp_condNB rfl (fun hc114 => ?_) (fun hc114 => ?_) | refine wp_cond' rfl (fun hc114 => ?_) (fun hc114 => ?_)
         ·exfalso
          exact hc114 rfl
         ·refine wp_skip' (to_k0 (fun _ _ h => h) (hK24 _ _ _ _ _ ?_))
          clear hK24
          refine wp_reg ?_
          refine ol_r (r_move rfl) rfl ?_
          refine ol_r (r_fa (o' := 1) rfl fl83_1 rfl) rfl ?_
          refine ol_r (r_ld (id := 11) rfl rfl rfl sc9) rfl ?_
          refine ol_mapdel (K := Value.string) (V := slV) (z := nilS) (k := x44.name) (id := 39) rfl rfl rfl mk81 trivial ?_
          refine ol_nil (to_k0 (fun _ _ h => h) (hK16 ((pD D1 x44.name, pD D2 x44.name, pD L x44.name, an', nn', cn', rows, cur)) _ _ ?_ sub_nil (sub_cons rfl (sub_cons rfl (sub_cons rfl (sub_cons rfl (sub_cons rfl (sub_cons rfl (sub_cons rfl (sub_cons rfl sub_nil)))))))) (subH_same rfl (subH_blk rfl (by repeat' first | exact sub_nil | refine sub_cons rfl ?_) (subH_same rfl (subH_row rfl (by first | (dsimp only; rfl; done) | (rfl; done) | (dsimp only; done)) (subH_same rfl subH_nil))))) (subH_same rfl (subH_same rfl (subH_same rfl (subH_same rfl subH_nil)))) ?_))
          ·try dsimp only
           exact hd.del _
          ·try dsimp only
           refine subH_tailE fun j x hj => ?_
           simp only [List.cons_append, List.nil_append]
           repeat' refine (look_cons_ne _ _ (by omega)).trans ?_
           exact look_tailE hj
        ·refine wp_seq' fun K28 hK28 => ?_
         refine wp_reg ?_
         refine ol_r (r_move rfl) rfl ?_
         refine ol_r (r_fa (o' := 2) rfl fl83_2 rfl) rfl ?_
         refine ol_r (r_ld (id := 11) rfl rfl rfl sc3) rfl ?_
         refine ol_r (r_fa (o' := 1) rfl fl83_1 rfl) rfl ?_
         refine ol_r (r_ld (id := 11) rfl rfl rfl sc9) rfl ?_
         refine ol_call rfl rfl cb60 rfl (fun w1 hb1 hs1 hB1 => Calls.mono (eff_Rank _ bb bm az nz cz zs D1 cur x44.size x44.name (hs1.bk1 hd.r1 hd.n1 (fun k hk => (hd.ok k hk).2.2.2) hd.ln 301 rfl rfl rfl (fun j e he => by simp only [List.cons_append, List.nil_append]; (repeat' refine (look_cons_ne _ _ (by omega)).trans ?_); exact look_tailE he)) hd.cl) ?_)
         rintro e w2 ⟨rfl, hb2⟩
         refine After.below rfl hb1 hs1 hB1 hb2 ?_
         clear hb2 hB1 hs1 hb1 w2 w1
         refine ol_r (r_move rfl) rfl ?_
         refine ol_r (r_extract rfl rfl) rfl ?_
         refine ol_r (r_extract rfl rfl) rfl ?_
         refine ol_r (r_extract rfl rfl) rfl ?_
         refine ol_r (r_assign rfl) rfl ?_
         refine ol_r (r_assign rfl) rfl ?_
         refine ol_r (r_assign rfl) rfl ?_
         refine ol_nil (to_k0 (fun _ _ h => h) (hK28 _ _ _ _ _ ?_))
         clear hK28
         refine wp_seq' fun K29 hK29 => ?_
         refine wp_reg ?_
         refine ol_r (r_move rfl) rfl ?_
         refine ol_r (r_fa (o' := 2) rfl fl83_2 rfl) rfl ?_
         refine ol_r (r_ld (id := 11) rfl rfl rfl sc3) rfl ?_
         refine ol_r (r_fa (o' := 1) rfl fl83_1 rfl) rfl ?_
         refine ol_r (r_ld (id := 11) rfl rfl rfl sc9) rfl ?_
         refine ol_call rfl rfl cb61 rfl (fun w1 hb1 hs1 hB1 => Calls.mono (ref4_Rank2 hd _ xb xm az2 nz2 cz2 an nn cn x44.size x44.name (hs1.bk2 hd rfl rfl rfl rfl (fun j e he => by simp only [List.cons_append, List.nil_append]; (repeat' refine (look_cons_ne _ _ (by omega)).trans ?_); exact look_tailE he)) hrz) ?_)
         rintro e w2 ⟨rfl, hb2⟩
         refine After.below rfl hb1 hs1 hB1 hb2 ?_
         clear hb2 hB1 hs1 hb1 w2 w1
         refine ol_r (r_move rfl) rfl ?_
         refine ol_r (r_extract rfl rfl) rfl ?_
         refine ol_r (r_extract rfl rfl) rfl ?_
         refine ol_r (r_extract rfl rfl) rfl ?_
         refine ol_r (r_assign rfl) rfl ?_
         refine ol_r (r_assign rfl) rfl ?_
         refine ol_r (r_assign rfl) rfl ?_
         refine ol_nil (to_k0 (fun _ _ h => h) (hK29 _ _ _ _ _ ?_))
         clear hK29
         refine wp_seq' fun K30 hK30 => ?_
         refine wp_reg ?_
         refine ol_r (r_move rfl) rfl ?_
         refine ol_r (r_move rfl) rfl ?_
         refine ol_r (r_neq rfl rfl) rfl ?_
         refine ol_r (r_move rfl) rfl ?_
         refine ol_split (d := 71) rfl (fun hs71 => ?_) (fun hs71 => ?_)
         ·have phs71 := hs71; try simp only [decide_eq_true_eq, decide_eq_false_iff_not, Bool.not_eq_true', Bool.not_eq_false', Bool.not_true, Bool.not_false] at phs71
          exfalso
          simp at hs71
         ·have phs71 := hs71; try simp only [decide_eq_true_eq, decide_eq_false_iff_not, Bool.not_eq_true', Bool.not_eq_false', Bool.not_true, Bool.not_false] at phs71
          refine ol_g rfl rfl hs71 ?_
          refine ol_r (r_move rfl) rfl ?_
          refine ol_g rfl rfl hs71 ?_
          refine ol_r (r_move rfl) rfl ?_
          refine ol_g rfl rfl hs71 ?_
          refine ol_r (r_bneq rfl rfl (by kernel_rfl)) rfl ?_
          refine ol_r (r_pickF rfl hs71 rfl) rfl ?_
          refine ol_r (r_move rfl) rfl ?_
          refine ol_split (d := 76) rfl (fun hs76 => ?_) (fun hs76 => ?_)
          ·have phs76 := hs76; try simp only [decide_eq_true_eq, decide_eq_false_iff_not, Bool.not_eq_true', Bool.not_eq_false', Bool.not_true, Bool.not_false] at phs76
           exfalso
           simp at hs76
          ·have phs76 := hs76; try simp only [decide_eq_true_eq, decide_eq_false_iff_not, Bool.not_eq_true', Bool.not_eq_false', Bool.not_true, Bool.not_false] at phs76
           refine ol_g rfl rfl hs76 ?_
           refine ol_r (r_move rfl) rfl ?_
           refine ol_g rfl rfl hs76 ?_
           refine ol_r (r_move rfl) rfl ?_
           refine ol_g rfl rfl hs76 ?_
           refine ol_r (r_neq rfl rfl) rfl ?_
           refine ol_r (r_pickF rfl hs76 rfl) rfl ?_
           refine ol_nil (to_k0 (fun _ _ h => h) (hK30 _ _ _ _ _ ?_))
           clear hK30
           first | refine wp_condD rfl (fun hc80 => ?_) (fun hc80 => ?_) | refine wp_condN rfl (fun hc80 => ?_) (fun hc80 => ?_) | refine wp_condNB rfl (fun hc80 => ?_) (fun hc80 => ?_) | refine wp_cond' rfl (fun hc80 => ?_) (fun hc80 => ?_)
           ·exfalso
            simp at hc80
           ·refine wp_skip' (to_k0 (fun _ _ h => h) (hK16 ((D1, D2, L, an, nn, cn, rows, cur)) _ _ ?_ sub_nil (sub_cons rfl (sub_cons rfl (sub_cons rfl (sub_cons rfl (sub_cons rfl (sub_cons rfl (sub_cons rfl (sub_cons rfl sub_nil)))))))) (subH_same rfl (subH_blk rfl (by repeat' first | exact sub_nil | refine sub_cons rfl ?_) (subH_same rfl (subH_row rfl (by first | (dsimp only; rfl; done) | (rfl; done) | (dsimp only; done)) (subH_same rfl subH_nil))))) (subH_same rfl (subH_same rfl (subH_same rfl (subH_same rfl subH_nil)))) ?_))
            ·try dsimp only
             exact hd
            ·try dsimp only
             refine subH_tailE fun j x hj => ?_
             simp only [List.cons_append, List.nil_append]
             repeat' refine (look_cons_ne _ _ (by omega)).trans ?_
             exact look_tailE hj
      ·rintro ⟨D1, D2, L, an, nn, cn, rows, cur⟩ hd
       dsimp only at hd ⊢
       refine wp_seq' fun K31 hK31 => ?_
       refine wp_reg ?_
       refine ol_r (r_move rfl) rfl ?_
       refine ol_call rfl rfl cb63 rfl (fun w1 hb1 hs1 hB1 => Calls.mono (eff_Names _ bb bm az nz cz zs D1 cur (hs1.bk1 hd.r1 hd.n1 (fun k hk => (hd.ok k hk).2.2.2) hd.ln 301 rfl rfl rfl (fun j e he => by simp only [List.cons_append, List.nil_append]; (repeat' refine (look_cons_ne _ _ (by omega)).trans ?_); exact look_tailE he))) ?_)
       rintro e w2 ⟨a119, n119, c119, rfl, hf119⟩
       refine After.fresh (id := 119) rfl hb1 hs1 hB1 hf119 ?_
       have hl119 := hf119.len; clear hf119 hB1 hs1 hb1 w2 w1
       refine ol_r (r_move rfl) rfl ?_
       refine ol_call rfl rfl cb64 rfl (fun w1 hb1 hs1 hB1 => Calls.mono (ref4_Names2 hd _ xb xm az2 nz2 cz2 an nn cn (hs1.bk2 hd rfl rfl rfl rfl (fun j e he => by simp only [List.cons_append, List.nil_append]; (repeat' refine (look_cons_ne _ _ (by omega)).trans ?_); exact look_tailE he))) ?_)
       rintro e w2 ⟨a121, n121, c121, rfl, hf121⟩
       refine After.fresh (id := 121) rfl hb1 hs1 hB1 hf121 ?_
       have hl121 := hf121.len; clear hf121 hB1 hs1 hb1 w2 w1
       obtain rfl : n119 = n121 := by rw [← hl119, ← hl121]
       refine ol_call rfl rfl cb62 rfl (fun w1 hb1 hs1 hB1 => Calls.mono (equal_str_same _ _ _ _ _ (ordBA (pKeys D1)) _ (Sat.rd hs1 (id := 119) rfl rfl) (Sat.rd hs1 (id := 121) rfl rfl)) ?_)
       rintro e w2 ⟨rfl, hb2⟩
       refine After.below rfl hb1 hs1 hB1 hb2 ?_
       clear hb2 hB1 hs1 hb1 w2 w1
       refine ol_r (r_not rfl) rfl ?_
       refine ol_r (r_move rfl) rfl ?_
       refine ol_split (d := 124) rfl (fun hs124 => ?_) (fun hs124 => ?_)
       ·have phs124 := hs124; try simp only [decide_eq_true_eq, decide_eq_false_iff_not, Bool.not_eq_true', Bool.not_eq_false', Bool.not_true, Bool.not_false] at phs124
        refine ol_s rfl rfl hs124 rfl ?_
        refine ol_s rfl rfl hs124 rfl ?_
        refine ol_s rfl rfl hs124 rfl ?_
        refine ol_s rfl rfl hs124 rfl ?_
        refine ol_s rfl rfl hs124 rfl ?_
        refine ol_s rfl rfl hs124 rfl ?_
        refine ol_r (r_pickT rfl hs124 rfl) rfl ?_
        refine ol_nil (to_k0 (fun _ _ h => h) (hK31 _ _ _ _ _ ?_))
        clear hK31
        refine wp_condT rfl ?_
        refine wp_seq' fun K32 hK32 => ?_
        refine wp_reg ?_
        refine ol_r (r_assign rfl) rfl ?_
        refine ol_nil (to_k0 (fun _ _ h => h) (hK32 _ _ _ _ _ ?_))
        clear hK32
        refine hQ.ret (rvs1 (rv_t rfl)) (fun _ _ h => h) fun w hb hs hB hkd => ?_
        first
          | exact ⟨rfl, hb⟩
          | (exfalso; simp at hs124; done)
          | (exfalso; simp at hc131; done)
          | (exfalso; exact hc139 rfl)
          | (exfalso; simp at hs163; done)
       ·have phs124 := hs124; try simp only [decide_eq_true_eq, decide_eq_false_iff_not, Bool.not_eq_true', Bool.not_eq_false', Bool.not_true, Bool.not_false] at phs124
        refine ol_g rfl rfl hs124 ?_
        refine ol_r (r_move rfl) rfl ?_
        refine ol_g rfl rfl hs124 ?_
        refine ol_call rfl rfl cb66 rfl (fun w1 hb1 hs1 hB1 => Calls.mono (eff_Holders _ bb bm az nz cz zs D1 cur (hs1.bk1 hd.r1 hd.n1 (fun k hk => (hd.ok k hk).2.2.2) hd.ln 301 rfl rfl rfl (fun j e he => by simp only [List.cons_append, List.nil_append]; (repeat' refine (look_cons_ne _ _ (by omega)).trans ?_); exact look_tailE he)) hzl hd.cl) ?_)
        rintro e w2 ⟨a126, n126, c126, rfl, hf126⟩
        refine After.fresh (id := 126) rfl hb1 hs1 hB1 hf126 ?_
        have hl126 := hf126.len; clear hf126 hB1 hs1 hb1 w2 w1
        refine ol_g rfl rfl hs124 ?_
        refine ol_r (r_move rfl) rfl ?_
        refine ol_g rfl rfl hs124 ?_
        refine ol_call rfl rfl cb67 rfl (fun w1 hb1 hs1 hB1 => Calls.mono (ref4_Holders2 hd _ xb xm az2 nz2 cz2 an nn cn (hs1.bk2 hd rfl rfl rfl rfl (fun j e he => by simp only [List.cons_append, List.nil_append]; (repeat' refine (look_cons_ne _ _ (by omega)).trans ?_); exact look_tailE he)) hzl) ?_)
        rintro e w2 ⟨a128, n128, c128, rfl, hf128⟩
        refine After.fresh (id := 128) rfl hb1 hs1 hB1 hf128 ?_
        have hl128 := hf128.len; clear hf128 hB1 hs1 hb1 w2 w1
        refine ol_g rfl rfl hs124 ?_
        obtain rfl : n126 = n128 := by rw [← hl126, ← hl128]
        refine ol_call rfl rfl cb65 rfl (fun w1 hb1 hs1 hB1 => Calls.mono (equal_hold_same _ _ _ _ _ (holdK cur (ordBA (pKeys D1)) zs zs.length) _ (Sat.rd hs1 (id := 126) rfl rfl) (Sat.rd hs1 (id := 128) rfl rfl)) ?_)
        rintro e w2 ⟨rfl, hb2⟩
        refine After.below rfl hb1 hs1 hB1 hb2 ?_
        clear hb2 hB1 hs1 hb1 w2 w1
        refine ol_g rfl rfl hs124 ?_
        refine ol_r (r_not rfl) rfl ?_
        refine ol_r (r_pickF rfl hs124 rfl) rfl ?_
        refine ol_nil (to_k0 (fun _ _ h => h) (hK31 _ _ _ _ _ ?_))
        clear hK31
        first | refine wp_condD rfl (fun hc131 => ?_) (fun hc131 => ?_) | refine wp_condN rfl (fun hc131 => ?_) (fun hc131 => ?_) | refine wp_condNB rfl (fun hc131 => ?_) (fun hc131 => ?_) | refine wp_cond' rfl (fun hc131 => ?_) (fun hc131 => ?_)
        ·refine wp_seq' fun K33 hK33 => ?_
         refine wp_reg ?_
         refine ol_r (r_assign rfl) rfl ?_
         refine ol_nil (to_k0 (fun _ _ h => h) (hK33 _ _ _ _ _ ?_))
         clear hK33
         refine hQ.ret (rvs1 (rv_t rfl)) (fun _ _ h => h) fun w hb hs hB hkd => ?_
         first
           | exact ⟨rfl, hb⟩
           | (exfalso; simp at hs124; done)
           | (exfalso; simp at hc131; done)
           | (exfalso; exact hc139 rfl)
           | (exfalso; simp at hs163; done)
        ·refine wp_skip' (to_k0 (fun _ _ h => h) (hK14 _ _ _ _ _ ?_))
         clear hK14
         refine wp_reg ?_
         refine ol_r (r_add rfl rfl (by omega)) rfl ?_
         refine ol_r (r_move rfl) rfl ?_
         refine ol_nil (to_k0 (fun _ _ h => h) (hK11 ((k + 1, D1, D2, L, an, nn, cn, rows, cur)) _ _ ?_ ?_ (sub_cons rfl sub_nil) (sub_cons rfl (sub_cons rfl (sub_cons rfl (sub_cons rfl (sub_cons rfl (sub_cons rfl (sub_cons rfl sub_nil))))))) (by exact (subH_same rfl (subH_blk rfl (sub_cons rfl (sub_cons rfl (sub_cons rfl sub_nil))) (subH_same rfl (subH_row rfl (by first | (dsimp only; rfl; done) | (rfl; done) | (dsimp only; done)) (subH_same rfl subH_nil)))))) (subH_same rfl (subH_same rfl (subH_same rfl subH_nil))) ?_))
         ·try dsimp only
          exact ⟨by omega, hd⟩
         ·try dsimp only
          omega
         ·try dsimp only
          refine subH_tailE fun j x hj => ?_
          simp only [List.cons_append, List.nil_append]
          repeat' refine (look_cons_ne _ _ (by omega)).trans ?_
          exact look_tailE hj
     ·refine wp_exit' (to_k0 (fun _ _ h => h) (hK9 _ _ _ _ _ ?_))
      clear hK9
      refine wp_seq' fun K34 hK34 => ?_
      refine wp_reg ?_
      refine ol_r (r_move rfl) rfl ?_
      refine ol_rekey 301 501 rfl (by decide) ?_
      refine ol_rekey 302 502 rfl (by decide) ?_
      refine ol_rekey 303 503 rfl (by decide) ?_
      refine ol_call rfl rfl cb54 rfl (fun w1 hb1 hs1 hB1 => ?_)
      refine Calls.mono (eff_NewBook _ _ _ zs _ (hz.at hb1 hB1)) ?_
      rintro e w2 hh
      rw [if_pos hz0] at hh
      obtain ⟨bb3, bm3, az3, nz3, cz3, rfl, hb2, hs2⟩ := hh
      refine After.more rfl hb1 hs1 hB1 hb2 (hs2.kle [(1001, 301), (1002, 302), (1003, 303)] (kle_cons rfl (Ent.le_refl _) (kle_cons rfl (Ent.le_refl _) (kle_cons rfl (Ent.le_refl _) kle_nil))) (by decide)) ?_
      clear hs2 hb2 hB1 hs1 hb1 w2 w1
      refine ol_r (r_move rfl) rfl ?_
      refine ol_r (r_extract rfl rfl) rfl ?_
      refine ol_r (r_extract rfl rfl) rfl ?_
      refine ol_r (r_assign rfl) rfl ?_
      refine ol_r (r_assign rfl) rfl ?_
      refine ol_nil (to_k0 (fun _ _ h => h) (hK34 _ _ _ _ _ ?_))
      clear hK34
      refine wp_seq' fun K35 hK35 => ?_
      refine wp_seq' fun K36 hK36 => ?_
      refine wp_reg ?_
      refine ol_r (r_move rfl) rfl ?_
      refine ol_r (r_neq rfl rfl) rfl ?_
      refine ol_nil (to_k0 (fun _ _ h => h) (hK36 _ _ _ _ _ ?_))
      clear hK36
      first | refine wp_condD rfl (fun hc139 => ?_) (fun hc139 => ?_) | refine wp_condN rfl (fun hc139 => ?_) (fun hc139 => ?_) | refine wp_condNB rfl (fun hc139 => ?_) (fun hc139 => ?_) | refine wp_cond' rfl (fun hc139 => ?_) (fun hc139 => ?_)
      ·refine wp_seq' fun K37 hK37 => ?_
       refine wp_reg ?_
       refine ol_r (r_assign rfl) rfl ?_
       refine ol_nil (to_k0 (fun _ _ h => h) (hK37 _ _ _ _ _ ?_))
       clear hK37
       refine hQ.ret (rvs1 (rv_t rfl)) (fun _ _ h => h) fun w hb hs hB hkd => ?_
       first
         | exact ⟨rfl, hb⟩
         | (exfalso; simp at hs124; done)
         | (exfalso; simp at hc131; done)
         | (exfalso; exact hc139 rfl)
         | (exfalso; simp at hs163; done)
      ·refine wp_skip' (to_k0 (fun _ _ h => h) (hK35 _ _ _ _ _ ?_))
       clear hK35
       refine wp_seq' fun K38 hK38 => ?_
       refine wp_reg ?_
       refine ol_r (r_move rfl) rfl ?_
       refine ol_call rfl rfl cb63 rfl (fun w1 hb1 hs1 hB1 => Calls.mono (eff_Names _ bb bm az nz cz zs D1 cur (hs1.bk1 hd.r1 hd.n1 (fun k hk => (hd.ok k hk).2.2.2) hd.ln 501 rfl rfl rfl (fun j e he => by simp only [List.cons_append, List.nil_append]; (repeat' refine (look_cons_ne _ _ (by omega)).trans ?_); exact look_tailE he))) ?_)
       rintro e w2 ⟨a141, n141, c141, rfl, hf141⟩
       refine After.fresh (id := 141) rfl hb1 hs1 hB1 hf141 ?_
       have hl141 := hf141.len; clear hf141 hB1 hs1 hb1 w2 w1
       refine ol_r (r_assign rfl) rfl ?_
       refine ol_nil (to_k0 (fun _ _ h => h) (hK38 _ _ _ _ _ ?_))
       clear hK38
       refine wp_seq' fun K39 hK39 => ?_
       refine wp_reg ?_
       have hn141 : n141 ≤ 5000 := by rw [← hl141, (ordBA_perm hd.n1).length_eq, pKeys, List.length_map]; exact hd.ln
       refine ol_r (r_move rfl) rfl ?_
       refine ol_call rfl rfl cb68 rfl (fun w1 hb1 hs1 hB1 => ?_)
       refine Calls.mono (rev_strT _ _ _ _ (ordBA (pKeys D1)) _ _ hl141 (by omega) hB1 (hs1.pack ([(141, _)]) [(501, _), (502, _), (503, _), (301, _), (302, _), (303, _), (401, _), (402, _), (403, _), (404, _), (39, _)] rows (has_cons rfl has_nil) (has_cons rfl (has_cons rfl (has_cons rfl (has_cons rfl (has_cons rfl (has_cons rfl (has_cons rfl (has_cons rfl (has_cons rfl (has_cons rfl (has_cons rfl has_nil))))))))))) (fun j e he => by simp only [List.cons_append, List.nil_append]; (repeat' refine (look_cons_ne _ _ (by omega)).trans ?_); exact look_tailE he) (by rfl) (show List.Nodup ([141, 501, 502, 503, 301, 302, 303, 401, 402, 403, 404, 39] : List Nat) by decide))) ?_
       rintro e w2 ⟨rfl, hbw, hs2, hB2, hkd2⟩
       refine After.sat rfl hb1 hbw (Hx.Sat.unpack _ [(501, _), (502, _), (503, _), (301, _), (302, _), (303, _), (401, _), (402, _), (403, _), (404, _), (39, _)] rows hs2 (by rfl)) hB2 (hkd2.imp fun _ h => h.elim) ?_
       clear hkd2 hB2 hs2 hbw hB1 hs1 hb1 w2 w1
       refine ol_nil (to_k0 (fun _ _ h => h) (hK39 _ _ _ _ _ ?_))
       clear hK39
       refine wp_seq' fun K40 hK40 => ?_
       refine wp_seq' fun K41 hK41 => ?_
       refine wp_reg ?_
       have hrl : (ordBA (pKeys D1)).reverse.length = n141 := by rw [List.length_reverse]; exact hl141
       have hrn : (ordBA (pKeys D1)).reverse.Nodup := List.pairwise_reverse.2 ((up_nodup (ordBA_up _)).imp fun h => Ne.symm h)
       refine ol_r (r_move rfl) rfl ?_
       refine ol_r (r_len rfl sl49) rfl ?_
       refine ol_r (r_move rfl) rfl ?_
       refine ol_nil (to_k0 (fun _ _ h => h) (hK41 _ _ _ _ _ ?_))
       clear hK41
       refine wp_block' ?_
       apply wp_loopT (σ := Nat × DM × List Ent) (fun s => s.1 ≤ n141 ∧ pKeys s.2.1 = (ordBA (pKeys D1)).reverse.take s.1 ∧ InR s.2.2 s.2.1 cur ∧ InR s.2.2 D1 cur) (fun s => [(146, .int .i64 s.1)]) [(5, _), (9, _), (19, _), (144, _), (145, _)] (fun s => [(302, .ob bm3 (MapO (pEnc Value.string slV s.2.1))), (502, .ob bm (MapO (pEnc Value.string slV D1)))]) [(39, _), (141, _), (301, _), (303, _), (401, _), (402, _), (403, _), (404, _), (501, _), (503, _)] (fun s => tailE 1500 s.2.2) (fun s => n141 - s.1) ((0, [], rows))
       ·try dsimp only
        exact ⟨Nat.zero_le _, rfl, fun x h => (by cases h), hd.r1⟩
       ·exact (sub_cons rfl sub_nil)
       ·exact (sub_cons rfl (sub_cons rfl (sub_cons rfl (sub_cons rfl (sub_cons rfl sub_nil)))))
       ·exact (subH_same rfl (subH_same rfl subH_nil))
       ·exact (subH_same rfl (subH_same rfl (subH_same rfl (subH_same rfl (subH_same rfl (subH_same rfl (subH_same rfl (subH_same rfl (subH_same rfl (subH_same rfl subH_nil))))))))))
       ·refine subH_tailE fun j x hj => ?_
        simp only [List.cons_append, List.nil_append]
        repeat' refine (look_cons_ne _ _ (by omega)).trans ?_
        exact look_tailE hj
       ·rintro ⟨i, Dc, rs⟩ ⟨hi, hkc, hrc, hr1⟩
        dsimp only at hi hkc hrc hr1 ⊢
        have hlc : Dc.length = i := by
          have := congrArg List.length hkc
          rw [pKeys, List.length_map, List.length_take] at this
          omega
        intro K42 hK42
        refine wp_seq' fun K43 hK43 => ?_
        refine wp_reg ?_
        refine ol_r (r_lss rfl rfl) rfl ?_
        refine ol_nil (to_k0 (fun _ _ h => h) (hK43 _ _ _ _ _ ?_))
        clear hK43
        refine wp_seq' fun K44 hK44 => ?_
        first | refine wp_condD rfl (fun hc147 => ?_) (fun hc147 => ?_) | refine wp_condN rfl (fun hc147 => ?_) (fun hc147 => ?_) | refine wp_condNB rfl (fun hc147 => ?_) (fun hc147 => ?_) | refine wp_cond' rfl (fun hc147 => ?_) (fun hc147 => ?_)
        ·refine wp_skip' (to_k0 (fun _ _ h => h) (hK44 _ _ _ _ _ ?_))
         clear hK44
         refine wp_seq' fun K45 hK45 => ?_
         refine wp_block' ?_
         refine wp_seq' fun K46 hK46 => ?_
         refine wp_reg ?_
         refine ol_ixo (id := 141) encStr _ rfl rfl rfl rfl sl49 (by omega) rfl fun x148 hx148 => ?_
         try simp only [Int.toNat_natCast] at hx148
         try simp only [Int.toNat_natCast] at hx148
         have hnm : x148 ∈ pKeys D1 := mem_ordBA.1 (List.mem_reverse.1 (List.mem_of_getElem? hx148))
         obtain ⟨v, hv1, hv2, hv3⟩ := hd.kL _ hnm
         have hok := hd.ok _ hnm
         have hno : x148 ∉ pKeys Dc := by
           rw [hkc]
           exact not_take hrn hx148
         have hnc : (pO Dc x148).isSome = false := by
           cases h : (pO Dc x148).isSome with
           | false => rfl
           | true => exact (hno (isSome_mem.1 h)).elim
         have h0 : addR (pO Dc x148).isSome Dc.length zs x148 (cur x148) = 0 := addR_0 hok.1 (fun h => h hok.2.1) hok.2.2.1 hnc (by omega)
         refine ol_r (r_ldw rfl (fun w1 hb1 hs1 hB1 => ld_own (id := 141) hs1 rfl rfl ty9 hx148)) rfl ?_
         refine ol_r (r_assign rfl) rfl ?_
         refine ol_nil (to_k0 (fun _ _ h => h) (hK46 _ _ _ _ _ ?_))
         clear hK46
         refine wp_seq' fun K47 hK47 => ?_
         refine wp_reg ?_
         refine ol_r (r_move rfl) rfl ?_
         refine ol_r (r_move rfl) rfl ?_
         refine ol_r (r_move rfl) rfl ?_
         refine ol_r (r_move rfl) rfl ?_
         refine ol_r (Runs.val (show slV ((pO L x148).getD nilS) = .slice v.1 v.2.1 v.2.2 by rw [hv1]; rfl) (r_look1 (K := Value.string) (V := slV) (z := nilS) (k := x148) (id := 39) rfl rfl rfl mk81)) rfl ?_
         refine ol_call rfl rfl cb56 rfl (fun w1 hb1 hs1 hB1 => ?_)
         refine Calls.mono (eff_Add2 _ _ _ rs bb3 bm3 az3 nz3 cz3 zs Dc x148 _ _ _ (cur x148) hB1 (hv2.below hb1) hv3 hok.2.2.2 (by omega) (hs1.pack (own1 bb3 bm3 az3 nz3 cz3 zs Dc) [(501, _), (502, _), (503, _), (401, _), (402, _), (403, _), (404, _), (39, _), (141, _)] rs (has_cons rfl (has_cons rfl (has_cons rfl has_nil))) (has_cons rfl (has_cons rfl (has_cons rfl (has_cons rfl (has_cons rfl (has_cons rfl (has_cons rfl (has_cons rfl (has_cons rfl has_nil))))))))) (fun j e he => by simp only [List.cons_append, List.nil_append]; (repeat' refine (look_cons_ne _ _ (by omega)).trans ?_); exact look_tailE he) (by rfl) (show List.Nodup ([301, 302, 303, 501, 502, 503, 401, 402, 403, 404, 39, 141] : List Nat) by decide))) ?_
         rintro e w2 ⟨rfl, hbw, ⟨Dc', rs', hA, hs2⟩, hB2, hkd2⟩
         obtain ⟨a1, c1, rfl, rfl⟩ := hA.yes h0
         refine After.sat rfl hb1 hbw (Hx.Sat.unpack _ [(501, _), (502, _), (503, _), (401, _), (402, _), (403, _), (404, _), (39, _), (141, _)] _ hs2 (by rfl)) hB2 hkd2 ?_
         clear hkd2 hB2 hs2 hbw hB1 hs1 hb1 w2 w1
         refine ol_r (r_neq rfl rfl) rfl ?_
         refine ol_nil (to_k0 (fun _ _ h => h) (hK47 _ _ _ _ _ ?_))
         clear hK47
         first | refine wp_condD rfl (fun hc156 => ?_) (fun hc156 => ?_) | refine wp_condN rfl (fun hc156 => ?_) (fun hc156 => ?_) | refine wp_condNB rfl (fun hc156 => ?_) (fun hc156 => ?_) | refine wp_cond' rfl (fun hc156 => ?_) (fun hc156 => ?_)
         ·exfalso
          exact hc156 h0
         ·refine wp_skip' (to_k0 (fun _ _ h => h) (hK45 _ _ _ _ _ ?_))
          clear hK45
          refine wp_reg ?_
          refine ol_r (r_add rfl rfl (by omega)) rfl ?_
          refine ol_r (r_move rfl) rfl ?_
          refine ol_nil (to_k0 (fun _ _ h => h) (hK42 ((i + 1, Hx.pS Dc x148 (a1, (cur x148).length, c1), rs ++ [rowB a1 c1 (cur x148)])) _ _ ?_ ?_ (sub_cons rfl sub_nil) (sub_cons rfl (sub_cons rfl (sub_cons rfl (sub_cons rfl (sub_cons rfl sub_nil))))) (by exact (subH_same rfl (subH_same rfl subH_nil))) (subH_same rfl (subH_same rfl (subH_same rfl (subH_same rfl (subH_same rfl (subH_same rfl (subH_same rfl (subH_same rfl (subH_same rfl (subH_same rfl subH_nil)))))))))) ?_))
          ·try dsimp only
           refine ⟨by omega, by rw [pKeys_no hno, take_succ_get hx148, hkc], ?_, hr1.more⟩
           have := InR.add (cs := cur x148) (a := a1) (c := c1) hrc hno
           rwa [upC_self] at this
          ·try dsimp only
           omega
          ·try dsimp only
           refine subH_tailE fun j x hj => ?_
           simp only [List.cons_append, List.nil_append]
           repeat' refine (look_cons_ne _ _ (by omega)).trans ?_
           exact look_tailE hj
        ·refine wp_exit' (to_k0 (fun _ _ h => h) (hK40 _ _ _ _ _ ?_))
         clear hK40
         refine wp_seq' fun K48 hK48 => ?_
         refine wp_reg ?_
         have hin : (ordBA (pKeys D1)).reverse.take i = (ordBA (pKeys D1)).reverse := List.take_of_length_le (by omega)
         rw [hin] at hkc
         have hmk : ∀ x, x ∈ pKeys Dc ↔ x ∈ pKeys D1 := fun x => by rw [hkc, List.mem_reverse, mem_ordBA]
         have hke : ordBA (pKeys Dc) = ordBA (pKeys D1) := ordBA_cong hmk
         refine ol_r (r_move rfl) rfl ?_
         refine ol_call rfl rfl cb66 rfl (fun w1 hb1 hs1 hB1 => Calls.mono (eff_Holders _ bb bm az nz cz zs D1 cur (hs1.bk1 hr1 hd.n1 (fun k hk => (hd.ok k hk).2.2.2) hd.ln 501 rfl rfl rfl (fun j e he => by simp only [List.cons_append, List.nil_append]; (repeat' refine (look_cons_ne _ _ (by omega)).trans ?_); exact look_tailE he)) hzl hd.cl) ?_)
         rintro e w2 ⟨a159, n159, c159, rfl, hf159⟩
         refine After.fresh (id := 159) rfl hb1 hs1 hB1 hf159 ?_
         have hl159 := hf159.len; clear hf159 hB1 hs1 hb1 w2 w1
         refine ol_r (r_move rfl) rfl ?_
         refine ol_call rfl rfl cb66 rfl (fun w1 hb1 hs1 hB1 => Calls.mono (eff_Holders2 hke _ bb3 bm3 az3 nz3 cz3 zs cur (hs1.bk1 hrc (by rw [hkc]; exact hrn) (fun k hk => (hd.ok k ((hmk k).1 hk)).2.2.2) (by omega) 301 rfl rfl rfl (fun j e he => by simp only [List.cons_append, List.nil_append]; (repeat' refine (look_cons_ne _ _ (by omega)).trans ?_); exact look_tailE he)) hzl (fun k hk => hd.cl k ((hmk k).1 hk))) ?_)
         rintro e w2 ⟨a161, n161, c161, rfl, hf161⟩
         refine After.fresh (id := 161) rfl hb1 hs1 hB1 hf161 ?_
         have hl161 := hf161.len; clear hf161 hB1 hs1 hb1 w2 w1
         obtain rfl : n159 = n161 := by rw [← hl159, ← hl161]
         refine ol_call rfl rfl cb65 rfl (fun w1 hb1 hs1 hB1 => Calls.mono (equal_hold_same _ _ _ _ _ (holdK cur (ordBA (pKeys D1)) zs zs.length) _ (Sat.rd hs1 (id := 159) rfl rfl) (Sat.rd hs1 (id := 161) rfl rfl)) ?_)
         rintro e w2 ⟨rfl, hb2⟩
         refine After.below rfl hb1 hs1 hB1 hb2 ?_
         clear hb2 hB1 hs1 hb1 w2 w1
         refine ol_r (r_move rfl) rfl ?_
         refine ol_split (d := 163) rfl (fun hs163 => ?_) (fun hs163 => ?_)
         ·have phs163 := hs163; try simp only [decide_eq_true_eq, decide_eq_false_iff_not, Bool.not_eq_true', Bool.not_eq_false', Bool.not_true, Bool.not_false] at phs163
          refine ol_g rfl rfl hs163 ?_
          refine ol_call rfl rfl cb16 rfl (fun w1 hb1 hs1 hB1 => Calls.mono (effort_told _) ?_)
          rintro e w2 ⟨rfl, hb2⟩
          refine After.below rfl hb1 hs1 hB1 hb2 ?_
          clear hb2 hB1 hs1 hb1 w2 w1
          refine ol_r (r_pickT rfl hs163 rfl) rfl ?_
          refine ol_r (r_assign rfl) rfl ?_
          refine ol_nil (to_k0 (fun _ _ h => h) (hK48 _ _ _ _ _ ?_))
          clear hK48
          refine hQ.ret (rvs1 (rv_t rfl)) (fun _ _ h => h) fun w hb hs hB hkd => ?_
          first
            | exact ⟨rfl, hb⟩
            | (exfalso; simp at hs124; done)
            | (exfalso; simp at hc131; done)
            | (exfalso; exact hc139 rfl)
            | (exfalso; simp at hs163; done)
         ·have phs163 := hs163; try simp only [decide_eq_true_eq, decide_eq_false_iff_not, Bool.not_eq_true', Bool.not_eq_false', Bool.not_true, Bool.not_false] at phs163
          refine ol_s rfl rfl hs163 rfl ?_
          refine ol_r (r_pickF rfl hs163 rfl) rfl ?_
          refine ol_r (r_assign rfl) rfl ?_
          refine ol_nil (to_k0 (fun _ _ h => h) (hK48 _ _ _ _ _ ?_))
          clear hK48
          refine hQ.ret (rvs1 (rv_t rfl)) (fun _ _ h => h) fun w hb hs hB hkd => ?_
          first
            | exact ⟨rfl, hb⟩
            | (exfalso; simp at hs124; done)
            | (exfalso; simp at hc131; done)
            | (exfalso; exact hc139 rfl)
            | (exfalso; simp at hs163; done)
theorem law_book (a : Option Addr) (n c : Nat) (zs : List Int) (b : Option Addr) (m d : Nat) (xs : List CallV) (w : World) (hz : Rd encI w.heap.size w a n c zs) (hc : Rd encCall w.heap.size w b m d xs) (hx : ∀ x ∈ xs, x.Ok w.heap.size w) :
    Calls Try.prog 13 #[.slice a n c, .slice b m d] w fun e w' => e = .returned (.bool true) ∧ Below w.heap.size w w' := by
  by_cases h : sizesC zs = 0
  · exact law_bookG a n c zs b m d xs w hz hc hx h
  · exact law_bookE a n c zs b m d xs w hz h
end Go.Proofs.Ytafkojlccknicaa

/-
  Calls among the arguments, opened, and how large their curves can be.
-/


namespace Go.Proofs.Ytafkojlccknicaa
open Go Hx Go.ChangeShapes Go.WideShapes Go.ChangeAt Go.RowKit
set_option linter.unusedVariables false
set_option maxRecDepth 8000
section
variable {H : Type} {enc : TypeId × Value → H} {W : World} {base : Nat} {sp : Nat → Bool} {held : Bool}
theorem weightsAll_mem {P : Program} {e : TypeId} {d : DataW H} {m : Nat} (hm : m ∈ d.weights P e) : ∀ {ds : List (DataW H)}, d ∈ ds → m ∈ DataW.weightsAll P e ds
  | [], h => by cases h
  | y :: r, h => by
    unfold DataW.weightsAll
    rcases List.mem_cons.1 h with rfl | h
    · exact List.mem_append_left _ hm
    · exact List.mem_append_right _ (weightsAll_mem hm h)
/-- A slice, opened, if its elements can be that weigh no more than the slice does. -/
theorem open_rowsW {α : Type} (E : Enc α) (p : α → Prop) {P : Program} {fuel : Nat} {t e : TypeId} {cs : List Value} {x : DataW H × List MemPlace} (ht : P.underlying t = some (.slice e)) (hc : P.cellsOf e = E.size)
    (hE : ∀ n cs (x : DataW H × List MemPlace), DataW.trod enc P W base sp held n e cs = some x → (∀ m ∈ x.1.weights P e, m ≤ reachBytes) → ∃ y : α, cs = E.cells y ∧ p y) (h : DataW.trod enc P W base sp held fuel t cs = some x) (hw : ∀ m ∈ x.1.weights P t, m ≤ reachBytes) :
    ∃ a n cap xs, cs = [.slice a n cap] ∧ Rd E W.heap.size W a n cap xs ∧ ∀ y ∈ xs, p y := by
  rcases Go.Deep.open_slice ht h with ⟨hcs, _⟩ | ⟨a, len, cap, m, n, D, Pl, hcs, _, hl, hm, hmm, hxx, hx⟩
  · exact ⟨none, 0, 0, [], hcs, Rd.nil, fun y hy => by simp at hy⟩
  · have hlm : len ≤ m := by rw [hmm]; split <;> omega
    have hwk : ∀ k, k < len → ∀ j ∈ (D k).weights P e, j ≤ reachBytes := fun k hk j hj => hw j (by
      rw [hxx]
      simp only [DataW.weights, ht]
      refine List.mem_cons_of_mem _ (List.mem_append_left _ (weightsAll_mem hj ?_))
      exact List.mem_map.2 ⟨k, List.mem_range.2 hk, rfl⟩)
    have key : ∀ k, k ≤ len → ∃ ys : List α, ys.length = k ∧ (∀ y ∈ ys, p y) ∧ ∀ (i : Nat) (y : α), ys[i]? = some y → W.cells? base (a.add (i * E.size)) E.size = some (E.cells y) := by
      intro k
      induction k with
      | zero => exact fun _ => ⟨[], rfl, fun y hy => by simp at hy, fun i y hy => by simp at hy⟩
      | succ k ih =>
        intro hk
        obtain ⟨ys, hy1, hyp, hy2⟩ := ih (by omega)
        obtain ⟨cs', h1, h2⟩ := hx k (by omega)
        obtain ⟨y, rfl, hpy⟩ := hE _ _ _ h2 (hwk k (by omega))
        rw [hc] at h1
        refine ⟨ys ++ [y], by simp [hy1], fun z hz => (by rcases List.mem_append.1 hz with h | h; exact hyp _ h; simp at h; subst h; exact hpy), fun i z hz => ?_⟩
        by_cases hi : i < ys.length
        · rw [List.getElem?_append_left hi] at hz; exact hy2 i z hz
        · have hik : i = k := by have := (List.getElem?_eq_some_iff.1 hz).1; simp at this; omega
          subst hik
          rw [List.getElem?_append_right (by omega)] at hz
          simp [hy1] at hz
          subst hz; exact h1
    obtain ⟨ys, hy1, hyp, hy2⟩ := key len (Nat.le_refl _)
    refine ⟨some a, len, cap, ys, hcs, ⟨hy1, by unfold maxLen at hm; omega, ⟨hl, by unfold maxLen at hm; omega⟩, fun i y hy => ?_⟩, hyp⟩
    obtain ⟨_, h1, h2⟩ := World.cells?_some (hy2 i y hy)
    have hpos := E.pos
    have hi : i < ys.length := (List.getElem?_eq_some_iff.1 hy).1
    have g0 : ys[0]? = some (ys[0]'(by omega)) := List.getElem?_eq_getElem (by omega)
    obtain ⟨_, g1, g2⟩ := World.cells?_some (hy2 0 _ g0)
    have g3 := g2 0 hpos
    have ha0 : (a.add (0 * E.size)).add 0 = a := by simp [Addr.add]
    rw [ha0, List.getElem?_eq_getElem (by omega)] at g3
    obtain ⟨b, off, spot⟩ := a
    have hspot : spot = none := by simpa using World.cell?_spot g3
    subst hspot
    have hadd : ∀ k, (Addr.add ⟨b, off, none⟩ (i * E.size)).add k = ⟨b, off + i * E.size + k, none⟩ := fun k => by rw [add_none, add_none]
    refine ⟨b, off, rfl, World.block_lt_of_cell? W _ g3, fun j u hu => ?_⟩
    have hj : j < E.size := by rw [← h1]; exact (List.getElem?_eq_some_iff.1 hu).1
    have := h2 j hj
    rw [hadd, hu] at this
    exact this
theorem cells_encBestR : ∀ n cs (x : DataW H × List MemPlace), DataW.trod enc Try.prog W base sp held n 24 cs = some x → ∃ y, cs = encBest.cells y := by
  intro n cs x h
  obtain ⟨hl, hv⟩ := leaves (ts := [3, 3, 3, 4]) 4 (by kernel_rfl) h
  match cs, hl with
  | [v0, v1, v2, v3], _ =>
    obtain ⟨a0, rfl, w0⟩ := (hv 0 3 v0 rfl rfl).int (k := .i64) Try.underlying3
    obtain ⟨a1, rfl, w1⟩ := (hv 1 3 v1 rfl rfl).int (k := .i64) Try.underlying3
    obtain ⟨a2, rfl, w2⟩ := (hv 2 3 v2 rfl rfl).int (k := .i64) Try.underlying3
    obtain ⟨a3, rfl⟩ := (hv 3 4 v3 rfl rfl).bool Try.underlying4
    exact ⟨⟨a0, a1, a2, a3⟩, rfl⟩
theorem cells_encCall : ∀ n cs (x : DataW H × List MemPlace), DataW.trod enc Try.prog W base sp held n 83 cs = some x → (∀ m ∈ x.1.weights Try.prog 83, m ≤ reachBytes) → ∃ y, cs = encCall.cells y ∧ y.Ok W.heap.size W := by
  intro n cs x h hw
  obtain ⟨hl, hv⟩ := leaves (ts := [3, 9, 3, 38]) 5 (by kernel_rfl) h
  match cs, hl with
  | [v0, v1, v2, v3], _ =>
    obtain ⟨a0, rfl, w0⟩ := (hv 0 3 v0 rfl rfl).int (k := .i64) Try.underlying3
    obtain ⟨a1, rfl, w1⟩ := (hv 1 9 v1 rfl rfl).string Try.underlying9
    obtain ⟨a2, rfl, w2⟩ := (hv 2 3 v2 rfl rfl).int (k := .i64) Try.underlying3
    obtain ⟨xs, n', _, rfl, hlen, hxl, hf⟩ := DataW.trod_struct Try.underlying83 h
    have h3 := hf 3 _ rfl
    match xs, hxl with
    | [x0, x1, x2, x3], _ =>
      have h4 : DataW.trod enc Try.prog W base sp held n' 38 [v3] = some x3 := h3
      obtain ⟨a, k, c, ys, hcs, hr⟩ := open_rows encBest Try.underlying38 (by kernel_rfl) cells_encBestR h4
      have hz := rows_size (a := a) (k := k) (c := c) Try.underlying38 h4 hcs (fun m hm => hw m (by
        show _ ∈ (DataW.agg [x0.1, x1.1, x2.1, x3.1]).weights Try.prog 83
        simp only [DataW.weights, Try.underlying83]
        exact DataW.weights_mem_each (j := 3) (t := 38) (d := x3.1) rfl rfl _ hm))
      cases hcs
      rw [show Try.prog.bytesOf 24 = 32 by kernel_rfl] at hz
      exact ⟨⟨a0, a1, a2, a, k, c, ys⟩, rfl, ⟨hr, by unfold reachBytes at hz; show k ≤ _; omega, w1⟩⟩
end
end Go.Proofs.Ytafkojlccknicaa
