/-
  Garages: eachPiece, with the function of Pieces. (Printed by gen_each.py.)
-/
import Derived.Laws.Bits64b
import Derived.Test.YtfbmkepogcimlaaXmA
import Derived.Test.YtfbmkepogcimlaaXmB
import Derived.Test.YtfbmkepogcimlaaXmC
import Derived.Test.YtfbmkepogcimlaaXmD


namespace Go.Proofs.Ytfbmkepogcimlaa
open Go Go.RowKit Hx
set_option linter.unusedVariables false
set_option linter.unusedSimpArgs false
set_option maxRecDepth 8000
theorem upH_tail (k : Nat) (q : List GMount) : ∀ (D : DM) (b : Nat), upH k (tailM b q D) = tailM (b + k) q D
  | [], b => rfl
  | x :: r, b => by
    rw [tailM, tailM, show b + k + 1 = b + 1 + k by omega, ← upH_tail k q r (b + 1)]; rfl
theorem subH_upTail {k b : Nat} {q : List GMount} {D : DM} {H' : HL} (h : SubH (tailM (b + k) q D) H') : SubH (upH k (tailM b q D)) H' := by rw [upH_tail]; exact h
theorem had_rd {B : Nat} {w : World} {H : HL} {q : List GMount} {D : DM} (hD : Had q D) (hs : Sat B w H) (hl : ∀ j x, D[j]? = some x → Hx.look H (1500 + j) = some (.row x.2.1 x.2.2.1 x.2.2.2 (encGMount.enc (mOf q x.1)) 155 4)) (key : ByteArray) : Rd encGMount w.heap.size w ((pO D key).getD nilS).1 ((pO D key).getD nilS).2.1 ((pO D key).getD nilS).2.2 (mOf q key) := by
  cases hk : kIdx (pKeys D) key with
  | some j =>
    obtain ⟨_, _, ⟨a, n, c⟩, h1, h2⟩ := pS_some hk
    rw [h1]
    exact hs.rd (hl j _ h2) rfl
  | none =>
    rw [(pS_none hk).2.2, hD.none (kIdx_none.1 hk)]
    have h3 := (hs.nilRow 7 155 4).rd (E := encGMount) (xs := []) (id := 7) (look_cons_eq _ _ _) rfl
    exact h3
theorem had_len {q : List GMount} {D : DM} (hD : Had q D) (key : ByteArray) : ((pO D key).getD nilS).2.1 ≤ q.length := by
  have h0 : (mOf q key).length ≤ q.length := List.length_filter_le _ _
  cases hk : kIdx (pKeys D) key with
  | some j =>
    obtain ⟨_, _, ⟨a, n, c⟩, h1, h2⟩ := pS_some hk
    rw [h1]
    have := hD.len _ (List.mem_of_getElem? h2)
    dsimp only at this
    simp only [Option.getD_some]; omega
  | none => rw [(pS_none hk).2.2]; simp
theorem After.moreT {P : Program} {N : Fr} {B : Nat} {w0 : World} {Q : Exit → Act → World → Prop} {al : AL} {H : HL} {ops rest : List Oper} {e : Ending} {w w' : World} {v : Value} {d id base : Nat} {en : Ent} {q : List GMount} {D : DM} (he : e = .returned v) (hw : Below B w0 w) (hs : Sat B w H) (hb : B ≤ w.heap.size) (hbl : Below w.heap.size w w')
    (h' : Sat w.heap.size w' ((id, en) :: tailM base q D)) (hid : id < base) (hH : ∀ i, base ≤ i → Hx.look H i = none) (k : OL P N B w0 ops rest Q ((d, v) :: al) ((id, en) :: (H ++ tailM base q D))) : After P N B w0 w ops rest Q al (some d) e w' := by
  have h2 := Sat.more hs hb (fun k hk => hbl.block k hk) h'
  refine ⟨v, _, he, hw.trans (hbl.mono hb), h2.cong fun i => ?_, Nat.le_trans hb hbl.size, Kd.of_below hbl, k⟩
  rw [List.cons_append]
  by_cases h1 : i = id
  · subst h1; rw [look_cons_eq, look_cons_eq]
  · rw [look_cons_ne _ _ (Ne.symm h1), look_cons_ne _ _ (Ne.symm h1), look_append, look_append]
    by_cases h3 : i < base
    · rw [look_tail_none (.inl h3)]
      cases Hx.look H i <;> rfl
    · rw [hH i (by omega)]
      cases Hx.look (tailM base q D) i <;> rfl
theorem slotP_yes {g : GarD} {u : GUse} {s : GSlot} (h : sEq s.rig u.rig = true) : slotP g u s = (piecesR u s.name (mOf g.ms s.name)).map (fun p => (u, p)) := by
  rw [slotP, if_pos (sEq_iff.1 h)]; rfl
theorem slotP_no {g : GarD} {u : GUse} {s : GSlot} (h : sEq s.rig u.rig = false) : slotP g u s = [] := by
  rw [slotP, if_neg (fun he => by rw [sEq_iff.2 he] at h; cases h)]
theorem pref_len {g : GarD} (hg : GarOk g) {i j k : Nat} {u : GUse} {s : GSlot} (hi : g.us[i]? = some u) : ((g.us.take i).flatMap (useP g) ++ (g.ss.take j).flatMap (slotP g u) ++ (slotP g u s).take k).length ≤ 2000904201 := by
  have h1 := allP_len hg i
  have hu := hg.use u (List.mem_of_getElem? hi)
  have h2 := useP_len hu hg.toGarL j
  have h3 := slotP_len (g := g) (s := s) hu hg.m
  rw [List.length_append, List.length_append, List.length_take]
  omega
theorem pref_each {g : GarD} (hg : GarOk g) {i j k : Nat} {u : GUse} {s : GSlot} (hi : g.us[i]? = some u) : ∀ x ∈ (g.us.take i).flatMap (useP g) ++ (g.ss.take j).flatMap (slotP g u) ++ (slotP g u s).take k, PcOk x := by
  have hu := hg.use u (List.mem_of_getElem? hi)
  intro x hx
  rcases List.mem_append.1 hx with hx | hx
  · rcases List.mem_append.1 hx with hx | hx
    · obtain ⟨v, hv, hx⟩ := List.mem_flatMap.1 hx
      exact (useP_each (hg.use v (List.mem_of_mem_take hv)) x hx).2.1
    · obtain ⟨v, hv, hx⟩ := List.mem_flatMap.1 hx
      have := slotP_each hu x hx
      exact ⟨this.2.1, this.2.2.1⟩
  · have := slotP_each hu x (List.mem_of_mem_take hx)
    exact ⟨this.2.1, this.2.2.1⟩
theorem cb_P (B b5 : Nat) (a : Option Addr) (n c : Nat) (xs : List GPiece) (u : GUse) (p : GPiece) (e1 e2 e3 e4 e5 e6 : Ent) (q : List GMount) (D : DM) (w : World) (hnx : n = xs.length) (hn : n ≤ 3000000000) (hB : B ≤ w.heap.size)
    (hs : Sat B w ([(501, .blk b5 [(0, .slice a n c)] 28), (502, .row a n c (encGPiece.enc xs) 36 5), (503, e6), (202, e1), (206, e2), (208, e3), (239, e4), (1201, e5)] ++ tailM 1700 q D)) :
    Calls Try.prog 30 #[encGUse.val u, encGPiece.val p, .pointer (some ⟨b5, 0, none⟩)] w fun e w' => ∃ a' n' c', e = .returned (.tuple #[]) ∧ Below B w w' ∧ Sat B w' ([(501, .blk b5 [(0, .slice a' n' c')] 28), (502, .row a' n' c' (encGPiece.enc (xs ++ [p])) 36 5), (503, e6), (202, e1), (206, e2), (208, e3), (239, e4), (1201, e5)] ++ tailM 1700 q D) ∧ B ≤ w'.heap.size ∧ Kd (fun _ => False) w w' ∧ n' = (xs ++ [p]).length := by
  refine enterQ (N := 9) (C := fun _ => False) (H := [(501, .blk b5 [(0, .slice a n c)] 28), (502, .row a n c (encGPiece.enc xs) 36 5), (503, e6), (202, e1), (206, e2), (208, e3), (239, e4), (1201, e5)] ++ tailM 1700 q D) (B := B) (args := [_, _, _]) Try.func30 rfl rfl rfl (hB) (hs) fun Q hQ => ?_
  refine wp_seq' fun K1 hK1 => ?_
  refine wp_reg ?_
  refine ol_box 3 rfl rfl rfl fun b3 => ?_
  refine ol_box 4 rfl rfl rfl fun b4 => ?_
  refine ol_nil (to_k0 (fun _ _ h => h) (hK1 _ _ _ _ _ ?_))
  clear hK1
  refine wp_reg ?_
  refine ol_r (r_ld (id := 501) rfl rfl rfl sc28) rfl ?_
  refine ol_r (r_lda (id := 4) (n := 5) rfl rfl rfl ag36) rfl ?_
  refine ol_bs1 7 rfl rfl rw28 rfl rfl rfl fun a7 => ?_
  refine ol_append1 (id := 502) (id2 := 7) rfl rfl rfl rfl rfl rw28 (by omega) rfl fun a8 c8 => ?_
  refine ol_store (id := 501) rfl rfl rfl rfl sz28 rfl rfl (by first | decide | exact Nat.zero_lt_succ _ | simp) ?_
  refine ol_nil (hQ.fall rvs0 (fun _ _ h => h) fun w hb hs hB hkd => ?_)
  exact ⟨_, _, _, rfl, hb, hs.sub (subH_blk rfl (sub_cons rfl sub_nil) (subH_row rfl (by rw [Enc.enc_append]; rfl) (subH_same rfl (subH_same rfl (subH_same rfl (subH_same rfl (subH_same rfl (subH_same rfl (subH_tail fun j x hj => by simp only [List.cons_append, List.nil_append]; (repeat' refine (look_cons_ne _ _ (by omega)).trans ?_); exact look_tail hj))))))))), hB, hkd, by rw [List.length_append, hnx]; rfl⟩
theorem each_P (G : GarV) (B : Nat) (b5 : Nat) (e6 : Ent) (w : World) (hG : G.Ok B w) (hg : GarOk G.toGarD) (hB : B ≤ w.heap.size)
    (hs : Sat B w [(301, .blk b5 [(0, .slice none 0 0)] 28), (302, .row none 0 0 (encGPiece.enc []) 36 5), (303, e6)]) :
    Calls Try.prog 29 #[.agg #[.slice G.pa G.pn G.pc, .slice G.sa G.sn G.sc, .slice G.ma G.mn G.mc, .slice G.ua G.un G.uc], .func (.func 30) #[] #[.pointer (some ⟨b5, 0, none⟩)]] w fun e w' => ∃ a n c, e = .returned (.tuple #[]) ∧ Below B w w' ∧ Sat B w' [(301, .blk b5 [(0, .slice a n c)] 28), (302, .row a n c (encGPiece.enc ((allP G.toGarD).map (·.2))) 36 5), (303, e6)] ∧ B ≤ w'.heap.size ∧ Kd (fun _ => False) w w' ∧ n = (allP G.toGarD).length := by
  have hsn := hG.s.len
  have hun := hG.u.len
  have hmn := hG.m.len
  have hl1 := hg.s
  have hl2 := hg.u
  have hl3 := hg.m
  have ef : G.toGarD.us = G.us := rfl
  refine enterQ (N := 52) (C := fun _ => False) (H := [(301, .blk b5 [(0, .slice none 0 0)] 28), (302, .row none 0 0 (encGPiece.enc []) 36 5), (303, e6)]) (B := B) (args := [_, _]) Try.func29 rfl rfl rfl (hB) (hs) fun Q hQ => ?_
  refine wp_seq' fun K1 hK1 => ?_
  refine wp_reg ?_
  refine ol_box 2 rfl rfl rfl fun b2 => ?_
  refine ol_nil (to_k0 (fun _ _ h => h) (hK1 _ _ _ _ _ ?_))
  clear hK1
  refine wp_seq' fun K2 hK2 => ?_
  refine wp_reg ?_
  refine ol_r (r_lda (id := 2) (n := 4) rfl rfl rfl ag27) rfl ?_
  refine ol_call rfl rfl cb62 rfl (fun w1 hb1 hs1 hB1 => ?_)
  refine Calls.mono (gear_had G _ (hG.at hb1 hB1) (by omega)) ?_
  rintro e w2 ⟨bm, D, rfl, hb2, hD, hs2⟩
  refine After.moreT rfl hb1 hs1 hB1 hb2 hs2 (by decide) (fun i hi => by (repeat' refine (look_cons_ne _ _ (by omega)).trans ?_); rfl) ?_
  clear hs2 hb2 hB1 hs1 hb1 w2 w1
  refine ol_r (r_assign rfl) rfl ?_
  refine ol_nil (to_k0 (fun _ _ h => h) (hK2 _ _ _ _ _ ?_))
  clear hK2
  refine wp_seq' fun K3 hK3 => ?_
  refine wp_reg ?_
  refine ol_r (r_fa (o' := 3) rfl fl27_3 rfl) rfl ?_
  refine ol_r (r_ld (id := 2) rfl rfl rfl sc25) rfl ?_
  refine ol_r (r_len rfl sl25) rfl ?_
  refine ol_r (r_move rfl) rfl ?_
  refine ol_nil (to_k0 (fun _ _ h => h) (hK3 _ _ _ _ _ ?_))
  clear hK3
  refine wp_block' ?_
  apply wp_loopT (σ := Nat × List GPiece × Option Addr × Nat × Nat) (fun s => s.1 ≤ G.un ∧ s.2.1 = ((G.us.take s.1).flatMap (useP G.toGarD)).map (·.2) ∧ s.2.2.2.1 = s.2.1.length) (fun s => [(16, .int .i64 s.1)]) [(1, _), (2, _), (4, _), (14, _), (15, _)] (fun s => [(301, .blk b5 [(0, .slice s.2.2.1 s.2.2.2.1 s.2.2.2.2)] 28), (302, .row s.2.2.1 s.2.2.2.1 s.2.2.2.2 (encGPiece.enc s.2.1) 36 5)]) [(2, _), (303, _), (1001, _)] (fun s => tailM 1500 G.ms D) (fun s => G.un - s.1) ((0, [], _, _, _))
  ·try dsimp only
   exact ⟨Nat.zero_le _, rfl, rfl⟩
  ·exact (sub_cons rfl sub_nil)
  ·exact (sub_cons rfl (sub_cons rfl (sub_cons rfl (sub_cons rfl (sub_cons rfl sub_nil)))))
  ·exact (subH_blk rfl (sub_cons rfl sub_nil) (subH_row rfl (by first | (dsimp only; rfl; done) | (rfl; done) | (dsimp only; done)) subH_nil))
  ·exact (subH_same rfl (subH_same rfl (subH_same rfl subH_nil)))
  ·refine subH_tail fun j x hj => ?_
   try simp only [List.cons_append, List.nil_append]
   repeat' refine (look_cons_ne _ _ (by omega)).trans ?_
   exact look_tail hj
  ·rintro ⟨i, y1, oai, mi, oci⟩ ⟨hi, hxi, hmi⟩
   dsimp only at hi hxi hmi ⊢
   intro K4 hK4
   refine wp_seq' fun K5 hK5 => ?_
   refine wp_reg ?_
   refine ol_r (r_lss rfl rfl) rfl ?_
   refine ol_nil (to_k0 (fun _ _ h => h) (hK5 _ _ _ _ _ ?_))
   clear hK5
   refine wp_seq' fun K6 hK6 => ?_
   first | refine wp_condD rfl (fun hc17 => ?_) (fun hc17 => ?_) | refine wp_condN rfl (fun hc17 => ?_) (fun hc17 => ?_) | refine wp_condNB rfl (fun hc17 => ?_) (fun hc17 => ?_) | refine wp_cond' rfl (fun hc17 => ?_) (fun hc17 => ?_)
   ·refine wp_skip' (to_k0 (fun _ _ h => h) (hK6 _ _ _ _ _ ?_))
    clear hK6
    refine wp_seq' fun K7 hK7 => ?_
    refine wp_block' ?_
    refine wp_seq' fun K8 hK8 => ?_
    refine wp_reg ?_
    refine ol_ixr hG.u rfl rfl sl25 (by omega) rfl fun x18 hx18 => ?_
    try simp only [Int.toNat_natCast] at hx18
    refine ol_r (r_ldw rfl (fun w1 hb1 hs1 hB1 => Rd.loads hG.u ty46 hx18 hb1)) rfl ?_
    refine ol_alloc 6 z46 rfl fun b6 => ?_
    refine ol_store (id := 6) rfl rfl rfl rfl sz46 rfl rfl (by first | decide | exact Nat.zero_lt_succ _ | simp) ?_
    refine ol_nil (to_k0 (fun _ _ h => h) (hK8 _ _ _ _ _ ?_))
    clear hK8
    refine wp_seq' fun K9 hK9 => ?_
    refine wp_reg ?_
    have hu := hg.use x18 (List.mem_of_getElem? hx18)
    refine ol_r (r_fa (o' := 1) rfl fl27_1 rfl) rfl ?_
    refine ol_r (r_ld (id := 2) rfl rfl rfl sc23) rfl ?_
    refine ol_r (r_len rfl sl23) rfl ?_
    refine ol_r (r_move rfl) rfl ?_
    refine ol_nil (to_k0 (fun _ _ h => h) (hK9 _ _ _ _ _ ?_))
    clear hK9
    refine wp_block' ?_
    apply wp_loopT (σ := Nat × List GPiece × Option Addr × Nat × Nat) (fun s => s.1 ≤ G.sn ∧ s.2.1 = ((G.us.take i).flatMap (useP G.toGarD) ++ (G.ss.take s.1).flatMap (slotP G.toGarD x18)).map (·.2) ∧ s.2.2.2.1 = s.2.1.length) (fun s => [(23, .int .i64 s.1)]) [(1, _), (2, _), (4, _), (6, _), (14, _), (15, _), (16, _), (21, _), (22, _)] (fun s => [(301, .blk b5 [(0, .slice s.2.2.1 s.2.2.2.1 s.2.2.2.2)] 28), (302, .row s.2.2.1 s.2.2.2.1 s.2.2.2.2 (encGPiece.enc s.2.1) 36 5)]) [(2, _), (6, _), (303, _), (1001, _)] (fun s => tailM 1500 G.ms D) (fun s => G.sn - s.1) ((0, y1, _, _, _))
    ·try dsimp only
     exact ⟨Nat.zero_le _, by rw [hxi]; simp, hmi⟩
    ·exact (sub_cons rfl sub_nil)
    ·exact (sub_cons rfl (sub_cons rfl (sub_cons rfl (sub_cons rfl (sub_cons rfl (sub_cons rfl (sub_cons rfl (sub_cons rfl (sub_cons rfl sub_nil)))))))))
    ·exact (subH_blk rfl (sub_cons rfl sub_nil) (subH_row rfl (by first | (dsimp only; rfl; done) | (rfl; done) | (dsimp only; done)) subH_nil))
    ·exact (subH_same rfl (subH_same rfl (subH_same rfl (subH_same rfl subH_nil))))
    ·refine subH_tail fun j x hj => ?_
     try simp only [List.cons_append, List.nil_append]
     repeat' refine (look_cons_ne _ _ (by omega)).trans ?_
     exact look_tail hj
    ·rintro ⟨j, y2, oaj, mj, ocj⟩ ⟨hj, hxj, hmj⟩
     dsimp only at hj hxj hmj ⊢
     intro K10 hK10
     refine wp_seq' fun K11 hK11 => ?_
     refine wp_reg ?_
     refine ol_r (r_lss rfl rfl) rfl ?_
     refine ol_nil (to_k0 (fun _ _ h => h) (hK11 _ _ _ _ _ ?_))
     clear hK11
     refine wp_seq' fun K12 hK12 => ?_
     first | refine wp_condD rfl (fun hc24 => ?_) (fun hc24 => ?_) | refine wp_condN rfl (fun hc24 => ?_) (fun hc24 => ?_) | refine wp_condNB rfl (fun hc24 => ?_) (fun hc24 => ?_) | refine wp_cond' rfl (fun hc24 => ?_) (fun hc24 => ?_)
     ·refine wp_skip' (to_k0 (fun _ _ h => h) (hK12 _ _ _ _ _ ?_))
      clear hK12
      refine wp_seq' fun K13 hK13 => ?_
      refine wp_block' ?_
      refine wp_seq' fun K14 hK14 => ?_
      refine wp_reg ?_
      refine ol_ixr hG.s rfl rfl sl23 (by omega) rfl fun x25 hx25 => ?_
      try simp only [Int.toNat_natCast] at hx25
      refine ol_r (r_ldw rfl (fun w1 hb1 hs1 hB1 => Rd.loads hG.s ty34 hx25 hb1)) rfl ?_
      refine ol_alloc 8 z34 rfl fun b8 => ?_
      refine ol_store (id := 8) rfl rfl rfl rfl sz34 rfl rfl (by first | decide | exact Nat.zero_lt_succ _ | simp) ?_
      refine ol_nil (to_k0 (fun _ _ h => h) (hK14 _ _ _ _ _ ?_))
      clear hK14
      refine wp_seq' fun K15 hK15 => ?_
      refine wp_seq' fun K16 hK16 => ?_
      refine wp_reg ?_
      refine ol_r (r_fa (o' := 1) rfl fl34_1 rfl) rfl ?_
      refine ol_r (r_ld (id := 8) rfl rfl rfl sc9) rfl ?_
      refine ol_r (r_fa (o' := 1) rfl fl46_1 rfl) rfl ?_
      refine ol_r (r_ld (id := 6) rfl rfl rfl sc9) rfl ?_
      refine ol_r (r_sneq rfl rfl) rfl ?_
      refine ol_nil (to_k0 (fun _ _ h => h) (hK16 _ _ _ _ _ ?_))
      clear hK16
      first | refine wp_condD rfl (fun hc31 => ?_) (fun hc31 => ?_) | refine wp_condN rfl (fun hc31 => ?_) (fun hc31 => ?_) | refine wp_condNB rfl (fun hc31 => ?_) (fun hc31 => ?_) | refine wp_cond' rfl (fun hc31 => ?_) (fun hc31 => ?_)
      ·refine wp_exit' (to_k0 (fun _ _ h => h) (hK13 _ _ _ _ _ ?_))
       clear hK13
       refine wp_reg ?_
       refine ol_r (r_add rfl rfl (by omega)) rfl ?_
       refine ol_r (r_move rfl) rfl ?_
       refine ol_nil (to_k0 (fun _ _ h => h) (hK10 ((j + 1, y2, _, _, _)) _ _ ?_ ?_ (sub_cons rfl sub_nil) (sub_cons rfl (sub_cons rfl (sub_cons rfl (sub_cons rfl (sub_cons rfl (sub_cons rfl (sub_cons rfl (sub_cons rfl (sub_cons rfl sub_nil))))))))) (by exact (subH_blk rfl (sub_cons rfl sub_nil) (subH_row rfl (by first | (dsimp only; rfl; done) | (rfl; done) | (dsimp only; done)) subH_nil))) (subH_same rfl (subH_same rfl (subH_same rfl (subH_same rfl subH_nil)))) ?_))
       ·try dsimp only
        exact ⟨by omega, by rw [hxj, flatMap_take hx25, slotP_no hc31, List.append_nil], hmj⟩
       ·try dsimp only
        omega
       ·try dsimp only
        refine subH_tail fun j x hj => ?_
        try simp only [List.cons_append, List.nil_append]
        repeat' refine (look_cons_ne _ _ (by omega)).trans ?_
        exact look_tail hj
      ·refine wp_skip' (to_k0 (fun _ _ h => h) (hK15 _ _ _ _ _ ?_))
       clear hK15
       refine wp_seq' fun K17 hK17 => ?_
       refine wp_reg ?_
       refine ol_r (r_lda (id := 6) (n := 5) rfl rfl rfl ag46) rfl ?_
       refine ol_r (r_fa (o' := 0) rfl fl34_0 rfl) rfl ?_
       refine ol_r (r_ld (id := 8) rfl rfl rfl sc9) rfl ?_
       refine ol_r (r_move rfl) rfl ?_
       refine ol_r (r_fa (o' := 0) rfl fl34_0 rfl) rfl ?_
       refine ol_r (r_ld (id := 8) rfl rfl rfl sc9) rfl ?_
       refine ol_r (r_look1 (K := Value.string) (V := slV) (z := nilS) (id := 1001) rfl rfl rfl mk126) rfl ?_
       refine ol_call rfl rfl cb63 rfl (fun w1 hb1 hs1 hB1 => Calls.mono (gear_piecesOf x18 x25.name _ _ _ (mOf G.ms x25.name) _ (had_rd hD hs1 (fun j x hj => by simp only [List.cons_append, List.nil_append]; (repeat' refine (look_cons_ne _ _ (by omega)).trans ?_); exact look_tail hj) x25.name) hu (by have := had_len hD x25.name; omega)) ?_)
       rintro e w2 ⟨a39, n39, c39, rfl, hf39⟩
       refine After.fresh (id := 39) rfl hb1 hs1 hB1 hf39 ?_
       have hl39 := hf39.len; clear hf39 hB1 hs1 hb1 w2 w1
       refine ol_r (r_len rfl sl28) rfl ?_
       have hsl := slotP_yes (g := G.toGarD) (u := x18) (s := x25) hc31
       have hsll : (slotP G.toGarD x18 x25).length = n39 := by rw [hsl, List.length_map, ← hl39]
       have hsb := slotP_len (g := G.toGarD) (s := x25) hu hl3
       refine ol_r (r_move rfl) rfl ?_
       refine ol_nil (to_k0 (fun _ _ h => h) (hK17 _ _ _ _ _ ?_))
       clear hK17
       refine wp_block' ?_
       apply wp_loopT (σ := Nat × List GPiece × Option Addr × Nat × Nat) (fun s => s.1 ≤ n39 ∧ s.2.1 = ((G.us.take i).flatMap (useP G.toGarD) ++ (G.ss.take j).flatMap (slotP G.toGarD x18) ++ (slotP G.toGarD x18 x25).take s.1).map (·.2) ∧ s.2.2.2.1 = s.2.1.length) (fun s => [(41, .int .i64 s.1)]) [(1, _), (2, _), (4, _), (6, _), (14, _), (15, _), (16, _), (21, _), (22, _), (23, _), (39, _), (40, _)] (fun s => [(301, .blk b5 [(0, .slice s.2.2.1 s.2.2.2.1 s.2.2.2.2)] 28), (302, .row s.2.2.1 s.2.2.2.1 s.2.2.2.2 (encGPiece.enc s.2.1) 36 5)]) [(2, _), (6, _), (8, _), (39, _), (303, _), (1001, _)] (fun s => tailM 1500 G.ms D) (fun s => n39 - s.1) ((0, y2, _, _, _))
       ·try dsimp only
        exact ⟨Nat.zero_le _, by rw [hxj]; simp, hmj⟩
       ·exact (sub_cons rfl sub_nil)
       ·exact (sub_cons rfl (sub_cons rfl (sub_cons rfl (sub_cons rfl (sub_cons rfl (sub_cons rfl (sub_cons rfl (sub_cons rfl (sub_cons rfl (sub_cons rfl (sub_cons rfl (sub_cons rfl sub_nil))))))))))))
       ·exact (subH_blk rfl (sub_cons rfl sub_nil) (subH_row rfl (by first | (dsimp only; rfl; done) | (rfl; done) | (dsimp only; done)) subH_nil))
       ·exact (subH_same rfl (subH_same rfl (subH_same rfl (subH_same rfl (subH_same rfl (subH_same rfl subH_nil))))))
       ·refine subH_tail fun j x hj => ?_
        try simp only [List.cons_append, List.nil_append]
        repeat' refine (look_cons_ne _ _ (by omega)).trans ?_
        exact look_tail hj
       ·rintro ⟨r, y3, oar, mr, ocr⟩ ⟨hr, hxr, hmr⟩
        dsimp only at hr hxr hmr ⊢
        have hpl := pref_len hg (i := i) (j := j) (k := r) (s := x25) hx18
        have hpe := pref_each hg (i := i) (j := j) (k := r) (s := x25) hx18
        intro K18 hK18
        refine wp_seq' fun K19 hK19 => ?_
        refine wp_reg ?_
        refine ol_r (r_lss rfl rfl) rfl ?_
        refine ol_nil (to_k0 (fun _ _ h => h) (hK19 _ _ _ _ _ ?_))
        clear hK19
        refine wp_seq' fun K20 hK20 => ?_
        first | refine wp_condD rfl (fun hc42 => ?_) (fun hc42 => ?_) | refine wp_condN rfl (fun hc42 => ?_) (fun hc42 => ?_) | refine wp_condNB rfl (fun hc42 => ?_) (fun hc42 => ?_) | refine wp_cond' rfl (fun hc42 => ?_) (fun hc42 => ?_)
        ·refine wp_skip' (to_k0 (fun _ _ h => h) (hK20 _ _ _ _ _ ?_))
         clear hK20
         refine wp_seq' fun K21 hK21 => ?_
         refine wp_block' ?_
         refine wp_seq' fun K22 hK22 => ?_
         refine wp_reg ?_
         refine ol_ixo (id := 39) encGPiece _ rfl rfl rfl rfl sl28 (by omega) rfl fun x43 hx43 => ?_
         try simp only [Int.toNat_natCast] at hx43
         try simp only [Int.toNat_natCast] at hx43
         refine ol_r (r_ldw rfl (fun w1 hb1 hs1 hB1 => ld_own (id := 39) hs1 rfl rfl ty36 hx43)) rfl ?_
         refine ol_alloc 10 z36 rfl fun b10 => ?_
         refine ol_store (id := 10) rfl rfl rfl rfl sz36 rfl rfl (by first | decide | exact Nat.zero_lt_succ _ | simp) ?_
         refine ol_nil (to_k0 (fun _ _ h => h) (hK22 _ _ _ _ _ ?_))
         clear hK22
         refine wp_reg ?_
         refine ol_r (r_move rfl) rfl ?_
         refine ol_r (r_lda (id := 6) (n := 5) rfl rfl rfl ag46) rfl ?_
         refine ol_r (r_lda (id := 10) (n := 5) rfl rfl rfl ag36) rfl ?_
         refine ol_call rfl rfl cb30 rfl (fun w1 hb1 hs1 hB1 => ?_)
         refine Calls.mono (cb_P B b5 _ _ _ y3 x18 x43 _ _ _ _ _ _ G.ms D _ hmr (by rw [hmr, hxr, List.length_map]; omega) hB1 ((hs1.up 200).sub (subH_same rfl (subH_same rfl (subH_same rfl (subH_same rfl (subH_same rfl (subH_same rfl (subH_same rfl (subH_same rfl (subH_tail fun j x hj => by
             rw [show 1700 + j = (1500 + j) + 200 by omega, look_up]
             simp only [List.cons_append, List.nil_append]
             (repeat' refine (look_cons_ne _ _ (by omega)).trans ?_)
             exact look_tail hj))))))))))) ?_
         rintro e w2 ⟨a', n', c', rfl, hbw, hs2, hB2, hkd2, hnn⟩
         refine After.sat rfl hb1 hbw (hs2.down 200 (H' := (301, _) :: (302, _) :: (303, _) :: (2, _) :: (6, _) :: (8, _) :: (39, _) :: (1001, _) :: tailM 1500 G.ms D) (by
           refine subH_same rfl ?_
           refine subH_same rfl ?_
           refine subH_same rfl ?_
           refine subH_same rfl ?_
           refine subH_same rfl ?_
           refine subH_same rfl ?_
           refine subH_same rfl ?_
           refine subH_same rfl ?_
           refine subH_upTail (subH_tail fun j x hj => ?_)
           simp only [List.cons_append, List.nil_append]
           repeat' refine (look_cons_ne _ _ (by omega)).trans ?_
           exact look_tail hj)) hB2 hkd2 ?_
         clear hkd2 hB2 hs2 hbw hB1 hs1 hb1 w2 w1
         refine ol_nil (to_k0 (fun _ _ h => h) (hK21 _ _ _ _ _ ?_))
         clear hK21
         refine wp_reg ?_
         refine ol_r (r_add rfl rfl (by omega)) rfl ?_
         have hsl := slotP_yes (g := G.toGarD) (u := x18) (s := x25) hc31
         have hsll : (slotP G.toGarD x18 x25).length = n39 := by rw [hsl, List.length_map, ← hl39]
         have hsb := slotP_len (g := G.toGarD) (s := x25) hu hl3
         refine ol_r (r_move rfl) rfl ?_
         refine ol_nil (to_k0 (fun _ _ h => h) (hK18 ((r + 1, y3 ++ [x43], _, _, _)) _ _ ?_ ?_ (sub_cons rfl sub_nil) (sub_cons rfl (sub_cons rfl (sub_cons rfl (sub_cons rfl (sub_cons rfl (sub_cons rfl (sub_cons rfl (sub_cons rfl (sub_cons rfl (sub_cons rfl (sub_cons rfl (sub_cons rfl sub_nil)))))))))))) (by exact (subH_blk rfl (sub_cons rfl sub_nil) (subH_row rfl (by first | (dsimp only; rfl; done) | (rfl; done) | (dsimp only; done)) subH_nil))) (subH_same rfl (subH_same rfl (subH_same rfl (subH_same rfl (subH_same rfl (subH_same rfl subH_nil)))))) ?_))
         ·try dsimp only
          exact ⟨by omega, by rw [take_succ_get (show (slotP G.toGarD x18 x25)[r]? = some (x18, x43) by rw [hsl, List.getElem?_map, hx43]; rfl), ← List.append_assoc, List.map_append, ← hxr]; rfl, hnn⟩
         ·try dsimp only
          omega
         ·try dsimp only
          refine subH_tail fun j x hj => ?_
          try simp only [List.cons_append, List.nil_append]
          repeat' refine (look_cons_ne _ _ (by omega)).trans ?_
          exact look_tail hj
        ·refine wp_exit' (to_k0 (fun _ _ h => h) (hK13 _ _ _ _ _ ?_))
         clear hK13
         refine wp_reg ?_
         refine ol_r (r_add rfl rfl (by omega)) rfl ?_
         refine ol_r (r_move rfl) rfl ?_
         refine ol_nil (to_k0 (fun _ _ h => h) (hK10 ((j + 1, y3, _, _, _)) _ _ ?_ ?_ (sub_cons rfl sub_nil) (sub_cons rfl (sub_cons rfl (sub_cons rfl (sub_cons rfl (sub_cons rfl (sub_cons rfl (sub_cons rfl (sub_cons rfl (sub_cons rfl sub_nil))))))))) (by exact (subH_blk rfl (sub_cons rfl sub_nil) (subH_row rfl (by first | (dsimp only; rfl; done) | (rfl; done) | (dsimp only; done)) subH_nil))) (subH_same rfl (subH_same rfl (subH_same rfl (subH_same rfl subH_nil)))) ?_))
         ·try dsimp only
          exact ⟨by omega, by rw [hxr, List.take_of_length_le (l := slotP G.toGarD x18 x25) (by omega), flatMap_take hx25, List.append_assoc], hmr⟩
         ·try dsimp only
          omega
         ·try dsimp only
          refine subH_tail fun j x hj => ?_
          try simp only [List.cons_append, List.nil_append]
          repeat' refine (look_cons_ne _ _ (by omega)).trans ?_
          exact look_tail hj
     ·refine wp_exit' (to_k0 (fun _ _ h => h) (hK7 _ _ _ _ _ ?_))
      clear hK7
      refine wp_reg ?_
      refine ol_r (r_add rfl rfl (by omega)) rfl ?_
      refine ol_r (r_move rfl) rfl ?_
      refine ol_nil (to_k0 (fun _ _ h => h) (hK4 ((i + 1, y2, _, _, _)) _ _ ?_ ?_ (sub_cons rfl sub_nil) (sub_cons rfl (sub_cons rfl (sub_cons rfl (sub_cons rfl (sub_cons rfl sub_nil))))) (by exact (subH_blk rfl (sub_cons rfl sub_nil) (subH_row rfl (by first | (dsimp only; rfl; done) | (rfl; done) | (dsimp only; done)) subH_nil))) (subH_same rfl (subH_same rfl (subH_same rfl subH_nil))) ?_))
      ·try dsimp only
       exact ⟨by omega, by rw [hxj, List.take_of_length_le (l := G.ss) (by omega), flatMap_take hx18]; rfl, hmj⟩
      ·try dsimp only
       omega
      ·try dsimp only
       refine subH_tail fun j x hj => ?_
       try simp only [List.cons_append, List.nil_append]
       repeat' refine (look_cons_ne _ _ (by omega)).trans ?_
       exact look_tail hj
   ·refine wp_exit' (hQ.fall rvs0 (fun _ _ h => h) fun w hb hs hB hkd => ?_)
    obtain hi2 : i = G.us.length := by omega
    rw [hi2, List.take_length] at hxi
    have hxi : y1 = (allP G.toGarD).map (·.2) := hxi
    subst hxi
    exact ⟨_, _, _, rfl, hb, hs.sub (by repeat' first | exact subH_nil | refine subH_same rfl ?_), hB, hkd, by rw [hmi, List.length_map]⟩
end Go.Proofs.Ytfbmkepogcimlaa

/-
  Garages: eachPiece, with the function of wearOf. (Printed by gen_each.py.)
-/



namespace Go.Proofs.Ytfbmkepogcimlaa
open Go Go.RowKit Hx
set_option linter.unusedVariables false
set_option linter.unusedSimpArgs false
set_option maxRecDepth 8000
theorem WrB.le {n m : Int} {st : WS} (h : WrB n st) (hm : n ≤ m) : WrB m st := by
  obtain ⟨⟨a1, a2⟩, ⟨b1, b2⟩, c1, c2⟩ := h
  exact ⟨⟨a1, by omega⟩, ⟨b1, by omega⟩, c1, by omega⟩
section
variable (part : ByteArray) (fr to : Int) (st : WS) (u : GUse) (p : GPiece)
theorem wrS_1 (h : sEq p.part part = false) : wrS part fr to st (u, p) = st := if_pos (.inl fun he => by dsimp only at he; rw [sEq_iff.2 he] at h; cases h)
theorem wrS_2 (h : u.fr < fr) : wrS part fr to st (u, p) = st := if_pos (.inr (.inl h))
theorem wrS_3 (h : u.fr ≥ to) : wrS part fr to st (u, p) = st := if_pos (.inr (.inr h))
theorem wrS_4 (h : sEq p.part part = true) (h2 : ¬u.fr < fr) (h3 : ¬u.fr ≥ to) (h4 : sEq u.name st.2.2.2 = false) : wrS part fr to st (u, p) = (st.1 + p.sec, st.2.1 + p.way, st.2.2.1 + 1, u.name) := by
  have hn : u.name ≠ st.2.2.2 := fun he => by rw [sEq_iff.2 he] at h4; cases h4
  unfold wrS
  rw [if_neg (fun hh => by rcases hh with hh | hh | hh; exact hh (sEq_iff.1 h); exact h2 hh; exact h3 hh), if_pos hn, if_pos hn]
theorem wrS_5 (h : sEq p.part part = true) (h2 : ¬u.fr < fr) (h3 : ¬u.fr ≥ to) (h4 : sEq u.name st.2.2.2 = true) : wrS part fr to st (u, p) = (st.1 + p.sec, st.2.1 + p.way, st.2.2.1, st.2.2.2) := by
  unfold wrS
  rw [if_neg (fun hh => by rcases hh with hh | hh | hh; exact hh (sEq_iff.1 h); exact h2 hh; exact h3 hh), if_neg (fun hn => hn (sEq_iff.1 h4)), if_neg (fun hn => hn (sEq_iff.1 h4))]
end
theorem cb_W (B bp bf bt bw bl : Nat) (part : ByteArray) (fr to : Int) (st : WS) (u : GUse) (p : GPiece) (e1 e2 e3 e4 e5 e6 : Ent) (q : List GMount) (D : DM) (w : World) (hst : WrB 3000000000 st) (hp : PcOk (u, p)) (hB : B ≤ w.heap.size)
    (hs : Sat B w ([(501, .blk bp [(0, .string part)] 9), (502, .blk bf [(0, .int .i64 fr)] 3), (503, .blk bt [(0, .int .i64 to)] 3), (504, .blk bw [(0, .int .i64 (st).1), (1, .int .i64 (st).2.1), (2, .int .i64 (st).2.2.1)] 38), (505, .blk bl [(0, .string (st).2.2.2)] 9), (506, e6), (202, e1), (206, e2), (208, e3), (239, e4), (1201, e5)] ++ tailM 1700 q D)) :
    Calls Try.prog 68 #[encGUse.val u, encGPiece.val p, .pointer (some ⟨bp, 0, none⟩), .pointer (some ⟨bf, 0, none⟩), .pointer (some ⟨bt, 0, none⟩), .pointer (some ⟨bw, 0, none⟩), .pointer (some ⟨bl, 0, none⟩)] w fun e w' => e = .returned (.tuple #[]) ∧ Below B w w' ∧ Sat B w' ([(501, .blk bp [(0, .string part)] 9), (502, .blk bf [(0, .int .i64 fr)] 3), (503, .blk bt [(0, .int .i64 to)] 3), (504, .blk bw [(0, .int .i64 (wrS part fr to st (u, p)).1), (1, .int .i64 (wrS part fr to st (u, p)).2.1), (2, .int .i64 (wrS part fr to st (u, p)).2.2.1)] 38), (505, .blk bl [(0, .string (wrS part fr to st (u, p)).2.2.2)] 9), (506, e6), (202, e1), (206, e2), (208, e3), (239, e4), (1201, e5)] ++ tailM 1700 q D) ∧ B ≤ w'.heap.size ∧ Kd (fun _ => False) w w' := by
  obtain ⟨hb1, hb2, hb3⟩ := hst
  obtain ⟨hp1, hp2⟩ := hp
  dsimp only at hp1 hp2
  refine enterQ (N := 47) (C := fun _ => False) (H := [(501, .blk bp [(0, .string part)] 9), (502, .blk bf [(0, .int .i64 fr)] 3), (503, .blk bt [(0, .int .i64 to)] 3), (504, .blk bw [(0, .int .i64 (st).1), (1, .int .i64 (st).2.1), (2, .int .i64 (st).2.2.1)] 38), (505, .blk bl [(0, .string (st).2.2.2)] 9), (506, e6), (202, e1), (206, e2), (208, e3), (239, e4), (1201, e5)] ++ tailM 1700 q D) (B := B) (args := [_, _, _, _, _, _, _]) Try.func68 rfl rfl rfl (hB) (hs) fun Q hQ => ?_
  refine wp_seq' fun K1 hK1 => ?_
  refine wp_reg ?_
  refine ol_box 7 rfl rfl rfl fun b7 => ?_
  refine ol_box 8 rfl rfl rfl fun b8 => ?_
  refine ol_nil (to_k0 (fun _ _ h => h) (hK1 _ _ _ _ _ ?_))
  clear hK1
  refine wp_seq' fun K2 hK2 => ?_
  refine wp_seq' fun K3 hK3 => ?_
  refine wp_reg ?_
  refine ol_r (r_fa (o' := 2) rfl fl36_2 rfl) rfl ?_
  refine ol_r (r_ld (id := 8) rfl rfl rfl sc9) rfl ?_
  refine ol_r (r_ld (id := 501) rfl rfl rfl sc9) rfl ?_
  refine ol_r (r_sneq rfl rfl) rfl ?_
  refine ol_r (r_move rfl) rfl ?_
  refine ol_split (d := 13) rfl (fun hs13 => ?_) (fun hs13 => ?_)
  ·have phs13 := hs13; try simp only [decide_eq_true_eq, decide_eq_false_iff_not, Bool.not_eq_true', Bool.not_eq_false', Bool.not_true, Bool.not_false] at phs13
   refine ol_s rfl rfl hs13 rfl ?_
   refine ol_s rfl rfl hs13 rfl ?_
   refine ol_s rfl rfl hs13 rfl ?_
   refine ol_s rfl rfl hs13 rfl ?_
   refine ol_r (r_pickT rfl hs13 rfl) rfl ?_
   refine ol_r (r_move rfl) rfl ?_
   refine ol_s rfl rfl rfl rfl ?_
   refine ol_s rfl rfl rfl rfl ?_
   refine ol_s rfl rfl rfl rfl ?_
   refine ol_s rfl rfl rfl rfl ?_
   refine ol_r (r_pickT rfl rfl rfl) rfl ?_
   refine ol_nil (to_k0 (fun _ _ h => h) (hK3 _ _ _ _ _ ?_))
   clear hK3
   refine wp_condT rfl ?_
   refine hQ.ret rvs0 (fun _ _ h => h) fun w hb hs hB hkd => ?_
   first
     | (have hw := wrS_1 part fr to st u p phs13; rw [hw]; exact ⟨rfl, hb, hs.sub (subH_same rfl (subH_same rfl (subH_same rfl (subH_same rfl (subH_same rfl (subH_same rfl (subH_same rfl (subH_same rfl (subH_same rfl (subH_same rfl (subH_same rfl (subH_tail fun j x hj => by simp only [List.cons_append, List.nil_append]; (repeat' refine (look_cons_ne _ _ (by omega)).trans ?_); exact look_tail hj)))))))))))), hB, hkd⟩)
     | (have hw := wrS_2 part fr to st u p phs19; rw [hw]; exact ⟨rfl, hb, hs.sub (subH_same rfl (subH_same rfl (subH_same rfl (subH_same rfl (subH_same rfl (subH_same rfl (subH_same rfl (subH_same rfl (subH_same rfl (subH_same rfl (subH_same rfl (subH_tail fun j x hj => by simp only [List.cons_append, List.nil_append]; (repeat' refine (look_cons_ne _ _ (by omega)).trans ?_); exact look_tail hj)))))))))))), hB, hkd⟩)
     | (have hw := wrS_3 part fr to st u p hc24; rw [hw]; exact ⟨rfl, hb, hs.sub (subH_same rfl (subH_same rfl (subH_same rfl (subH_same rfl (subH_same rfl (subH_same rfl (subH_same rfl (subH_same rfl (subH_same rfl (subH_same rfl (subH_same rfl (subH_tail fun j x hj => by simp only [List.cons_append, List.nil_append]; (repeat' refine (look_cons_ne _ _ (by omega)).trans ?_); exact look_tail hj)))))))))))), hB, hkd⟩)
     | (have hw := wrS_4 part fr to st u p phs13 phs19 hc24 hc40; rw [hw]; exact ⟨rfl, hb, hs.sub (subH_same rfl (subH_same rfl (subH_same rfl (subH_blk rfl (sub_cons rfl (sub_cons rfl (sub_cons rfl sub_nil))) (subH_blk rfl (sub_cons rfl sub_nil) (subH_same rfl (subH_same rfl (subH_same rfl (subH_same rfl (subH_same rfl (subH_same rfl (subH_tail fun j x hj => by simp only [List.cons_append, List.nil_append]; (repeat' refine (look_cons_ne _ _ (by omega)).trans ?_); exact look_tail hj)))))))))))), hB, hkd⟩)
     | (have hw := wrS_5 part fr to st u p phs13 phs19 hc24 hc40; rw [hw]; exact ⟨rfl, hb, hs.sub (subH_same rfl (subH_same rfl (subH_same rfl (subH_blk rfl (sub_cons rfl (sub_cons rfl (sub_cons rfl sub_nil))) (subH_blk rfl (sub_cons rfl sub_nil) (subH_same rfl (subH_same rfl (subH_same rfl (subH_same rfl (subH_same rfl (subH_same rfl (subH_tail fun j x hj => by simp only [List.cons_append, List.nil_append]; (repeat' refine (look_cons_ne _ _ (by omega)).trans ?_); exact look_tail hj)))))))))))), hB, hkd⟩)
  ·have phs13 := hs13; try simp only [decide_eq_true_eq, decide_eq_false_iff_not, Bool.not_eq_true', Bool.not_eq_false', Bool.not_true, Bool.not_false] at phs13
   refine ol_g rfl rfl hs13 ?_
   refine ol_r (r_fa (o' := 2) rfl fl46_2 rfl) rfl ?_
   refine ol_g rfl rfl hs13 ?_
   refine ol_r (r_ld (id := 7) rfl rfl rfl sc3) rfl ?_
   refine ol_g rfl rfl hs13 ?_
   refine ol_r (r_ld (id := 502) rfl rfl rfl sc3) rfl ?_
   refine ol_g rfl rfl hs13 ?_
   refine ol_r (r_lss rfl rfl) rfl ?_
   refine ol_r (r_pickF rfl hs13 rfl) rfl ?_
   refine ol_r (r_move rfl) rfl ?_
   refine ol_split (d := 19) rfl (fun hs19 => ?_) (fun hs19 => ?_)
   ·have phs19 := hs19; try simp only [decide_eq_true_eq, decide_eq_false_iff_not, Bool.not_eq_true', Bool.not_eq_false', Bool.not_true, Bool.not_false] at phs19
    refine ol_s rfl rfl hs19 rfl ?_
    refine ol_s rfl rfl hs19 rfl ?_
    refine ol_s rfl rfl hs19 rfl ?_
    refine ol_s rfl rfl hs19 rfl ?_
    refine ol_r (r_pickT rfl hs19 rfl) rfl ?_
    refine ol_nil (to_k0 (fun _ _ h => h) (hK3 _ _ _ _ _ ?_))
    clear hK3
    refine wp_condT rfl ?_
    refine hQ.ret rvs0 (fun _ _ h => h) fun w hb hs hB hkd => ?_
    first
      | (have hw := wrS_1 part fr to st u p phs13; rw [hw]; exact ⟨rfl, hb, hs.sub (subH_same rfl (subH_same rfl (subH_same rfl (subH_same rfl (subH_same rfl (subH_same rfl (subH_same rfl (subH_same rfl (subH_same rfl (subH_same rfl (subH_same rfl (subH_tail fun j x hj => by simp only [List.cons_append, List.nil_append]; (repeat' refine (look_cons_ne _ _ (by omega)).trans ?_); exact look_tail hj)))))))))))), hB, hkd⟩)
      | (have hw := wrS_2 part fr to st u p phs19; rw [hw]; exact ⟨rfl, hb, hs.sub (subH_same rfl (subH_same rfl (subH_same rfl (subH_same rfl (subH_same rfl (subH_same rfl (subH_same rfl (subH_same rfl (subH_same rfl (subH_same rfl (subH_same rfl (subH_tail fun j x hj => by simp only [List.cons_append, List.nil_append]; (repeat' refine (look_cons_ne _ _ (by omega)).trans ?_); exact look_tail hj)))))))))))), hB, hkd⟩)
      | (have hw := wrS_3 part fr to st u p hc24; rw [hw]; exact ⟨rfl, hb, hs.sub (subH_same rfl (subH_same rfl (subH_same rfl (subH_same rfl (subH_same rfl (subH_same rfl (subH_same rfl (subH_same rfl (subH_same rfl (subH_same rfl (subH_same rfl (subH_tail fun j x hj => by simp only [List.cons_append, List.nil_append]; (repeat' refine (look_cons_ne _ _ (by omega)).trans ?_); exact look_tail hj)))))))))))), hB, hkd⟩)
      | (have hw := wrS_4 part fr to st u p phs13 phs19 hc24 hc40; rw [hw]; exact ⟨rfl, hb, hs.sub (subH_same rfl (subH_same rfl (subH_same rfl (subH_blk rfl (sub_cons rfl (sub_cons rfl (sub_cons rfl sub_nil))) (subH_blk rfl (sub_cons rfl sub_nil) (subH_same rfl (subH_same rfl (subH_same rfl (subH_same rfl (subH_same rfl (subH_same rfl (subH_tail fun j x hj => by simp only [List.cons_append, List.nil_append]; (repeat' refine (look_cons_ne _ _ (by omega)).trans ?_); exact look_tail hj)))))))))))), hB, hkd⟩)
      | (have hw := wrS_5 part fr to st u p phs13 phs19 hc24 hc40; rw [hw]; exact ⟨rfl, hb, hs.sub (subH_same rfl (subH_same rfl (subH_same rfl (subH_blk rfl (sub_cons rfl (sub_cons rfl (sub_cons rfl sub_nil))) (subH_blk rfl (sub_cons rfl sub_nil) (subH_same rfl (subH_same rfl (subH_same rfl (subH_same rfl (subH_same rfl (subH_same rfl (subH_tail fun j x hj => by simp only [List.cons_append, List.nil_append]; (repeat' refine (look_cons_ne _ _ (by omega)).trans ?_); exact look_tail hj)))))))))))), hB, hkd⟩)
   ·have phs19 := hs19; try simp only [decide_eq_true_eq, decide_eq_false_iff_not, Bool.not_eq_true', Bool.not_eq_false', Bool.not_true, Bool.not_false] at phs19
    refine ol_g rfl rfl hs19 ?_
    refine ol_r (r_fa (o' := 2) rfl fl46_2 rfl) rfl ?_
    refine ol_g rfl rfl hs19 ?_
    refine ol_r (r_ld (id := 7) rfl rfl rfl sc3) rfl ?_
    refine ol_g rfl rfl hs19 ?_
    refine ol_r (r_ld (id := 503) rfl rfl rfl sc3) rfl ?_
    refine ol_g rfl rfl hs19 ?_
    refine ol_r (r_geq rfl rfl) rfl ?_
    refine ol_r (r_pickF rfl hs19 rfl) rfl ?_
    refine ol_nil (to_k0 (fun _ _ h => h) (hK3 _ _ _ _ _ ?_))
    clear hK3
    first | refine wp_condD rfl (fun hc24 => ?_) (fun hc24 => ?_) | refine wp_condN rfl (fun hc24 => ?_) (fun hc24 => ?_) | refine wp_condNB rfl (fun hc24 => ?_) (fun hc24 => ?_) | refine wp_cond' rfl (fun hc24 => ?_) (fun hc24 => ?_)
    ·refine hQ.ret rvs0 (fun _ _ h => h) fun w hb hs hB hkd => ?_
     first
       | (have hw := wrS_1 part fr to st u p phs13; rw [hw]; exact ⟨rfl, hb, hs.sub (subH_same rfl (subH_same rfl (subH_same rfl (subH_same rfl (subH_same rfl (subH_same rfl (subH_same rfl (subH_same rfl (subH_same rfl (subH_same rfl (subH_same rfl (subH_tail fun j x hj => by simp only [List.cons_append, List.nil_append]; (repeat' refine (look_cons_ne _ _ (by omega)).trans ?_); exact look_tail hj)))))))))))), hB, hkd⟩)
       | (have hw := wrS_2 part fr to st u p phs19; rw [hw]; exact ⟨rfl, hb, hs.sub (subH_same rfl (subH_same rfl (subH_same rfl (subH_same rfl (subH_same rfl (subH_same rfl (subH_same rfl (subH_same rfl (subH_same rfl (subH_same rfl (subH_same rfl (subH_tail fun j x hj => by simp only [List.cons_append, List.nil_append]; (repeat' refine (look_cons_ne _ _ (by omega)).trans ?_); exact look_tail hj)))))))))))), hB, hkd⟩)
       | (have hw := wrS_3 part fr to st u p hc24; rw [hw]; exact ⟨rfl, hb, hs.sub (subH_same rfl (subH_same rfl (subH_same rfl (subH_same rfl (subH_same rfl (subH_same rfl (subH_same rfl (subH_same rfl (subH_same rfl (subH_same rfl (subH_same rfl (subH_tail fun j x hj => by simp only [List.cons_append, List.nil_append]; (repeat' refine (look_cons_ne _ _ (by omega)).trans ?_); exact look_tail hj)))))))))))), hB, hkd⟩)
       | (have hw := wrS_4 part fr to st u p phs13 phs19 hc24 hc40; rw [hw]; exact ⟨rfl, hb, hs.sub (subH_same rfl (subH_same rfl (subH_same rfl (subH_blk rfl (sub_cons rfl (sub_cons rfl (sub_cons rfl sub_nil))) (subH_blk rfl (sub_cons rfl sub_nil) (subH_same rfl (subH_same rfl (subH_same rfl (subH_same rfl (subH_same rfl (subH_same rfl (subH_tail fun j x hj => by simp only [List.cons_append, List.nil_append]; (repeat' refine (look_cons_ne _ _ (by omega)).trans ?_); exact look_tail hj)))))))))))), hB, hkd⟩)
       | (have hw := wrS_5 part fr to st u p phs13 phs19 hc24 hc40; rw [hw]; exact ⟨rfl, hb, hs.sub (subH_same rfl (subH_same rfl (subH_same rfl (subH_blk rfl (sub_cons rfl (sub_cons rfl (sub_cons rfl sub_nil))) (subH_blk rfl (sub_cons rfl sub_nil) (subH_same rfl (subH_same rfl (subH_same rfl (subH_same rfl (subH_same rfl (subH_same rfl (subH_tail fun j x hj => by simp only [List.cons_append, List.nil_append]; (repeat' refine (look_cons_ne _ _ (by omega)).trans ?_); exact look_tail hj)))))))))))), hB, hkd⟩)
    ·refine wp_skip' (to_k0 (fun _ _ h => h) (hK2 _ _ _ _ _ ?_))
     clear hK2
     refine wp_seq' fun K4 hK4 => ?_
     refine wp_rega [(999, [(7, _), (8, _), (202, _), (206, _), (208, _), (239, _), (501, _), (502, _), (503, _), (505, _), (506, _), (1201, _)]), (11, [(504, _)])] (by kernel_rfl) ⟨.inr (subH_same rfl (subH_same rfl (subH_same rfl (subH_same rfl (subH_same rfl (subH_same rfl (subH_same rfl (subH_same rfl (subH_same rfl (subH_same rfl (subH_same rfl (subH_same rfl subH_nil)))))))))))), ⟨.inr (subH_same rfl subH_nil), trivial⟩⟩ ?_
     refine aq_r 0 999 rfl (by kernel_rfl) (by kernel_rfl) (by kernel_rfl) (.head _) (by kernel_rfl) (by kernel_rfl) rfl (r_fa (o' := 0) rfl fl38_0 rfl) ?_
     refine aq_r 1 11 rfl (by kernel_rfl) (by kernel_rfl) (by kernel_rfl) (.tail _ (.head _)) (by kernel_rfl) (by kernel_rfl) rfl (r_ld (id := 504) rfl rfl rfl sc3) ?_
     refine aq_r 2 999 rfl (by kernel_rfl) (by kernel_rfl) (by kernel_rfl) (.head _) (by kernel_rfl) (by kernel_rfl) rfl (r_fa (o' := 3) rfl fl36_3 rfl) ?_
     refine aq_r 3 999 rfl (by kernel_rfl) (by kernel_rfl) (by kernel_rfl) (.head _) (by kernel_rfl) (by kernel_rfl) rfl (r_ld (id := 8) rfl rfl rfl sc3) ?_
     refine aq_r 4 999 rfl (by kernel_rfl) (by kernel_rfl) (by kernel_rfl) (.head _) (by kernel_rfl) (by kernel_rfl) rfl (r_add rfl rfl (by omega)) ?_
     refine aq_r 5 999 rfl (by kernel_rfl) (by kernel_rfl) (by kernel_rfl) (.head _) (by kernel_rfl) (by kernel_rfl) rfl (r_fa (o' := 1) rfl fl38_1 rfl) ?_
     refine aq_r 6 11 rfl (by kernel_rfl) (by kernel_rfl) (by kernel_rfl) (.tail _ (.head _)) (by kernel_rfl) (by kernel_rfl) rfl (r_ld (id := 504) rfl rfl rfl sc3) ?_
     refine aq_r 7 999 rfl (by kernel_rfl) (by kernel_rfl) (by kernel_rfl) (.head _) (by kernel_rfl) (by kernel_rfl) rfl (r_fa (o' := 4) rfl fl36_4 rfl) ?_
     refine aq_r 8 999 rfl (by kernel_rfl) (by kernel_rfl) (by kernel_rfl) (.head _) (by kernel_rfl) (by kernel_rfl) rfl (r_ld (id := 8) rfl rfl rfl sc3) ?_
     refine aq_r 9 999 rfl (by kernel_rfl) (by kernel_rfl) (by kernel_rfl) (.head _) (by kernel_rfl) (by kernel_rfl) rfl (r_add rfl rfl (by omega)) ?_
     refine aq_r 10 999 rfl (by kernel_rfl) (by kernel_rfl) (by kernel_rfl) (.head _) (by kernel_rfl) (by kernel_rfl) rfl (r_fa (o' := 0) rfl fl38_0 rfl) ?_
     refine aq_one (i := 11) (by kernel_rfl) rfl fun K5 hK5 => ?_
     refine ol_store (id := 504) rfl rfl rfl rfl sz3 rfl rfl (by first | decide | exact Nat.zero_lt_succ _ | simp) ?_
     refine ol_nil (to_k0 (fun _ _ h => h) (hK5 _ _ ⟨.inr (by repeat' first | exact subH_nil | refine subH_same rfl ?_ | (refine subH_blk rfl (by repeat' first | exact sub_nil | refine sub_cons rfl ?_) ?_)), ⟨.inl (by kernel_rfl), trivial⟩⟩ ?_))
     clear hK5
     refine aq_r 12 999 rfl (by kernel_rfl) (by kernel_rfl) (by kernel_rfl) (.head _) (by kernel_rfl) (by kernel_rfl) rfl (r_fa (o' := 1) rfl fl38_1 rfl) ?_
     refine aq_one (i := 13) (by kernel_rfl) rfl fun K6 hK6 => ?_
     refine ol_store (id := 504) rfl rfl rfl rfl sz3 rfl rfl (by first | decide | exact Nat.zero_lt_succ _ | simp) ?_
     refine ol_nil (to_k0 (fun _ _ h => h) (hK6 _ _ ⟨.inr (by repeat' first | exact subH_nil | refine subH_same rfl ?_ | (refine subH_blk rfl (by repeat' first | exact sub_nil | refine sub_cons rfl ?_) ?_)), ⟨.inl (by kernel_rfl), trivial⟩⟩ ?_))
     clear hK6
     refine aq_done (by kernel_rfl) ?_
     refine (to_k0 (fun _ _ h => h) (hK4 _ _ _ _ _ ?_))
     clear hK4
     refine wp_seq' fun K7 hK7 => ?_
     refine wp_reg ?_
     refine ol_r (r_fa (o' := 0) rfl fl46_0 rfl) rfl ?_
     refine ol_r (r_ld (id := 7) rfl rfl rfl sc9) rfl ?_
     refine ol_r (r_ld (id := 505) rfl rfl rfl sc9) rfl ?_
     refine ol_r (r_sneq rfl rfl) rfl ?_
     refine ol_nil (to_k0 (fun _ _ h => h) (hK7 _ _ _ _ _ ?_))
     clear hK7
     first | refine wp_condD rfl (fun hc40 => ?_) (fun hc40 => ?_) | refine wp_condN rfl (fun hc40 => ?_) (fun hc40 => ?_) | refine wp_condNB rfl (fun hc40 => ?_) (fun hc40 => ?_) | refine wp_cond' rfl (fun hc40 => ?_) (fun hc40 => ?_)
     ·refine wp_rega [(999, [(7, _), (8, _), (202, _), (206, _), (208, _), (239, _), (501, _), (502, _), (503, _), (506, _), (1201, _)]), (6, [(504, _)]), (7, [(505, _)])] (by kernel_rfl) ⟨.inr (subH_same rfl (subH_same rfl (subH_same rfl (subH_same rfl (subH_same rfl (subH_same rfl (subH_same rfl (subH_same rfl (subH_same rfl (subH_same rfl (subH_same rfl subH_nil))))))))))), ⟨.inr (subH_same rfl subH_nil), ⟨.inr (subH_same rfl subH_nil), trivial⟩⟩⟩ ?_
      refine aq_r 0 999 rfl (by kernel_rfl) (by kernel_rfl) (by kernel_rfl) (.head _) (by kernel_rfl) (by kernel_rfl) rfl (r_fa (o' := 2) rfl fl38_2 rfl) ?_
      refine aq_r 1 6 rfl (by kernel_rfl) (by kernel_rfl) (by kernel_rfl) (.tail _ (.head _)) (by kernel_rfl) (by kernel_rfl) rfl (r_ld (id := 504) rfl rfl rfl sc3) ?_
      refine aq_r 2 999 rfl (by kernel_rfl) (by kernel_rfl) (by kernel_rfl) (.head _) (by kernel_rfl) (by kernel_rfl) rfl (r_add rfl rfl (by omega)) ?_
      refine aq_r 3 999 rfl (by kernel_rfl) (by kernel_rfl) (by kernel_rfl) (.head _) (by kernel_rfl) (by kernel_rfl) rfl (r_fa (o' := 0) rfl fl46_0 rfl) ?_
      refine aq_r 4 999 rfl (by kernel_rfl) (by kernel_rfl) (by kernel_rfl) (.head _) (by kernel_rfl) (by kernel_rfl) rfl (r_ld (id := 7) rfl rfl rfl sc9) ?_
      refine aq_r 5 999 rfl (by kernel_rfl) (by kernel_rfl) (by kernel_rfl) (.head _) (by kernel_rfl) (by kernel_rfl) rfl (r_fa (o' := 2) rfl fl38_2 rfl) ?_
      refine aq_one (i := 6) (by kernel_rfl) rfl fun K8 hK8 => ?_
      refine ol_store (id := 504) rfl rfl rfl rfl sz3 rfl rfl (by first | decide | exact Nat.zero_lt_succ _ | simp) ?_
      refine ol_nil (to_k0 (fun _ _ h => h) (hK8 _ _ ⟨.inr (by repeat' first | exact subH_nil | refine subH_same rfl ?_ | (refine subH_blk rfl (by repeat' first | exact sub_nil | refine sub_cons rfl ?_) ?_)), ⟨.inl (by kernel_rfl), ⟨.inr (by repeat' first | exact subH_nil | refine subH_same rfl ?_ | (refine subH_blk rfl (by repeat' first | exact sub_nil | refine sub_cons rfl ?_) ?_)), trivial⟩⟩⟩ ?_))
      clear hK8
      refine aq_one (i := 7) (by kernel_rfl) rfl fun K9 hK9 => ?_
      refine ol_store (id := 505) rfl rfl rfl rfl sz9 rfl rfl (by first | decide | exact Nat.zero_lt_succ _ | simp) ?_
      refine ol_nil (to_k0 (fun _ _ h => h) (hK9 _ _ ⟨.inr (by repeat' first | exact subH_nil | refine subH_same rfl ?_ | (refine subH_blk rfl (by repeat' first | exact sub_nil | refine sub_cons rfl ?_) ?_)), ⟨.inl (by kernel_rfl), ⟨.inl (by kernel_rfl), trivial⟩⟩⟩ ?_))
      clear hK9
      refine aq_done (by kernel_rfl) ?_
      refine (hQ.fall rvs0 (fun _ _ h => h) fun w hb hs hB hkd => ?_)
      first
        | (have hw := wrS_1 part fr to st u p phs13; rw [hw]; exact ⟨rfl, hb, hs.sub (subH_same rfl (subH_same rfl (subH_same rfl (subH_same rfl (subH_same rfl (subH_same rfl (subH_same rfl (subH_same rfl (subH_same rfl (subH_same rfl (subH_same rfl (subH_tail fun j x hj => by simp only [List.cons_append, List.nil_append]; (repeat' refine (look_cons_ne _ _ (by omega)).trans ?_); exact look_tail hj)))))))))))), hB, hkd⟩)
        | (have hw := wrS_2 part fr to st u p phs19; rw [hw]; exact ⟨rfl, hb, hs.sub (subH_same rfl (subH_same rfl (subH_same rfl (subH_same rfl (subH_same rfl (subH_same rfl (subH_same rfl (subH_same rfl (subH_same rfl (subH_same rfl (subH_same rfl (subH_tail fun j x hj => by simp only [List.cons_append, List.nil_append]; (repeat' refine (look_cons_ne _ _ (by omega)).trans ?_); exact look_tail hj)))))))))))), hB, hkd⟩)
        | (have hw := wrS_3 part fr to st u p hc24; rw [hw]; exact ⟨rfl, hb, hs.sub (subH_same rfl (subH_same rfl (subH_same rfl (subH_same rfl (subH_same rfl (subH_same rfl (subH_same rfl (subH_same rfl (subH_same rfl (subH_same rfl (subH_same rfl (subH_tail fun j x hj => by simp only [List.cons_append, List.nil_append]; (repeat' refine (look_cons_ne _ _ (by omega)).trans ?_); exact look_tail hj)))))))))))), hB, hkd⟩)
        | (have hw := wrS_4 part fr to st u p phs13 phs19 hc24 hc40; rw [hw]; exact ⟨rfl, hb, hs.sub (subH_same rfl (subH_same rfl (subH_same rfl (subH_blk rfl (sub_cons rfl (sub_cons rfl (sub_cons rfl sub_nil))) (subH_blk rfl (sub_cons rfl sub_nil) (subH_same rfl (subH_same rfl (subH_same rfl (subH_same rfl (subH_same rfl (subH_same rfl (subH_tail fun j x hj => by simp only [List.cons_append, List.nil_append]; (repeat' refine (look_cons_ne _ _ (by omega)).trans ?_); exact look_tail hj)))))))))))), hB, hkd⟩)
        | (have hw := wrS_5 part fr to st u p phs13 phs19 hc24 hc40; rw [hw]; exact ⟨rfl, hb, hs.sub (subH_same rfl (subH_same rfl (subH_same rfl (subH_blk rfl (sub_cons rfl (sub_cons rfl (sub_cons rfl sub_nil))) (subH_blk rfl (sub_cons rfl sub_nil) (subH_same rfl (subH_same rfl (subH_same rfl (subH_same rfl (subH_same rfl (subH_same rfl (subH_tail fun j x hj => by simp only [List.cons_append, List.nil_append]; (repeat' refine (look_cons_ne _ _ (by omega)).trans ?_); exact look_tail hj)))))))))))), hB, hkd⟩)
     ·refine wp_skip' (hQ.fall rvs0 (fun _ _ h => h) fun w hb hs hB hkd => ?_)
      first
        | (have hw := wrS_1 part fr to st u p phs13; rw [hw]; exact ⟨rfl, hb, hs.sub (subH_same rfl (subH_same rfl (subH_same rfl (subH_same rfl (subH_same rfl (subH_same rfl (subH_same rfl (subH_same rfl (subH_same rfl (subH_same rfl (subH_same rfl (subH_tail fun j x hj => by simp only [List.cons_append, List.nil_append]; (repeat' refine (look_cons_ne _ _ (by omega)).trans ?_); exact look_tail hj)))))))))))), hB, hkd⟩)
        | (have hw := wrS_2 part fr to st u p phs19; rw [hw]; exact ⟨rfl, hb, hs.sub (subH_same rfl (subH_same rfl (subH_same rfl (subH_same rfl (subH_same rfl (subH_same rfl (subH_same rfl (subH_same rfl (subH_same rfl (subH_same rfl (subH_same rfl (subH_tail fun j x hj => by simp only [List.cons_append, List.nil_append]; (repeat' refine (look_cons_ne _ _ (by omega)).trans ?_); exact look_tail hj)))))))))))), hB, hkd⟩)
        | (have hw := wrS_3 part fr to st u p hc24; rw [hw]; exact ⟨rfl, hb, hs.sub (subH_same rfl (subH_same rfl (subH_same rfl (subH_same rfl (subH_same rfl (subH_same rfl (subH_same rfl (subH_same rfl (subH_same rfl (subH_same rfl (subH_same rfl (subH_tail fun j x hj => by simp only [List.cons_append, List.nil_append]; (repeat' refine (look_cons_ne _ _ (by omega)).trans ?_); exact look_tail hj)))))))))))), hB, hkd⟩)
        | (have hw := wrS_4 part fr to st u p phs13 phs19 hc24 hc40; rw [hw]; exact ⟨rfl, hb, hs.sub (subH_same rfl (subH_same rfl (subH_same rfl (subH_blk rfl (sub_cons rfl (sub_cons rfl (sub_cons rfl sub_nil))) (subH_blk rfl (sub_cons rfl sub_nil) (subH_same rfl (subH_same rfl (subH_same rfl (subH_same rfl (subH_same rfl (subH_same rfl (subH_tail fun j x hj => by simp only [List.cons_append, List.nil_append]; (repeat' refine (look_cons_ne _ _ (by omega)).trans ?_); exact look_tail hj)))))))))))), hB, hkd⟩)
        | (have hw := wrS_5 part fr to st u p phs13 phs19 hc24 hc40; rw [hw]; exact ⟨rfl, hb, hs.sub (subH_same rfl (subH_same rfl (subH_same rfl (subH_blk rfl (sub_cons rfl (sub_cons rfl (sub_cons rfl sub_nil))) (subH_blk rfl (sub_cons rfl sub_nil) (subH_same rfl (subH_same rfl (subH_same rfl (subH_same rfl (subH_same rfl (subH_same rfl (subH_tail fun j x hj => by simp only [List.cons_append, List.nil_append]; (repeat' refine (look_cons_ne _ _ (by omega)).trans ?_); exact look_tail hj)))))))))))), hB, hkd⟩)
theorem each_W (G : GarV) (B : Nat) (bp bf bt bw bl : Nat) (part : ByteArray) (fr to : Int) (e6 : Ent) (w : World) (hG : G.Ok B w) (hg : GarOk G.toGarD) (hB : B ≤ w.heap.size)
    (hs : Sat B w [(301, .blk bp [(0, .string part)] 9), (302, .blk bf [(0, .int .i64 fr)] 3), (303, .blk bt [(0, .int .i64 to)] 3), (304, .blk bw [(0, .int .i64 (((0, 0, 0, noB) : WS)).1), (1, .int .i64 (((0, 0, 0, noB) : WS)).2.1), (2, .int .i64 (((0, 0, 0, noB) : WS)).2.2.1)] 38), (305, .blk bl [(0, .string (((0, 0, 0, noB) : WS)).2.2.2)] 9), (306, e6)]) :
    Calls Try.prog 29 #[.agg #[.slice G.pa G.pn G.pc, .slice G.sa G.sn G.sc, .slice G.ma G.mn G.mc, .slice G.ua G.un G.uc], .func (.func 68) #[] #[.pointer (some ⟨bp, 0, none⟩), .pointer (some ⟨bf, 0, none⟩), .pointer (some ⟨bt, 0, none⟩), .pointer (some ⟨bw, 0, none⟩), .pointer (some ⟨bl, 0, none⟩)]] w fun e w' => e = .returned (.tuple #[]) ∧ Below B w w' ∧ Sat B w' [(301, .blk bp [(0, .string part)] 9), (302, .blk bf [(0, .int .i64 fr)] 3), (303, .blk bt [(0, .int .i64 to)] 3), (304, .blk bw [(0, .int .i64 (wrF part fr to (allP G.toGarD)).1), (1, .int .i64 (wrF part fr to (allP G.toGarD)).2.1), (2, .int .i64 (wrF part fr to (allP G.toGarD)).2.2.1)] 38), (305, .blk bl [(0, .string (wrF part fr to (allP G.toGarD)).2.2.2)] 9), (306, e6)] ∧ B ≤ w'.heap.size ∧ Kd (fun _ => False) w w' := by
  have hsn := hG.s.len
  have hun := hG.u.len
  have hmn := hG.m.len
  have hl1 := hg.s
  have hl2 := hg.u
  have hl3 := hg.m
  have ef : G.toGarD.us = G.us := rfl
  refine enterQ (N := 52) (C := fun _ => False) (H := [(301, .blk bp [(0, .string part)] 9), (302, .blk bf [(0, .int .i64 fr)] 3), (303, .blk bt [(0, .int .i64 to)] 3), (304, .blk bw [(0, .int .i64 (((0, 0, 0, noB) : WS)).1), (1, .int .i64 (((0, 0, 0, noB) : WS)).2.1), (2, .int .i64 (((0, 0, 0, noB) : WS)).2.2.1)] 38), (305, .blk bl [(0, .string (((0, 0, 0, noB) : WS)).2.2.2)] 9), (306, e6)]) (B := B) (args := [_, _]) Try.func29 rfl rfl rfl (hB) (hs) fun Q hQ => ?_
  refine wp_seq' fun K1 hK1 => ?_
  refine wp_reg ?_
  refine ol_box 2 rfl rfl rfl fun b2 => ?_
  refine ol_nil (to_k0 (fun _ _ h => h) (hK1 _ _ _ _ _ ?_))
  clear hK1
  refine wp_seq' fun K2 hK2 => ?_
  refine wp_reg ?_
  refine ol_r (r_lda (id := 2) (n := 4) rfl rfl rfl ag27) rfl ?_
  refine ol_call rfl rfl cb62 rfl (fun w1 hb1 hs1 hB1 => ?_)
  refine Calls.mono (gear_had G _ (hG.at hb1 hB1) (by omega)) ?_
  rintro e w2 ⟨bm, D, rfl, hb2, hD, hs2⟩
  refine After.moreT rfl hb1 hs1 hB1 hb2 hs2 (by decide) (fun i hi => by (repeat' refine (look_cons_ne _ _ (by omega)).trans ?_); rfl) ?_
  clear hs2 hb2 hB1 hs1 hb1 w2 w1
  refine ol_r (r_assign rfl) rfl ?_
  refine ol_nil (to_k0 (fun _ _ h => h) (hK2 _ _ _ _ _ ?_))
  clear hK2
  refine wp_seq' fun K3 hK3 => ?_
  refine wp_reg ?_
  refine ol_r (r_fa (o' := 3) rfl fl27_3 rfl) rfl ?_
  refine ol_r (r_ld (id := 2) rfl rfl rfl sc25) rfl ?_
  refine ol_r (r_len rfl sl25) rfl ?_
  refine ol_r (r_move rfl) rfl ?_
  refine ol_nil (to_k0 (fun _ _ h => h) (hK3 _ _ _ _ _ ?_))
  clear hK3
  refine wp_block' ?_
  apply wp_loopT (σ := Nat × WS) (fun s => s.1 ≤ G.un ∧ s.2 = wrF part fr to ((G.us.take s.1).flatMap (useP G.toGarD))) (fun s => [(16, .int .i64 s.1)]) [(1, _), (2, _), (4, _), (14, _), (15, _)] (fun s => [(301, .blk bp [(0, .string part)] 9), (302, .blk bf [(0, .int .i64 fr)] 3), (303, .blk bt [(0, .int .i64 to)] 3), (304, .blk bw [(0, .int .i64 (s.2).1), (1, .int .i64 (s.2).2.1), (2, .int .i64 (s.2).2.2.1)] 38), (305, .blk bl [(0, .string (s.2).2.2.2)] 9)]) [(2, _), (306, _), (1001, _)] (fun s => tailM 1500 G.ms D) (fun s => G.un - s.1) ((0, (0, 0, 0, noB)))
  ·try dsimp only
   exact ⟨Nat.zero_le _, rfl⟩
  ·exact (sub_cons rfl sub_nil)
  ·exact (sub_cons rfl (sub_cons rfl (sub_cons rfl (sub_cons rfl (sub_cons rfl sub_nil)))))
  ·exact (subH_blk rfl (sub_cons rfl sub_nil) (subH_blk rfl (sub_cons rfl sub_nil) (subH_blk rfl (sub_cons rfl sub_nil) (subH_blk rfl (sub_cons rfl (sub_cons rfl (sub_cons rfl sub_nil))) (subH_blk rfl (sub_cons rfl sub_nil) subH_nil)))))
  ·exact (subH_same rfl (subH_same rfl (subH_same rfl subH_nil)))
  ·refine subH_tail fun j x hj => ?_
   try simp only [List.cons_append, List.nil_append]
   repeat' refine (look_cons_ne _ _ (by omega)).trans ?_
   exact look_tail hj
  ·rintro ⟨i, y1⟩ ⟨hi, hxi⟩
   dsimp only at hi hxi ⊢
   intro K4 hK4
   refine wp_seq' fun K5 hK5 => ?_
   refine wp_reg ?_
   refine ol_r (r_lss rfl rfl) rfl ?_
   refine ol_nil (to_k0 (fun _ _ h => h) (hK5 _ _ _ _ _ ?_))
   clear hK5
   refine wp_seq' fun K6 hK6 => ?_
   first | refine wp_condD rfl (fun hc17 => ?_) (fun hc17 => ?_) | refine wp_condN rfl (fun hc17 => ?_) (fun hc17 => ?_) | refine wp_condNB rfl (fun hc17 => ?_) (fun hc17 => ?_) | refine wp_cond' rfl (fun hc17 => ?_) (fun hc17 => ?_)
   ·refine wp_skip' (to_k0 (fun _ _ h => h) (hK6 _ _ _ _ _ ?_))
    clear hK6
    refine wp_seq' fun K7 hK7 => ?_
    refine wp_block' ?_
    refine wp_seq' fun K8 hK8 => ?_
    refine wp_reg ?_
    refine ol_ixr hG.u rfl rfl sl25 (by omega) rfl fun x18 hx18 => ?_
    try simp only [Int.toNat_natCast] at hx18
    refine ol_r (r_ldw rfl (fun w1 hb1 hs1 hB1 => Rd.loads hG.u ty46 hx18 hb1)) rfl ?_
    refine ol_alloc 6 z46 rfl fun b6 => ?_
    refine ol_store (id := 6) rfl rfl rfl rfl sz46 rfl rfl (by first | decide | exact Nat.zero_lt_succ _ | simp) ?_
    refine ol_nil (to_k0 (fun _ _ h => h) (hK8 _ _ _ _ _ ?_))
    clear hK8
    refine wp_seq' fun K9 hK9 => ?_
    refine wp_reg ?_
    have hu := hg.use x18 (List.mem_of_getElem? hx18)
    refine ol_r (r_fa (o' := 1) rfl fl27_1 rfl) rfl ?_
    refine ol_r (r_ld (id := 2) rfl rfl rfl sc23) rfl ?_
    refine ol_r (r_len rfl sl23) rfl ?_
    refine ol_r (r_move rfl) rfl ?_
    refine ol_nil (to_k0 (fun _ _ h => h) (hK9 _ _ _ _ _ ?_))
    clear hK9
    refine wp_block' ?_
    apply wp_loopT (σ := Nat × WS) (fun s => s.1 ≤ G.sn ∧ s.2 = wrF part fr to ((G.us.take i).flatMap (useP G.toGarD) ++ (G.ss.take s.1).flatMap (slotP G.toGarD x18))) (fun s => [(23, .int .i64 s.1)]) [(1, _), (2, _), (4, _), (6, _), (14, _), (15, _), (16, _), (21, _), (22, _)] (fun s => [(301, .blk bp [(0, .string part)] 9), (302, .blk bf [(0, .int .i64 fr)] 3), (303, .blk bt [(0, .int .i64 to)] 3), (304, .blk bw [(0, .int .i64 (s.2).1), (1, .int .i64 (s.2).2.1), (2, .int .i64 (s.2).2.2.1)] 38), (305, .blk bl [(0, .string (s.2).2.2.2)] 9)]) [(2, _), (6, _), (306, _), (1001, _)] (fun s => tailM 1500 G.ms D) (fun s => G.sn - s.1) ((0, y1))
    ·try dsimp only
     exact ⟨Nat.zero_le _, by rw [hxi]; simp⟩
    ·exact (sub_cons rfl sub_nil)
    ·exact (sub_cons rfl (sub_cons rfl (sub_cons rfl (sub_cons rfl (sub_cons rfl (sub_cons rfl (sub_cons rfl (sub_cons rfl (sub_cons rfl sub_nil)))))))))
    ·exact (subH_blk rfl (sub_cons rfl sub_nil) (subH_blk rfl (sub_cons rfl sub_nil) (subH_blk rfl (sub_cons rfl sub_nil) (subH_blk rfl (sub_cons rfl (sub_cons rfl (sub_cons rfl sub_nil))) (subH_blk rfl (sub_cons rfl sub_nil) subH_nil)))))
    ·exact (subH_same rfl (subH_same rfl (subH_same rfl (subH_same rfl subH_nil))))
    ·refine subH_tail fun j x hj => ?_
     try simp only [List.cons_append, List.nil_append]
     repeat' refine (look_cons_ne _ _ (by omega)).trans ?_
     exact look_tail hj
    ·rintro ⟨j, y2⟩ ⟨hj, hxj⟩
     dsimp only at hj hxj ⊢
     intro K10 hK10
     refine wp_seq' fun K11 hK11 => ?_
     refine wp_reg ?_
     refine ol_r (r_lss rfl rfl) rfl ?_
     refine ol_nil (to_k0 (fun _ _ h => h) (hK11 _ _ _ _ _ ?_))
     clear hK11
     refine wp_seq' fun K12 hK12 => ?_
     first | refine wp_condD rfl (fun hc24 => ?_) (fun hc24 => ?_) | refine wp_condN rfl (fun hc24 => ?_) (fun hc24 => ?_) | refine wp_condNB rfl (fun hc24 => ?_) (fun hc24 => ?_) | refine wp_cond' rfl (fun hc24 => ?_) (fun hc24 => ?_)
     ·refine wp_skip' (to_k0 (fun _ _ h => h) (hK12 _ _ _ _ _ ?_))
      clear hK12
      refine wp_seq' fun K13 hK13 => ?_
      refine wp_block' ?_
      refine wp_seq' fun K14 hK14 => ?_
      refine wp_reg ?_
      refine ol_ixr hG.s rfl rfl sl23 (by omega) rfl fun x25 hx25 => ?_
      try simp only [Int.toNat_natCast] at hx25
      refine ol_r (r_ldw rfl (fun w1 hb1 hs1 hB1 => Rd.loads hG.s ty34 hx25 hb1)) rfl ?_
      refine ol_alloc 8 z34 rfl fun b8 => ?_
      refine ol_store (id := 8) rfl rfl rfl rfl sz34 rfl rfl (by first | decide | exact Nat.zero_lt_succ _ | simp) ?_
      refine ol_nil (to_k0 (fun _ _ h => h) (hK14 _ _ _ _ _ ?_))
      clear hK14
      refine wp_seq' fun K15 hK15 => ?_
      refine wp_seq' fun K16 hK16 => ?_
      refine wp_reg ?_
      refine ol_r (r_fa (o' := 1) rfl fl34_1 rfl) rfl ?_
      refine ol_r (r_ld (id := 8) rfl rfl rfl sc9) rfl ?_
      refine ol_r (r_fa (o' := 1) rfl fl46_1 rfl) rfl ?_
      refine ol_r (r_ld (id := 6) rfl rfl rfl sc9) rfl ?_
      refine ol_r (r_sneq rfl rfl) rfl ?_
      refine ol_nil (to_k0 (fun _ _ h => h) (hK16 _ _ _ _ _ ?_))
      clear hK16
      first | refine wp_condD rfl (fun hc31 => ?_) (fun hc31 => ?_) | refine wp_condN rfl (fun hc31 => ?_) (fun hc31 => ?_) | refine wp_condNB rfl (fun hc31 => ?_) (fun hc31 => ?_) | refine wp_cond' rfl (fun hc31 => ?_) (fun hc31 => ?_)
      ·refine wp_exit' (to_k0 (fun _ _ h => h) (hK13 _ _ _ _ _ ?_))
       clear hK13
       refine wp_reg ?_
       refine ol_r (r_add rfl rfl (by omega)) rfl ?_
       refine ol_r (r_move rfl) rfl ?_
       refine ol_nil (to_k0 (fun _ _ h => h) (hK10 ((j + 1, y2)) _ _ ?_ ?_ (sub_cons rfl sub_nil) (sub_cons rfl (sub_cons rfl (sub_cons rfl (sub_cons rfl (sub_cons rfl (sub_cons rfl (sub_cons rfl (sub_cons rfl (sub_cons rfl sub_nil))))))))) (by exact (subH_blk rfl (sub_cons rfl sub_nil) (subH_blk rfl (sub_cons rfl sub_nil) (subH_blk rfl (sub_cons rfl sub_nil) (subH_blk rfl (sub_cons rfl (sub_cons rfl (sub_cons rfl sub_nil))) (subH_blk rfl (sub_cons rfl sub_nil) subH_nil)))))) (subH_same rfl (subH_same rfl (subH_same rfl (subH_same rfl subH_nil)))) ?_))
       ·try dsimp only
        exact ⟨by omega, by rw [hxj, flatMap_take hx25, slotP_no hc31, List.append_nil]⟩
       ·try dsimp only
        omega
       ·try dsimp only
        refine subH_tail fun j x hj => ?_
        try simp only [List.cons_append, List.nil_append]
        repeat' refine (look_cons_ne _ _ (by omega)).trans ?_
        exact look_tail hj
      ·refine wp_skip' (to_k0 (fun _ _ h => h) (hK15 _ _ _ _ _ ?_))
       clear hK15
       refine wp_seq' fun K17 hK17 => ?_
       refine wp_reg ?_
       refine ol_r (r_lda (id := 6) (n := 5) rfl rfl rfl ag46) rfl ?_
       refine ol_r (r_fa (o' := 0) rfl fl34_0 rfl) rfl ?_
       refine ol_r (r_ld (id := 8) rfl rfl rfl sc9) rfl ?_
       refine ol_r (r_move rfl) rfl ?_
       refine ol_r (r_fa (o' := 0) rfl fl34_0 rfl) rfl ?_
       refine ol_r (r_ld (id := 8) rfl rfl rfl sc9) rfl ?_
       refine ol_r (r_look1 (K := Value.string) (V := slV) (z := nilS) (id := 1001) rfl rfl rfl mk126) rfl ?_
       refine ol_call rfl rfl cb63 rfl (fun w1 hb1 hs1 hB1 => Calls.mono (gear_piecesOf x18 x25.name _ _ _ (mOf G.ms x25.name) _ (had_rd hD hs1 (fun j x hj => by simp only [List.cons_append, List.nil_append]; (repeat' refine (look_cons_ne _ _ (by omega)).trans ?_); exact look_tail hj) x25.name) hu (by have := had_len hD x25.name; omega)) ?_)
       rintro e w2 ⟨a39, n39, c39, rfl, hf39⟩
       refine After.fresh (id := 39) rfl hb1 hs1 hB1 hf39 ?_
       have hl39 := hf39.len; clear hf39 hB1 hs1 hb1 w2 w1
       refine ol_r (r_len rfl sl28) rfl ?_
       have hsl := slotP_yes (g := G.toGarD) (u := x18) (s := x25) hc31
       have hsll : (slotP G.toGarD x18 x25).length = n39 := by rw [hsl, List.length_map, ← hl39]
       have hsb := slotP_len (g := G.toGarD) (s := x25) hu hl3
       refine ol_r (r_move rfl) rfl ?_
       refine ol_nil (to_k0 (fun _ _ h => h) (hK17 _ _ _ _ _ ?_))
       clear hK17
       refine wp_block' ?_
       apply wp_loopT (σ := Nat × WS) (fun s => s.1 ≤ n39 ∧ s.2 = wrF part fr to ((G.us.take i).flatMap (useP G.toGarD) ++ (G.ss.take j).flatMap (slotP G.toGarD x18) ++ (slotP G.toGarD x18 x25).take s.1)) (fun s => [(41, .int .i64 s.1)]) [(1, _), (2, _), (4, _), (6, _), (14, _), (15, _), (16, _), (21, _), (22, _), (23, _), (39, _), (40, _)] (fun s => [(301, .blk bp [(0, .string part)] 9), (302, .blk bf [(0, .int .i64 fr)] 3), (303, .blk bt [(0, .int .i64 to)] 3), (304, .blk bw [(0, .int .i64 (s.2).1), (1, .int .i64 (s.2).2.1), (2, .int .i64 (s.2).2.2.1)] 38), (305, .blk bl [(0, .string (s.2).2.2.2)] 9)]) [(2, _), (6, _), (8, _), (39, _), (306, _), (1001, _)] (fun s => tailM 1500 G.ms D) (fun s => n39 - s.1) ((0, y2))
       ·try dsimp only
        exact ⟨Nat.zero_le _, by rw [hxj]; simp⟩
       ·exact (sub_cons rfl sub_nil)
       ·exact (sub_cons rfl (sub_cons rfl (sub_cons rfl (sub_cons rfl (sub_cons rfl (sub_cons rfl (sub_cons rfl (sub_cons rfl (sub_cons rfl (sub_cons rfl (sub_cons rfl (sub_cons rfl sub_nil))))))))))))
       ·exact (subH_blk rfl (sub_cons rfl sub_nil) (subH_blk rfl (sub_cons rfl sub_nil) (subH_blk rfl (sub_cons rfl sub_nil) (subH_blk rfl (sub_cons rfl (sub_cons rfl (sub_cons rfl sub_nil))) (subH_blk rfl (sub_cons rfl sub_nil) subH_nil)))))
       ·exact (subH_same rfl (subH_same rfl (subH_same rfl (subH_same rfl (subH_same rfl (subH_same rfl subH_nil))))))
       ·refine subH_tail fun j x hj => ?_
        try simp only [List.cons_append, List.nil_append]
        repeat' refine (look_cons_ne _ _ (by omega)).trans ?_
        exact look_tail hj
       ·rintro ⟨r, y3⟩ ⟨hr, hxr⟩
        dsimp only at hr hxr ⊢
        have hpl := pref_len hg (i := i) (j := j) (k := r) (s := x25) hx18
        have hpe := pref_each hg (i := i) (j := j) (k := r) (s := x25) hx18
        intro K18 hK18
        refine wp_seq' fun K19 hK19 => ?_
        refine wp_reg ?_
        refine ol_r (r_lss rfl rfl) rfl ?_
        refine ol_nil (to_k0 (fun _ _ h => h) (hK19 _ _ _ _ _ ?_))
        clear hK19
        refine wp_seq' fun K20 hK20 => ?_
        first | refine wp_condD rfl (fun hc42 => ?_) (fun hc42 => ?_) | refine wp_condN rfl (fun hc42 => ?_) (fun hc42 => ?_) | refine wp_condNB rfl (fun hc42 => ?_) (fun hc42 => ?_) | refine wp_cond' rfl (fun hc42 => ?_) (fun hc42 => ?_)
        ·refine wp_skip' (to_k0 (fun _ _ h => h) (hK20 _ _ _ _ _ ?_))
         clear hK20
         refine wp_seq' fun K21 hK21 => ?_
         refine wp_block' ?_
         refine wp_seq' fun K22 hK22 => ?_
         refine wp_reg ?_
         refine ol_ixo (id := 39) encGPiece _ rfl rfl rfl rfl sl28 (by omega) rfl fun x43 hx43 => ?_
         try simp only [Int.toNat_natCast] at hx43
         try simp only [Int.toNat_natCast] at hx43
         refine ol_r (r_ldw rfl (fun w1 hb1 hs1 hB1 => ld_own (id := 39) hs1 rfl rfl ty36 hx43)) rfl ?_
         refine ol_alloc 10 z36 rfl fun b10 => ?_
         refine ol_store (id := 10) rfl rfl rfl rfl sz36 rfl rfl (by first | decide | exact Nat.zero_lt_succ _ | simp) ?_
         refine ol_nil (to_k0 (fun _ _ h => h) (hK22 _ _ _ _ _ ?_))
         clear hK22
         refine wp_reg ?_
         have hpk : PcOk (x18, x43) := allP_each hg (x18, x43) (List.mem_flatMap.2 ⟨x18, List.mem_of_getElem? hx18, List.mem_flatMap.2 ⟨x25, List.mem_of_getElem? hx25, by rw [hsl]; exact List.mem_map.2 ⟨x43, List.mem_of_getElem? hx43, rfl⟩⟩⟩)
         refine ol_r (r_move rfl) rfl ?_
         refine ol_r (r_lda (id := 6) (n := 5) rfl rfl rfl ag46) rfl ?_
         refine ol_r (r_lda (id := 10) (n := 5) rfl rfl rfl ag36) rfl ?_
         refine ol_call rfl rfl cb68 rfl (fun w1 hb1 hs1 hB1 => ?_)
         refine Calls.mono (cb_W B bp bf bt bw bl part fr to y3 x18 x43 _ _ _ _ _ _ G.ms D _ (by rw [hxr]; exact (wrF_bd _ _ rfl hpe).le (by omega)) hpk hB1 ((hs1.up 200).sub (subH_same rfl (subH_same rfl (subH_same rfl (subH_same rfl (subH_same rfl (subH_same rfl (subH_same rfl (subH_same rfl (subH_same rfl (subH_same rfl (subH_same rfl (subH_tail fun j x hj => by
             rw [show 1700 + j = (1500 + j) + 200 by omega, look_up]
             simp only [List.cons_append, List.nil_append]
             (repeat' refine (look_cons_ne _ _ (by omega)).trans ?_)
             exact look_tail hj)))))))))))))) ?_
         rintro e w2 ⟨rfl, hbw, hs2, hB2, hkd2⟩
         refine After.sat rfl hb1 hbw (hs2.down 200 (H' := (301, _) :: (302, _) :: (303, _) :: (304, _) :: (305, _) :: (306, _) :: (2, _) :: (6, _) :: (8, _) :: (39, _) :: (1001, _) :: tailM 1500 G.ms D) (by
           refine subH_same rfl ?_
           refine subH_same rfl ?_
           refine subH_same rfl ?_
           refine subH_same rfl ?_
           refine subH_same rfl ?_
           refine subH_same rfl ?_
           refine subH_same rfl ?_
           refine subH_same rfl ?_
           refine subH_same rfl ?_
           refine subH_same rfl ?_
           refine subH_same rfl ?_
           refine subH_upTail (subH_tail fun j x hj => ?_)
           simp only [List.cons_append, List.nil_append]
           repeat' refine (look_cons_ne _ _ (by omega)).trans ?_
           exact look_tail hj)) hB2 hkd2 ?_
         clear hkd2 hB2 hs2 hbw hB1 hs1 hb1 w2 w1
         refine ol_nil (to_k0 (fun _ _ h => h) (hK21 _ _ _ _ _ ?_))
         clear hK21
         refine wp_reg ?_
         refine ol_r (r_add rfl rfl (by omega)) rfl ?_
         have hsl := slotP_yes (g := G.toGarD) (u := x18) (s := x25) hc31
         have hsll : (slotP G.toGarD x18 x25).length = n39 := by rw [hsl, List.length_map, ← hl39]
         have hsb := slotP_len (g := G.toGarD) (s := x25) hu hl3
         refine ol_r (r_move rfl) rfl ?_
         refine ol_nil (to_k0 (fun _ _ h => h) (hK18 ((r + 1, wrS part fr to y3 (x18, x43))) _ _ ?_ ?_ (sub_cons rfl sub_nil) (sub_cons rfl (sub_cons rfl (sub_cons rfl (sub_cons rfl (sub_cons rfl (sub_cons rfl (sub_cons rfl (sub_cons rfl (sub_cons rfl (sub_cons rfl (sub_cons rfl (sub_cons rfl sub_nil)))))))))))) (by exact (subH_blk rfl (sub_cons rfl sub_nil) (subH_blk rfl (sub_cons rfl sub_nil) (subH_blk rfl (sub_cons rfl sub_nil) (subH_blk rfl (sub_cons rfl (sub_cons rfl (sub_cons rfl sub_nil))) (subH_blk rfl (sub_cons rfl sub_nil) subH_nil)))))) (subH_same rfl (subH_same rfl (subH_same rfl (subH_same rfl (subH_same rfl (subH_same rfl subH_nil)))))) ?_))
         ·try dsimp only
          exact ⟨by omega, by rw [take_succ_get (show (slotP G.toGarD x18 x25)[r]? = some (x18, x43) by rw [hsl, List.getElem?_map, hx43]; rfl), ← List.append_assoc, wrF_snoc, ← hxr]⟩
         ·try dsimp only
          omega
         ·try dsimp only
          refine subH_tail fun j x hj => ?_
          try simp only [List.cons_append, List.nil_append]
          repeat' refine (look_cons_ne _ _ (by omega)).trans ?_
          exact look_tail hj
        ·refine wp_exit' (to_k0 (fun _ _ h => h) (hK13 _ _ _ _ _ ?_))
         clear hK13
         refine wp_reg ?_
         refine ol_r (r_add rfl rfl (by omega)) rfl ?_
         refine ol_r (r_move rfl) rfl ?_
         refine ol_nil (to_k0 (fun _ _ h => h) (hK10 ((j + 1, y3)) _ _ ?_ ?_ (sub_cons rfl sub_nil) (sub_cons rfl (sub_cons rfl (sub_cons rfl (sub_cons rfl (sub_cons rfl (sub_cons rfl (sub_cons rfl (sub_cons rfl (sub_cons rfl sub_nil))))))))) (by exact (subH_blk rfl (sub_cons rfl sub_nil) (subH_blk rfl (sub_cons rfl sub_nil) (subH_blk rfl (sub_cons rfl sub_nil) (subH_blk rfl (sub_cons rfl (sub_cons rfl (sub_cons rfl sub_nil))) (subH_blk rfl (sub_cons rfl sub_nil) subH_nil)))))) (subH_same rfl (subH_same rfl (subH_same rfl (subH_same rfl subH_nil)))) ?_))
         ·try dsimp only
          exact ⟨by omega, by rw [hxr, List.take_of_length_le (l := slotP G.toGarD x18 x25) (by omega), flatMap_take hx25, List.append_assoc]⟩
         ·try dsimp only
          omega
         ·try dsimp only
          refine subH_tail fun j x hj => ?_
          try simp only [List.cons_append, List.nil_append]
          repeat' refine (look_cons_ne _ _ (by omega)).trans ?_
          exact look_tail hj
     ·refine wp_exit' (to_k0 (fun _ _ h => h) (hK7 _ _ _ _ _ ?_))
      clear hK7
      refine wp_reg ?_
      refine ol_r (r_add rfl rfl (by omega)) rfl ?_
      refine ol_r (r_move rfl) rfl ?_
      refine ol_nil (to_k0 (fun _ _ h => h) (hK4 ((i + 1, y2)) _ _ ?_ ?_ (sub_cons rfl sub_nil) (sub_cons rfl (sub_cons rfl (sub_cons rfl (sub_cons rfl (sub_cons rfl sub_nil))))) (by exact (subH_blk rfl (sub_cons rfl sub_nil) (subH_blk rfl (sub_cons rfl sub_nil) (subH_blk rfl (sub_cons rfl sub_nil) (subH_blk rfl (sub_cons rfl (sub_cons rfl (sub_cons rfl sub_nil))) (subH_blk rfl (sub_cons rfl sub_nil) subH_nil)))))) (subH_same rfl (subH_same rfl (subH_same rfl subH_nil))) ?_))
      ·try dsimp only
       exact ⟨by omega, by rw [hxj, List.take_of_length_le (l := G.ss) (by omega), flatMap_take hx18]; rfl⟩
      ·try dsimp only
       omega
      ·try dsimp only
       refine subH_tail fun j x hj => ?_
       try simp only [List.cons_append, List.nil_append]
       repeat' refine (look_cons_ne _ _ (by omega)).trans ?_
       exact look_tail hj
   ·refine wp_exit' (hQ.fall rvs0 (fun _ _ h => h) fun w hb hs hB hkd => ?_)
    obtain hi2 : i = G.us.length := by omega
    rw [hi2, List.take_length] at hxi
    have hxi : y1 = wrF part fr to (allP G.toGarD) := hxi
    subst hxi
    exact ⟨rfl, hb, hs.sub (by repeat' first | exact subH_nil | refine subH_same rfl ?_), hB, hkd⟩
end Go.Proofs.Ytfbmkepogcimlaa

/-
  slices.IndexFunc and ContainsFunc, at any function that only reads.
-/


namespace Go.Proofs.Ytfbmkepogcimlaa
open Go Go.RowKit Hx
set_option linter.unusedVariables false
set_option linter.unusedSimpArgs false
/-- The first place at which p holds, or -1. -/
def idxP {α : Type} (p : α → Bool) (xs : List α) : Int := match xs.findIdx? p with | some i => i | none => -1
theorem idxP_at {α : Type} {p : α → Bool} {xs : List α} {k : Nat} {x : α} (h : xs[k]? = some x) (hp : p x = true) (h2 : ∀ y ∈ xs.take k, p y = false) : idxP p xs = k := by
  have : xs.findIdx? p = some k := by
    rw [List.findIdx?_eq_some_iff_getElem]
    obtain ⟨hk, rfl⟩ := List.getElem?_eq_some_iff.1 h
    refine ⟨hk, hp, fun j hj => ?_⟩
    have : xs[j]'(by omega) ∈ xs.take k := by
      rw [List.mem_take_iff_getElem]
      exact ⟨j, by omega, rfl⟩
    simp [h2 _ this]
  simp [idxP, this]
theorem idxP_no {α : Type} {p : α → Bool} {xs : List α} (h2 : ∀ y ∈ xs, p y = false) : idxP p xs = -1 := by
  have : xs.findIdx? p = none := by
    rw [List.findIdx?_eq_none_iff]
    intro y hy
    simp [h2 y hy]
  simp [idxP, this]
theorem idxP_any {α : Type} (p : α → Bool) (xs : List α) : decide (0 ≤ idxP p xs) = xs.any p := by
  unfold idxP
  cases h : xs.findIdx? p with
  | none =>
    rw [List.findIdx?_eq_none_iff] at h
    have : xs.any p = false := by rw [List.any_eq_false]; intro y hy; simp [h y hy]
    simp [this]
  | some i =>
    rw [List.findIdx?_eq_some_iff_getElem] at h
    obtain ⟨hi, hp, _⟩ := h
    have : xs.any p = true := by rw [List.any_eq_true]; exact ⟨_, List.getElem_mem hi, hp⟩
    rw [this]; simp
end Go.Proofs.Ytfbmkepogcimlaa

/-
  Garages: Pieces, WearOf, Total.
-/


namespace Go.Proofs.Ytfbmkepogcimlaa
open Go Go.RowKit Hx
set_option linter.unusedVariables false
set_option linter.unusedSimpArgs false
set_option maxRecDepth 8000
theorem GarV.Ok.below {G : GarV} {B : Nat} {w0 w : World} (h : G.Ok B w0) (hb : Below B w0 w) : G.Ok B w := ⟨h.p.below hb, h.s.below hb, h.m.below hb, h.u.below hb, h.zp, h.zs, h.zu⟩
theorem indexFunc_gp (a : Option Addr) (n c1 : Nat) (xs : List GPart) (g : FuncId) (cv : List Value) (p : GPart → Bool) (w : World) (hx : Rd encGPart w.heap.size w a n c1 xs) (hg : Callable Try.prog g)
    (hf : ∀ x w', x ∈ xs → Below w.heap.size w w' → w.heap.size ≤ w'.heap.size → Calls Try.prog g ([encGPart.val x] ++ cv).toArray w' fun e w2 => e = .returned (.bool (p x)) ∧ Below w'.heap.size w' w2) :
    Calls Try.prog 97 #[.slice a n c1, .func (.func g) #[] cv.toArray] w fun e w' => e = .returned (.int .i64 (idxP p xs)) ∧ Below w.heap.size w w' := by
  have hl := hx.len
  have hfit := hx.fit
  subst hl
  refine enterQ (N := 19) (C := fun _ => True) (H := []) (B := w.heap.size) (args := [_, _]) Try.func97 rfl rfl rfl (Nat.le_refl _) (Sat.nil _ _) fun Q hQ => ?_
  refine wp_seq' fun K1 hK1 => ?_
  refine wp_reg ?_
  refine ol_r (r_assign rfl) rfl ?_
  refine ol_nil (to_k0 (fun _ _ h => h) (hK1 _ _ _ _ _ ?_))
  clear hK1
  refine wp_seq' fun K2 hK2 => ?_
  refine wp_seq' fun K3 hK3 => ?_
  refine wp_reg ?_
  refine ol_r (r_move rfl) rfl ?_
  refine ol_r (r_len rfl sl22) rfl ?_
  refine ol_r (r_move rfl) rfl ?_
  refine ol_nil (to_k0 (fun _ _ h => h) (hK3 _ _ _ _ _ ?_))
  clear hK3
  refine wp_block' ?_
  apply wp_loopM (σ := Nat) (fun s => s ≤ xs.length ∧ ∀ y ∈ xs.take s, p y = false) (fun s => [(8, .int .i64 s)]) [(0, _), (1, _), (7, _)] (fun s => []) [] (fun s => xs.length - s) (0)
  ·try dsimp only
   simp
  ·exact (sub_cons rfl sub_nil)
  ·exact (sub_cons rfl (sub_cons rfl (sub_cons rfl sub_nil)))
  ·exact subH_nil
  ·exact subH_nil
  ·rintro k ⟨hk, hP⟩
   intro K4 hK4
   refine wp_seq' fun K5 hK5 => ?_
   refine wp_reg ?_
   refine ol_r (r_lss rfl rfl) rfl ?_
   refine ol_nil (to_k0 (fun _ _ h => h) (hK5 _ _ _ _ _ ?_))
   clear hK5
   refine wp_seq' fun K6 hK6 => ?_
   first | refine wp_condD rfl (fun hc9 => ?_) (fun hc9 => ?_) | refine wp_condN rfl (fun hc9 => ?_) (fun hc9 => ?_) | refine wp_condNB rfl (fun hc9 => ?_) (fun hc9 => ?_) | refine wp_cond' rfl (fun hc9 => ?_) (fun hc9 => ?_)
   ·refine wp_skip' (to_k0 (fun _ _ h => h) (hK6 _ _ _ _ _ ?_))
    clear hK6
    refine wp_seq' fun K7 hK7 => ?_
    refine wp_block' ?_
    refine wp_seq' fun K8 hK8 => ?_
    refine wp_reg ?_
    refine ol_r (r_move rfl) rfl ?_
    refine ol_r (r_assign rfl) rfl ?_
    refine ol_nil (to_k0 (fun _ _ h => h) (hK8 _ _ _ _ _ ?_))
    clear hK8
    refine wp_seq' fun K9 hK9 => ?_
    refine wp_reg ?_
    refine ol_r (r_move rfl) rfl ?_
    refine ol_r (r_move rfl) rfl ?_
    refine ol_r (r_move rfl) rfl ?_
    refine ol_ixr hx rfl rfl sl22 (by omega) rfl fun x14 hx14 => ?_
    try simp only [Int.toNat_natCast] at hx14
    refine ol_r (r_ldw rfl (fun w1 hb1 hs1 hB1 => Rd.loads hx ty42 hx14 hb1)) rfl ?_
    refine ol_call rfl rfl hg rfl (fun w1 hb1 hs1 hB1 => Calls.mono (hf _ _ (List.mem_of_getElem? hx14) hb1 hB1) ?_)
    rintro e w2 ⟨rfl, hb2⟩
    refine After.below rfl hb1 hs1 hB1 hb2 ?_
    clear hb2 hB1 hs1 hb1 w2 w1
    refine ol_nil (to_k0 (fun _ _ h => h) (hK9 _ _ _ _ _ ?_))
    clear hK9
    first | refine wp_condD rfl (fun hc16 => ?_) (fun hc16 => ?_) | refine wp_condN rfl (fun hc16 => ?_) (fun hc16 => ?_) | refine wp_condNB rfl (fun hc16 => ?_) (fun hc16 => ?_) | refine wp_cond' rfl (fun hc16 => ?_) (fun hc16 => ?_)
    ·refine wp_seq' fun K10 hK10 => ?_
     refine wp_reg ?_
     refine ol_r (r_move rfl) rfl ?_
     refine ol_r (r_assign rfl) rfl ?_
     refine ol_nil (to_k0 (fun _ _ h => h) (hK10 _ _ _ _ _ ?_))
     clear hK10
     refine hQ.ret (rvs1 (rv_t rfl)) (fun _ _ h => h) fun w hb hs hB hkd => ?_
     exact ⟨by rw [idxP_at hx14 hc16 hP], hb⟩
    ·refine wp_skip' (to_k0 (fun _ _ h => h) (hK7 _ _ _ _ _ ?_))
     clear hK7
     refine wp_reg ?_
     refine ol_r (r_add rfl rfl (by omega)) rfl ?_
     refine ol_r (r_move rfl) rfl ?_
     refine ol_nil (to_k0 (fun _ _ h => h) (hK4 (k + 1) _ _ ?_ ?_ (sub_cons rfl sub_nil) (sub_cons rfl (sub_cons rfl (sub_cons rfl sub_nil))) (by exact subH_nil) subH_nil))
     ·try dsimp only
      refine ⟨by omega, fun y hy => ?_⟩
      rw [take_succ_get hx14] at hy
      rcases List.mem_append.1 hy with h | h
      · exact hP y h
      · simp at h; subst h; exact hc16
     ·try dsimp only
      omega
   ·refine wp_exit' (to_k0 (fun _ _ h => h) (hK2 _ _ _ _ _ ?_))
    clear hK2
    refine wp_seq' fun K11 hK11 => ?_
    refine wp_reg ?_
    refine ol_r (r_assign rfl) rfl ?_
    refine ol_nil (to_k0 (fun _ _ h => h) (hK11 _ _ _ _ _ ?_))
    clear hK11
    refine hQ.ret (rvs1 (rv_t rfl)) (fun _ _ h => h) fun w hb hs hB hkd => ?_
    rw [List.take_of_length_le (by omega)] at hP
    exact ⟨by rw [idxP_no hP], hb⟩
theorem containsFunc_gp (a : Option Addr) (n c1 : Nat) (xs : List GPart) (g : FuncId) (cv : List Value) (p : GPart → Bool) (w : World) (hx : Rd encGPart w.heap.size w a n c1 xs) (hg : Callable Try.prog g)
    (hf : ∀ x w', x ∈ xs → Below w.heap.size w w' → w.heap.size ≤ w'.heap.size → Calls Try.prog g ([encGPart.val x] ++ cv).toArray w' fun e w2 => e = .returned (.bool (p x)) ∧ Below w'.heap.size w' w2) :
    Calls Try.prog 66 #[.slice a n c1, .func (.func g) #[] cv.toArray] w fun e w' => e = .returned (.bool (xs.any p)) ∧ Below w.heap.size w w' := by
  refine enterQ (N := 9) (C := fun _ => True) (H := []) (B := w.heap.size) (args := [_, _]) Try.func66 rfl rfl rfl (Nat.le_refl _) (Sat.nil _ _) fun Q hQ => ?_
  refine wp_seq' fun K1 hK1 => ?_
  refine wp_reg ?_
  refine ol_r (r_assign rfl) rfl ?_
  refine ol_nil (to_k0 (fun _ _ h => h) (hK1 _ _ _ _ _ ?_))
  clear hK1
  refine wp_seq' fun K2 hK2 => ?_
  refine wp_reg ?_
  refine ol_r (r_move rfl) rfl ?_
  refine ol_r (r_move rfl) rfl ?_
  refine ol_call rfl rfl cb97 rfl (fun w1 hb1 hs1 hB1 => Calls.mono (indexFunc_gp _ _ _ xs g cv p _ (hx.at hb1 hB1) hg (fun x w' hm h1 h2 => hf x w' hm ((hb1.trans (h1.mono hB1))) (Nat.le_trans hB1 h2))) ?_)
  rintro e w2 ⟨rfl, hb2⟩
  refine After.below rfl hb1 hs1 hB1 hb2 ?_
  clear hb2 hB1 hs1 hb1 w2 w1
  refine ol_r (r_geq rfl rfl) rfl ?_
  refine ol_r (r_assign rfl) rfl ?_
  refine ol_nil (to_k0 (fun _ _ h => h) (hK2 _ _ _ _ _ ?_))
  clear hK2
  refine hQ.ret (rvs1 (rv_t rfl)) (fun _ _ h => h) fun w hb hs hB hkd => ?_
  exact ⟨by rw [idxP_any], hb⟩
theorem indexFunc_gu (a : Option Addr) (n c1 : Nat) (xs : List GUse) (g : FuncId) (cv : List Value) (p : GUse → Bool) (w : World) (hx : Rd encGUse w.heap.size w a n c1 xs) (hg : Callable Try.prog g)
    (hf : ∀ x w', x ∈ xs → Below w.heap.size w w' → w.heap.size ≤ w'.heap.size → Calls Try.prog g ([encGUse.val x] ++ cv).toArray w' fun e w2 => e = .returned (.bool (p x)) ∧ Below w'.heap.size w' w2) :
    Calls Try.prog 33 #[.slice a n c1, .func (.func g) #[] cv.toArray] w fun e w' => e = .returned (.int .i64 (idxP p xs)) ∧ Below w.heap.size w w' := by
  have hl := hx.len
  have hfit := hx.fit
  subst hl
  refine enterQ (N := 19) (C := fun _ => True) (H := []) (B := w.heap.size) (args := [_, _]) Try.func33 rfl rfl rfl (Nat.le_refl _) (Sat.nil _ _) fun Q hQ => ?_
  refine wp_seq' fun K1 hK1 => ?_
  refine wp_reg ?_
  refine ol_r (r_assign rfl) rfl ?_
  refine ol_nil (to_k0 (fun _ _ h => h) (hK1 _ _ _ _ _ ?_))
  clear hK1
  refine wp_seq' fun K2 hK2 => ?_
  refine wp_seq' fun K3 hK3 => ?_
  refine wp_reg ?_
  refine ol_r (r_move rfl) rfl ?_
  refine ol_r (r_len rfl sl25) rfl ?_
  refine ol_r (r_move rfl) rfl ?_
  refine ol_nil (to_k0 (fun _ _ h => h) (hK3 _ _ _ _ _ ?_))
  clear hK3
  refine wp_block' ?_
  apply wp_loopM (σ := Nat) (fun s => s ≤ xs.length ∧ ∀ y ∈ xs.take s, p y = false) (fun s => [(8, .int .i64 s)]) [(0, _), (1, _), (7, _)] (fun s => []) [] (fun s => xs.length - s) (0)
  ·try dsimp only
   simp
  ·exact (sub_cons rfl sub_nil)
  ·exact (sub_cons rfl (sub_cons rfl (sub_cons rfl sub_nil)))
  ·exact subH_nil
  ·exact subH_nil
  ·rintro k ⟨hk, hP⟩
   intro K4 hK4
   refine wp_seq' fun K5 hK5 => ?_
   refine wp_reg ?_
   refine ol_r (r_lss rfl rfl) rfl ?_
   refine ol_nil (to_k0 (fun _ _ h => h) (hK5 _ _ _ _ _ ?_))
   clear hK5
   refine wp_seq' fun K6 hK6 => ?_
   first | refine wp_condD rfl (fun hc9 => ?_) (fun hc9 => ?_) | refine wp_condN rfl (fun hc9 => ?_) (fun hc9 => ?_) | refine wp_condNB rfl (fun hc9 => ?_) (fun hc9 => ?_) | refine wp_cond' rfl (fun hc9 => ?_) (fun hc9 => ?_)
   ·refine wp_skip' (to_k0 (fun _ _ h => h) (hK6 _ _ _ _ _ ?_))
    clear hK6
    refine wp_seq' fun K7 hK7 => ?_
    refine wp_block' ?_
    refine wp_seq' fun K8 hK8 => ?_
    refine wp_reg ?_
    refine ol_r (r_move rfl) rfl ?_
    refine ol_r (r_assign rfl) rfl ?_
    refine ol_nil (to_k0 (fun _ _ h => h) (hK8 _ _ _ _ _ ?_))
    clear hK8
    refine wp_seq' fun K9 hK9 => ?_
    refine wp_reg ?_
    refine ol_r (r_move rfl) rfl ?_
    refine ol_r (r_move rfl) rfl ?_
    refine ol_r (r_move rfl) rfl ?_
    refine ol_ixr hx rfl rfl sl25 (by omega) rfl fun x14 hx14 => ?_
    try simp only [Int.toNat_natCast] at hx14
    refine ol_r (r_ldw rfl (fun w1 hb1 hs1 hB1 => Rd.loads hx ty46 hx14 hb1)) rfl ?_
    refine ol_call rfl rfl hg rfl (fun w1 hb1 hs1 hB1 => Calls.mono (hf _ _ (List.mem_of_getElem? hx14) hb1 hB1) ?_)
    rintro e w2 ⟨rfl, hb2⟩
    refine After.below rfl hb1 hs1 hB1 hb2 ?_
    clear hb2 hB1 hs1 hb1 w2 w1
    refine ol_nil (to_k0 (fun _ _ h => h) (hK9 _ _ _ _ _ ?_))
    clear hK9
    first | refine wp_condD rfl (fun hc16 => ?_) (fun hc16 => ?_) | refine wp_condN rfl (fun hc16 => ?_) (fun hc16 => ?_) | refine wp_condNB rfl (fun hc16 => ?_) (fun hc16 => ?_) | refine wp_cond' rfl (fun hc16 => ?_) (fun hc16 => ?_)
    ·refine wp_seq' fun K10 hK10 => ?_
     refine wp_reg ?_
     refine ol_r (r_move rfl) rfl ?_
     refine ol_r (r_assign rfl) rfl ?_
     refine ol_nil (to_k0 (fun _ _ h => h) (hK10 _ _ _ _ _ ?_))
     clear hK10
     refine hQ.ret (rvs1 (rv_t rfl)) (fun _ _ h => h) fun w hb hs hB hkd => ?_
     exact ⟨by rw [idxP_at hx14 hc16 hP], hb⟩
    ·refine wp_skip' (to_k0 (fun _ _ h => h) (hK7 _ _ _ _ _ ?_))
     clear hK7
     refine wp_reg ?_
     refine ol_r (r_add rfl rfl (by omega)) rfl ?_
     refine ol_r (r_move rfl) rfl ?_
     refine ol_nil (to_k0 (fun _ _ h => h) (hK4 (k + 1) _ _ ?_ ?_ (sub_cons rfl sub_nil) (sub_cons rfl (sub_cons rfl (sub_cons rfl sub_nil))) (by exact subH_nil) subH_nil))
     ·try dsimp only
      refine ⟨by omega, fun y hy => ?_⟩
      rw [take_succ_get hx14] at hy
      rcases List.mem_append.1 hy with h | h
      · exact hP y h
      · simp at h; subst h; exact hc16
     ·try dsimp only
      omega
   ·refine wp_exit' (to_k0 (fun _ _ h => h) (hK2 _ _ _ _ _ ?_))
    clear hK2
    refine wp_seq' fun K11 hK11 => ?_
    refine wp_reg ?_
    refine ol_r (r_assign rfl) rfl ?_
    refine ol_nil (to_k0 (fun _ _ h => h) (hK11 _ _ _ _ _ ?_))
    clear hK11
    refine hQ.ret (rvs1 (rv_t rfl)) (fun _ _ h => h) fun w hb hs hB hkd => ?_
    rw [List.take_of_length_le (by omega)] at hP
    exact ⟨by rw [idxP_no hP], hb⟩
theorem containsFunc_gu (a : Option Addr) (n c1 : Nat) (xs : List GUse) (g : FuncId) (cv : List Value) (p : GUse → Bool) (w : World) (hx : Rd encGUse w.heap.size w a n c1 xs) (hg : Callable Try.prog g)
    (hf : ∀ x w', x ∈ xs → Below w.heap.size w w' → w.heap.size ≤ w'.heap.size → Calls Try.prog g ([encGUse.val x] ++ cv).toArray w' fun e w2 => e = .returned (.bool (p x)) ∧ Below w'.heap.size w' w2) :
    Calls Try.prog 9 #[.slice a n c1, .func (.func g) #[] cv.toArray] w fun e w' => e = .returned (.bool (xs.any p)) ∧ Below w.heap.size w w' := by
  refine enterQ (N := 9) (C := fun _ => True) (H := []) (B := w.heap.size) (args := [_, _]) Try.func9 rfl rfl rfl (Nat.le_refl _) (Sat.nil _ _) fun Q hQ => ?_
  refine wp_seq' fun K1 hK1 => ?_
  refine wp_reg ?_
  refine ol_r (r_assign rfl) rfl ?_
  refine ol_nil (to_k0 (fun _ _ h => h) (hK1 _ _ _ _ _ ?_))
  clear hK1
  refine wp_seq' fun K2 hK2 => ?_
  refine wp_reg ?_
  refine ol_r (r_move rfl) rfl ?_
  refine ol_r (r_move rfl) rfl ?_
  refine ol_call rfl rfl cb33 rfl (fun w1 hb1 hs1 hB1 => Calls.mono (indexFunc_gu _ _ _ xs g cv p _ (hx.at hb1 hB1) hg (fun x w' hm h1 h2 => hf x w' hm ((hb1.trans (h1.mono hB1))) (Nat.le_trans hB1 h2))) ?_)
  rintro e w2 ⟨rfl, hb2⟩
  refine After.below rfl hb1 hs1 hB1 hb2 ?_
  clear hb2 hB1 hs1 hb1 w2 w1
  refine ol_r (r_geq rfl rfl) rfl ?_
  refine ol_r (r_assign rfl) rfl ?_
  refine ol_nil (to_k0 (fun _ _ h => h) (hK2 _ _ _ _ _ ?_))
  clear hK2
  refine hQ.ret (rvs1 (rv_t rfl)) (fun _ _ h => h) fun w hb hs hB hkd => ?_
  exact ⟨by rw [idxP_any], hb⟩
theorem has_part (x : GPart) (nm : ByteArray) (b : Nat) (w : World) (h1 : Blk w.heap.size w b [(0, .string nm)]) : Calls Try.prog 67 ([encGPart.val x] ++ [Value.pointer (some ⟨b, 0, none⟩)]).toArray w fun e w2 => e = .returned (.bool (sEq x.name nm)) ∧ Below w.heap.size w w2 := by
  refine enterQ (N := 8) (C := fun _ => True) (H := []) (B := w.heap.size) (args := [_, _]) Try.func67 rfl rfl rfl (Nat.le_refl _) (Sat.nil _ _) fun Q hQ => ?_
  refine wp_seq' fun K1 hK1 => ?_
  refine wp_reg ?_
  refine ol_box 2 rfl rfl rfl fun b2 => ?_
  refine ol_r (r_assign rfl) rfl ?_
  refine ol_nil (to_k0 (fun _ _ h => h) (hK1 _ _ _ _ _ ?_))
  clear hK1
  refine wp_seq' fun K2 hK2 => ?_
  refine wp_reg ?_
  refine ol_r (r_fa (o' := 0) rfl fl42_0 rfl) rfl ?_
  refine ol_r (r_ld (id := 2) rfl rfl rfl sc9) rfl ?_
  refine ol_r (r_ldw rfl (fun w1 hb1 hs1 hB1 => Blk.loads (o := 0) h1 hb1 sc9 rfl)) rfl ?_
  refine ol_r (r_seql rfl rfl) rfl ?_
  refine ol_r (r_assign rfl) rfl ?_
  refine ol_nil (to_k0 (fun _ _ h => h) (hK2 _ _ _ _ _ ?_))
  clear hK2
  refine hQ.ret (rvs1 (rv_t rfl)) (fun _ _ h => h) fun w hb hs hB hkd => ?_
  exact ⟨rfl, hb⟩
theorem gear_hasPart (G : GarV) (nm : ByteArray) (w : World) (hG : G.Ok w.heap.size w) : Calls Try.prog 34 #[.agg #[.slice G.pa G.pn G.pc, .slice G.sa G.sn G.sc, .slice G.ma G.mn G.mc, .slice G.ua G.un G.uc], .string nm] w fun e w' => e = .returned (.bool (G.ps.any fun x => sEq x.name nm)) ∧ Below w.heap.size w w' := by
  refine enterQ (N := 9) (C := fun _ => True) (H := []) (B := w.heap.size) (args := [_, _]) Try.func34 rfl rfl rfl (Nat.le_refl _) (Sat.nil _ _) fun Q hQ => ?_
  refine wp_seq' fun K1 hK1 => ?_
  refine wp_reg ?_
  refine ol_box 2 rfl rfl rfl fun b2 => ?_
  refine ol_box 3 rfl rfl rfl fun b3 => ?_
  refine ol_r (r_assign rfl) rfl ?_
  refine ol_nil (to_k0 (fun _ _ h => h) (hK1 _ _ _ _ _ ?_))
  clear hK1
  refine wp_seq' fun K2 hK2 => ?_
  refine wp_reg ?_
  refine ol_r (r_fa (o' := 0) rfl fl27_0 rfl) rfl ?_
  refine ol_r (r_ld (id := 2) rfl rfl rfl sc22) rfl ?_
  refine ol_r (r_func rfl) rfl ?_
  refine ol_call rfl rfl cb66 rfl (fun w1 hb1 hs1 hB1 => Calls.mono (containsFunc_gp _ _ _ G.ps _ [.pointer (some ⟨b3, 0, none⟩)] (fun x => sEq x.name nm) _ (hG.p.at hb1 hB1) cb67 (fun x w' _ h1 h2 => has_part x nm _ w' ((hs1.blk (id := 3) rfl).at h1 h2))) ?_)
  rintro e w2 ⟨rfl, hb2⟩
  refine After.below rfl hb1 hs1 hB1 hb2 ?_
  clear hb2 hB1 hs1 hb1 w2 w1
  refine ol_r (r_assign rfl) rfl ?_
  refine ol_nil (to_k0 (fun _ _ h => h) (hK2 _ _ _ _ _ ?_))
  clear hK2
  refine hQ.ret (rvs1 (rv_t rfl)) (fun _ _ h => h) fun w hb hs hB hkd => ?_
  exact ⟨rfl, hb⟩
def piecesG (g : GarD) : List GPiece := if gchkG g ≠ 0 then [] else (allP g).map (·.2)
theorem piecesG_e {g : GarD} (h : gchkG g ≠ 0) : piecesG g = [] := if_pos h
theorem piecesG_0 {g : GarD} (h : gchkG g = 0) : piecesG g = (allP g).map (·.2) := if_neg (fun h1 => h1 h)
theorem gear_Pieces (G : GarV) (w : World) (hG : G.Ok w.heap.size w) : Calls Try.prog 6 #[.agg #[.slice G.pa G.pn G.pc, .slice G.sa G.sn G.sc, .slice G.ma G.mn G.mc, .slice G.ua G.un G.uc]] w fun e w' => ∃ b m k, e = .returned (.tuple #[.slice b m k, .int .i64 (gchkG G.toGarD)]) ∧ Fresh encGPiece 36 w w' b m k (piecesG G.toGarD) := by
  refine enterQ (N := 15) (C := fun _ => True) (H := []) (B := w.heap.size) (args := [_]) Try.func6 rfl rfl rfl (Nat.le_refl _) (Sat.nil _ _) fun Q hQ => ?_
  refine wp_seq' fun K1 hK1 => ?_
  refine wp_reg ?_
  refine ol_box 1 rfl rfl rfl fun b1 => ?_
  refine ol_r (r_assign rfl) rfl ?_
  refine ol_r (r_assign rfl) rfl ?_
  refine ol_nil (to_k0 (fun _ _ h => h) (hK1 _ _ _ _ _ ?_))
  clear hK1
  refine wp_seq' fun K2 hK2 => ?_
  refine wp_seq' fun K3 hK3 => ?_
  refine wp_reg ?_
  refine ol_r (r_lda (id := 1) (n := 4) rfl rfl rfl ag27) rfl ?_
  refine ol_call rfl rfl cb28 rfl (fun w1 hb1 hs1 hB1 => Calls.mono (gear_Check G _ (hG.at hb1 hB1)) ?_)
  rintro e w2 ⟨rfl, hb2⟩
  refine After.below rfl hb1 hs1 hB1 hb2 ?_
  clear hb2 hB1 hs1 hb1 w2 w1
  refine ol_r (r_assign rfl) rfl ?_
  refine ol_nil (to_k0 (fun _ _ h => h) (hK3 _ _ _ _ _ ?_))
  clear hK3
  refine wp_seq' fun K4 hK4 => ?_
  refine wp_reg ?_
  refine ol_r (r_move rfl) rfl ?_
  refine ol_r (r_neq rfl rfl) rfl ?_
  refine ol_nil (to_k0 (fun _ _ h => h) (hK4 _ _ _ _ _ ?_))
  clear hK4
  first | refine wp_condD rfl (fun hc9 => ?_) (fun hc9 => ?_) | refine wp_condN rfl (fun hc9 => ?_) (fun hc9 => ?_) | refine wp_condNB rfl (fun hc9 => ?_) (fun hc9 => ?_) | refine wp_cond' rfl (fun hc9 => ?_) (fun hc9 => ?_)
  ·refine wp_seq' fun K5 hK5 => ?_
   refine wp_reg ?_
   refine ol_r (r_move rfl) rfl ?_
   refine ol_r (r_assign rfl) rfl ?_
   refine ol_r (r_assign rfl) rfl ?_
   refine ol_nil (to_k0 (fun _ _ h => h) (hK5 _ _ _ _ _ ?_))
   clear hK5
   refine hQ.ret (rvs2 (rv_t rfl) (rv_t rfl)) (fun _ _ h => h) fun w hb hs hB hkd => ?_
   exact ⟨none, 0, 0, rfl, by rw [piecesG_e hc9]; exact Fresh.nil hb⟩
  ·refine wp_skip' (to_k0 (fun _ _ h => h) (hK2 _ _ _ _ _ ?_))
   clear hK2
   refine wp_seq' fun K6 hK6 => ?_
   refine wp_reg ?_
   refine ol_alloc 5 z28 rfl fun b5 => ?_
   refine ol_nilrow 3005 36 5 ?_
   refine ol_nil (to_k0 (fun _ _ h => h) (hK6 _ _ _ _ _ ?_))
   clear hK6
   refine wp_seq' fun K7 hK7 => ?_
   refine wp_reg ?_
   refine ol_r (r_lda (id := 1) (n := 4) rfl rfl rfl ag27) rfl ?_
   refine ol_r (r_func rfl) rfl ?_
   refine ol_call rfl rfl cb29 rfl (fun w1 hb1 hs1 hB1 => ?_)
   refine Calls.mono (each_P G w.heap.size b5 .gone _ (hG.below hb1) (garOk (Decidable.not_not.1 hc9)) hB1 ((hs1.forget 4003).kle [(5, 301), (3005, 302), (4003, 303)] (kle_cons rfl ⟨rfl, rfl, Sub.out (sub_cons rfl sub_nil)⟩ (kle_cons rfl (row_le rfl) (kle_cons rfl (Ent.le_refl _) kle_nil))) (by decide))) ?_
   rintro e w2 ⟨a, n, c, rfl, hb2, hs2, hB2, hk2, hn2⟩
   refine After.sat rfl hb1 hb2 (hs2.kle [(301, 5), (302, 3005)] (kle_cons rfl (Ent.le_refl _) (kle_cons rfl (Ent.le_refl _) kle_nil)) (by decide)) hB2 (hk2.imp fun _ h => h.elim) ?_
   clear hk2 hs2 hb2 hB2 hB1 hs1 hb1 w2 w1
   refine ol_nil (to_k0 (fun _ _ h => h) (hK7 _ _ _ _ _ ?_))
   clear hK7
   refine wp_seq' fun K8 hK8 => ?_
   refine wp_reg ?_
   refine ol_r (r_ld (id := 5) rfl rfl rfl sc28) rfl ?_
   refine ol_r (r_assign rfl) rfl ?_
   refine ol_r (r_assign rfl) rfl ?_
   refine ol_nil (to_k0 (fun _ _ h => h) (hK8 _ _ _ _ _ ?_))
   clear hK8
   refine hQ.ret (rvs2 (rv_t rfl) (rv_t rfl)) (fun _ _ h => h) fun w hb hs hB hkd => ?_
   exact ⟨_, _, _, by rw [Decidable.not_not.1 hc9], by rw [piecesG_0 (Decidable.not_not.1 hc9)]; exact ⟨hb, hs.ok 3005 _ rfl⟩⟩
theorem gear_wearOf (G : GarV) (part : ByteArray) (fr to : Int) (w : World) (hG : G.Ok w.heap.size w) (hg : GarOk G.toGarD) : Calls Try.prog 36 #[.agg #[.slice G.pa G.pn G.pc, .slice G.sa G.sn G.sc, .slice G.ma G.mn G.mc, .slice G.ua G.un G.uc], .string part, .int .i64 fr, .int .i64 to] w fun e w' => e = .returned (.agg #[.int .i64 (wrF part fr to (allP G.toGarD)).1, .int .i64 (wrF part fr to (allP G.toGarD)).2.1, .int .i64 (wrF part fr to (allP G.toGarD)).2.2.1]) ∧ Below w.heap.size w w' := by
  refine enterQ (N := 15) (C := fun _ => True) (H := []) (B := w.heap.size) (args := [_, _, _, _]) Try.func36 rfl rfl rfl (Nat.le_refl _) (Sat.nil _ _) fun Q hQ => ?_
  refine wp_seq' fun K1 hK1 => ?_
  refine wp_reg ?_
  refine ol_box 4 rfl rfl rfl fun b4 => ?_
  refine ol_box 5 rfl rfl rfl fun b5 => ?_
  refine ol_box 6 rfl rfl rfl fun b6 => ?_
  refine ol_box 7 rfl rfl rfl fun b7 => ?_
  refine ol_alloc 8 z38 rfl fun b8 => ?_
  refine ol_nil (to_k0 (fun _ _ h => h) (hK1 _ _ _ _ _ ?_))
  clear hK1
  refine wp_seq' fun K2 hK2 => ?_
  refine wp_reg ?_
  refine ol_alloc 9 z38 rfl fun b9 => ?_
  refine ol_nil (to_k0 (fun _ _ h => h) (hK2 _ _ _ _ _ ?_))
  clear hK2
  refine wp_seq' fun K3 hK3 => ?_
  refine wp_reg ?_
  refine ol_alloc 10 z9 rfl fun b10 => ?_
  refine ol_store (id := 10) rfl rfl rfl rfl sz9 rfl rfl (by first | decide | exact Nat.zero_lt_succ _ | simp) ?_
  refine ol_nil (to_k0 (fun _ _ h => h) (hK3 _ _ _ _ _ ?_))
  clear hK3
  refine wp_seq' fun K4 hK4 => ?_
  refine wp_reg ?_
  refine ol_r (r_lda (id := 4) (n := 4) rfl rfl rfl ag27) rfl ?_
  refine ol_r (r_func rfl) rfl ?_
  refine ol_call rfl rfl cb29 rfl (fun w1 hb1 hs1 hB1 => ?_)
  refine Calls.mono (each_W G w.heap.size b5 b6 b7 b9 b10 part fr to _ _ (hG.below hb1) hg hB1 (hs1.kle [(5, 301), (6, 302), (7, 303), (9, 304), (10, 305), (8, 306)] (kle_cons rfl ⟨rfl, rfl, Sub.out (sub_cons rfl sub_nil)⟩ (kle_cons rfl ⟨rfl, rfl, Sub.out (sub_cons rfl sub_nil)⟩ (kle_cons rfl ⟨rfl, rfl, Sub.out (sub_cons rfl sub_nil)⟩ (kle_cons rfl ⟨rfl, rfl, Sub.out (sub_cons rfl (sub_cons rfl (sub_cons rfl sub_nil)))⟩ (kle_cons rfl ⟨rfl, rfl, Sub.out (sub_cons rfl sub_nil)⟩ (kle_cons rfl (Ent.le_refl _) kle_nil)))))) (by decide))) ?_
  rintro e w2 ⟨rfl, hb2, hs2, hB2, hk2⟩
  refine After.sat rfl hb1 hb2 (hs2.kle [(304, 9), (306, 8)] (kle_cons rfl (Ent.le_refl _) (kle_cons rfl (Ent.le_refl _) kle_nil)) (by decide)) hB2 (hk2.imp fun _ h => h.elim) ?_
  clear hk2 hs2 hb2 hB2 hB1 hs1 hb1 w2 w1
  refine ol_nil (to_k0 (fun _ _ h => h) (hK4 _ _ _ _ _ ?_))
  clear hK4
  refine wp_seq' fun K5 hK5 => ?_
  refine wp_reg ?_
  refine ol_r (r_lda (id := 9) (n := 3) rfl rfl rfl ag38) rfl ?_
  refine ol_store (id := 8) rfl rfl rfl rfl sz38 rfl rfl (by first | decide | exact Nat.zero_lt_succ _ | simp) ?_
  refine ol_nil (to_k0 (fun _ _ h => h) (hK5 _ _ _ _ _ ?_))
  clear hK5
  refine hQ.ret (rvs1 (rv_c (id := 8) (n := 3) rfl rfl ag38 rfl)) (fun _ _ h => h) fun w hb hs hB hkd => ?_
  exact ⟨rfl, hb⟩
theorem gear_WearOf (G : GarV) (part : ByteArray) (w : World) (hG : G.Ok w.heap.size w) (hc : gchkG G.toGarD = 0) (hp : (G.ps.any fun x => sEq x.name part) = true) : Calls Try.prog 11 #[.agg #[.slice G.pa G.pn G.pc, .slice G.sa G.sn G.sc, .slice G.ma G.mn G.mc, .slice G.ua G.un G.uc], .string part, .int .i64 0, .int .i64 86399999999] w fun e w' => e = .returned (.tuple #[.agg #[.int .i64 (wrF part 0 86399999999 (allP G.toGarD)).1, .int .i64 (wrF part 0 86399999999 (allP G.toGarD)).2.1, .int .i64 (wrF part 0 86399999999 (allP G.toGarD)).2.2.1], .int .i64 0]) ∧ Below w.heap.size w w' := by
  have hm1 : momB 0 = true := by decide
  have hm2 : momB 86399999999 = true := by decide
  refine enterQ (N := 43) (C := fun _ => True) (H := []) (B := w.heap.size) (args := [_, _, _, _]) Try.func11 rfl rfl rfl (Nat.le_refl _) (Sat.nil _ _) fun Q hQ => ?_
  refine wp_seq' fun K1 hK1 => ?_
  refine wp_reg ?_
  refine ol_box 4 rfl rfl rfl fun b4 => ?_
  refine ol_alloc 8 z38 rfl fun b8 => ?_
  refine ol_r (r_assign rfl) rfl ?_
  refine ol_nil (to_k0 (fun _ _ h => h) (hK1 _ _ _ _ _ ?_))
  clear hK1
  refine wp_seq' fun K2 hK2 => ?_
  refine wp_seq' fun K3 hK3 => ?_
  refine wp_reg ?_
  refine ol_r (r_lda (id := 4) (n := 4) rfl rfl rfl ag27) rfl ?_
  refine ol_call rfl rfl cb28 rfl (fun w1 hb1 hs1 hB1 => Calls.mono (gear_Check G _ (hG.at hb1 hB1)) ?_)
  rintro e w2 ⟨rfl, hb2⟩
  refine After.below rfl hb1 hs1 hB1 hb2 ?_
  clear hb2 hB1 hs1 hb1 w2 w1
  refine ol_r (r_assign rfl) rfl ?_
  refine ol_nil (to_k0 (fun _ _ h => h) (hK3 _ _ _ _ _ ?_))
  clear hK3
  refine wp_seq' fun K4 hK4 => ?_
  refine wp_reg ?_
  refine ol_r (r_move rfl) rfl ?_
  refine ol_r (r_neq rfl rfl) rfl ?_
  refine ol_nil (to_k0 (fun _ _ h => h) (hK4 _ _ _ _ _ ?_))
  clear hK4
  first | refine wp_condD rfl (fun hc14 => ?_) (fun hc14 => ?_) | refine wp_condN rfl (fun hc14 => ?_) (fun hc14 => ?_) | refine wp_condNB rfl (fun hc14 => ?_) (fun hc14 => ?_) | refine wp_cond' rfl (fun hc14 => ?_) (fun hc14 => ?_)
  ·exfalso
   exact hc14 hc
  ·refine wp_skip' (to_k0 (fun _ _ h => h) (hK2 _ _ _ _ _ ?_))
   clear hK2
   refine wp_seq' fun K5 hK5 => ?_
   refine wp_block' ?_
   refine wp_seq' fun K6 hK6 => ?_
   refine wp_reg ?_
   refine ol_r (r_lda (id := 4) (n := 4) rfl rfl rfl ag27) rfl ?_
   refine ol_r (r_move rfl) rfl ?_
   refine ol_call rfl rfl cb34 rfl (fun w1 hb1 hs1 hB1 => Calls.mono (gear_hasPart G part _ (hG.at hb1 hB1)) ?_)
   rintro e w2 ⟨rfl, hb2⟩
   refine After.below rfl hb1 hs1 hB1 hb2 ?_
   clear hb2 hB1 hs1 hb1 w2 w1
   refine ol_r (r_not rfl) rfl ?_
   refine ol_r (r_assign rfl) rfl ?_
   refine ol_nil (to_k0 (fun _ _ h => h) (hK6 _ _ _ _ _ ?_))
   clear hK6
   first | refine wp_condD rfl (fun hc17 => ?_) (fun hc17 => ?_) | refine wp_condN rfl (fun hc17 => ?_) (fun hc17 => ?_) | refine wp_condNB rfl (fun hc17 => ?_) (fun hc17 => ?_) | refine wp_cond' rfl (fun hc17 => ?_) (fun hc17 => ?_)
   ·exfalso
    exact tf_no hp hc17
   ·refine wp_seq' fun K7 hK7 => ?_
    refine wp_reg ?_
    refine ol_r (r_move rfl) rfl ?_
    refine ol_call rfl rfl cb35 rfl (fun w1 hb1 hs1 hB1 => Calls.mono (gear_isMoment _ _) ?_)
    rintro e w2 ⟨rfl, hb2⟩
    refine After.below rfl hb1 hs1 hB1 hb2 ?_
    clear hb2 hB1 hs1 hb1 w2 w1
    refine ol_r (r_not rfl) rfl ?_
    refine ol_r (r_move rfl) rfl ?_
    refine ol_split (d := 27) rfl (fun hs27 => ?_) (fun hs27 => ?_)
    ·have phs27 := hs27; try simp only [decide_eq_true_eq, decide_eq_false_iff_not, Bool.not_eq_true', Bool.not_eq_false', Bool.not_true, Bool.not_false] at phs27
     exfalso
     exact tf_no hm1 phs27
    ·have phs27 := hs27; try simp only [decide_eq_true_eq, decide_eq_false_iff_not, Bool.not_eq_true', Bool.not_eq_false', Bool.not_true, Bool.not_false] at phs27
     refine ol_g rfl rfl hs27 ?_
     refine ol_r (r_move rfl) rfl ?_
     refine ol_g rfl rfl hs27 ?_
     refine ol_call rfl rfl cb35 rfl (fun w1 hb1 hs1 hB1 => Calls.mono (gear_isMoment _ _) ?_)
     rintro e w2 ⟨rfl, hb2⟩
     refine After.below rfl hb1 hs1 hB1 hb2 ?_
     clear hb2 hB1 hs1 hb1 w2 w1
     refine ol_g rfl rfl hs27 ?_
     refine ol_r (r_not rfl) rfl ?_
     refine ol_r (r_pickF rfl hs27 rfl) rfl ?_
     refine ol_r (r_assign rfl) rfl ?_
     refine ol_nil (to_k0 (fun _ _ h => h) (hK7 _ _ _ _ _ ?_))
     clear hK7
     first | refine wp_condD rfl (fun hc23 => ?_) (fun hc23 => ?_) | refine wp_condN rfl (fun hc23 => ?_) (fun hc23 => ?_) | refine wp_condNB rfl (fun hc23 => ?_) (fun hc23 => ?_) | refine wp_cond' rfl (fun hc23 => ?_) (fun hc23 => ?_)
     ·exfalso
      exact tf_no hm2 hc23
     ·refine wp_seq' fun K8 hK8 => ?_
      refine wp_reg ?_
      refine ol_r (r_move rfl) rfl ?_
      refine ol_r (r_move rfl) rfl ?_
      refine ol_r (r_lss rfl rfl) rfl ?_
      refine ol_r (r_assign rfl) rfl ?_
      refine ol_nil (to_k0 (fun _ _ h => h) (hK8 _ _ _ _ _ ?_))
      clear hK8
      first | refine wp_condD rfl (fun hc33 => ?_) (fun hc33 => ?_) | refine wp_condN rfl (fun hc33 => ?_) (fun hc33 => ?_) | refine wp_condNB rfl (fun hc33 => ?_) (fun hc33 => ?_) | refine wp_cond' rfl (fun hc33 => ?_) (fun hc33 => ?_)
      ·exfalso
       omega
      ·refine wp_skip' (to_k0 (fun _ _ h => h) (hK5 _ _ _ _ _ ?_))
       clear hK5
       refine wp_seq' fun K9 hK9 => ?_
       refine wp_reg ?_
       refine ol_r (r_lda (id := 4) (n := 4) rfl rfl rfl ag27) rfl ?_
       refine ol_r (r_move rfl) rfl ?_
       refine ol_r (r_move rfl) rfl ?_
       refine ol_r (r_move rfl) rfl ?_
       refine ol_call rfl rfl cb36 rfl (fun w1 hb1 hs1 hB1 => Calls.mono (gear_wearOf G part 0 86399999999 _ (hG.at hb1 hB1) (garOk hc)) ?_)
       rintro e w2 ⟨rfl, hb2⟩
       refine After.below rfl hb1 hs1 hB1 hb2 ?_
       clear hb2 hB1 hs1 hb1 w2 w1
       refine ol_store (id := 8) rfl rfl rfl rfl sz38 rfl rfl (by first | decide | exact Nat.zero_lt_succ _ | simp) ?_
       refine ol_r (r_assign rfl) rfl ?_
       refine ol_nil (to_k0 (fun _ _ h => h) (hK9 _ _ _ _ _ ?_))
       clear hK9
       refine hQ.ret (rvs2 (rv_c (id := 8) (n := 3) rfl rfl ag38 rfl) (rv_t rfl)) (fun _ _ h => h) fun w hb hs hB hkd => ?_
       first
         | exact ⟨rfl, hb⟩
         | (exfalso; exact tf_no hm1 phs27)
theorem gear_Total (G : GarV) (rig : ByteArray) (w : World) (hG : G.Ok w.heap.size w) (hc : gchkG G.toGarD = 0) (hr : nameB rig = true) (hz : rig.size ≤ 9223372036854775807) : Calls Try.prog 8 #[.agg #[.slice G.pa G.pn G.pc, .slice G.sa G.sn G.sc, .slice G.ma G.mn G.mc, .slice G.ua G.un G.uc], .string rig] w fun e w' => ∃ N : Int, e = .returned (.tuple #[.agg #[.int .i64 (totS (·.sec) rig G.us), .int .i64 (totS (·.way) rig G.us), .int .i64 N], .int .i64 0]) ∧ Below w.heap.size w w' := by
  have hg := garOk hc
  have hun := hG.u.len
  have hl2 := hg.u
  refine enterQ (N := 49) (C := fun _ => True) (H := []) (B := w.heap.size) (args := [_, _]) Try.func8 rfl rfl rfl (Nat.le_refl _) (Sat.nil _ _) fun Q hQ => ?_
  refine wp_seq' fun K1 hK1 => ?_
  refine wp_reg ?_
  refine ol_box 2 rfl rfl rfl fun b2 => ?_
  refine ol_alloc 4 z38 rfl fun b4 => ?_
  refine ol_r (r_assign rfl) rfl ?_
  refine ol_nil (to_k0 (fun _ _ h => h) (hK1 _ _ _ _ _ ?_))
  clear hK1
  refine wp_seq' fun K2 hK2 => ?_
  refine wp_seq' fun K3 hK3 => ?_
  refine wp_reg ?_
  refine ol_r (r_lda (id := 2) (n := 4) rfl rfl rfl ag27) rfl ?_
  refine ol_call rfl rfl cb28 rfl (fun w1 hb1 hs1 hB1 => Calls.mono (gear_Check G _ (hG.at hb1 hB1)) ?_)
  rintro e w2 ⟨rfl, hb2⟩
  refine After.below rfl hb1 hs1 hB1 hb2 ?_
  clear hb2 hB1 hs1 hb1 w2 w1
  refine ol_r (r_assign rfl) rfl ?_
  refine ol_nil (to_k0 (fun _ _ h => h) (hK3 _ _ _ _ _ ?_))
  clear hK3
  refine wp_seq' fun K4 hK4 => ?_
  refine wp_reg ?_
  refine ol_r (r_move rfl) rfl ?_
  refine ol_r (r_neq rfl rfl) rfl ?_
  refine ol_nil (to_k0 (fun _ _ h => h) (hK4 _ _ _ _ _ ?_))
  clear hK4
  first | refine wp_condD rfl (fun hc13 => ?_) (fun hc13 => ?_) | refine wp_condN rfl (fun hc13 => ?_) (fun hc13 => ?_) | refine wp_condNB rfl (fun hc13 => ?_) (fun hc13 => ?_) | refine wp_cond' rfl (fun hc13 => ?_) (fun hc13 => ?_)
  ·exfalso
   exact hc13 hc
  ·refine wp_skip' (to_k0 (fun _ _ h => h) (hK2 _ _ _ _ _ ?_))
   clear hK2
   refine wp_seq' fun K5 hK5 => ?_
   refine wp_seq' fun K6 hK6 => ?_
   refine wp_reg ?_
   refine ol_r (r_move rfl) rfl ?_
   refine ol_call rfl rfl cb32 rfl (fun w1 hb1 hs1 hB1 => Calls.mono (quant_IsName rig _ hz) ?_)
   rintro e w2 ⟨rfl, hb2⟩
   refine After.below rfl hb1 hs1 hB1 hb2 ?_
   clear hb2 hB1 hs1 hb1 w2 w1
   refine ol_r (r_not rfl) rfl ?_
   refine ol_nil (to_k0 (fun _ _ h => h) (hK6 _ _ _ _ _ ?_))
   clear hK6
   first | refine wp_condD rfl (fun hc18 => ?_) (fun hc18 => ?_) | refine wp_condN rfl (fun hc18 => ?_) (fun hc18 => ?_) | refine wp_condNB rfl (fun hc18 => ?_) (fun hc18 => ?_) | refine wp_cond' rfl (fun hc18 => ?_) (fun hc18 => ?_)
   ·exfalso
    exact tf_no hr hc18
   ·refine wp_skip' (to_k0 (fun _ _ h => h) (hK5 _ _ _ _ _ ?_))
    clear hK5
    refine wp_seq' fun K7 hK7 => ?_
    refine wp_reg ?_
    refine ol_alloc 7 z38 rfl fun b7 => ?_
    refine ol_nil (to_k0 (fun _ _ h => h) (hK7 _ _ _ _ _ ?_))
    clear hK7
    refine wp_seq' fun K8 hK8 => ?_
    refine wp_seq' fun K9 hK9 => ?_
    refine wp_reg ?_
    refine ol_r (r_fa (o' := 3) rfl fl27_3 rfl) rfl ?_
    refine ol_r (r_ld (id := 2) rfl rfl rfl sc25) rfl ?_
    refine ol_r (r_len rfl sl25) rfl ?_
    refine ol_r (r_move rfl) rfl ?_
    refine ol_nil (to_k0 (fun _ _ h => h) (hK9 _ _ _ _ _ ?_))
    clear hK9
    refine wp_block' ?_
    apply wp_loopM (σ := Nat × Int × Int × Int) (fun s => s.1 ≤ G.un ∧ s.2.1 = totS (·.sec) rig (G.us.take s.1) ∧ s.2.2.1 = totS (·.way) rig (G.us.take s.1) ∧ 0 ≤ s.2.2.2 ∧ s.2.2.2 ≤ s.1) (fun s => [(23, .int .i64 s.1)]) [(1, _), (4, _), (5, _), (7, _), (21, _), (22, _)] (fun s => [(7, .blk b7 [(0, .int .i64 s.2.1), (1, .int .i64 s.2.2.1), (2, .int .i64 s.2.2.2)] 38)]) [(2, _), (4, _)] (fun s => G.un - s.1) ((0, 0, 0, 0))
    ·try dsimp only
     exact ⟨Nat.zero_le _, rfl, rfl, Int.le_refl _, Int.le_refl _⟩
    ·exact (sub_cons rfl sub_nil)
    ·exact (sub_cons rfl (sub_cons rfl (sub_cons rfl (sub_cons rfl (sub_cons rfl (sub_cons rfl sub_nil))))))
    ·exact (subH_blk rfl (sub_cons rfl (sub_cons rfl (sub_cons rfl sub_nil))) subH_nil)
    ·exact (subH_same rfl (subH_same rfl subH_nil))
    ·rintro ⟨k, S, W, N⟩ ⟨hk, hS, hW, hN1, hN2⟩
     dsimp only at hk hS hW hN1 hN2 ⊢
     have hb1 := totS_bd (rig := rig) (f := (·.sec)) (us := G.us.take k) (b := 1000000) (by omega) fun u hu => by have := (hg.use u (List.mem_of_mem_take hu)).sec; omega
     have hb2 := totS_bd (rig := rig) (f := (·.way)) (us := G.us.take k) (b := 1000000000) (by omega) fun u hu => by have := (hg.use u (List.mem_of_mem_take hu)).way; omega
     rw [← hS, List.length_take] at hb1
     rw [← hW, List.length_take] at hb2
     intro K10 hK10
     refine wp_seq' fun K11 hK11 => ?_
     refine wp_reg ?_
     refine ol_r (r_lss rfl rfl) rfl ?_
     refine ol_nil (to_k0 (fun _ _ h => h) (hK11 _ _ _ _ _ ?_))
     clear hK11
     refine wp_seq' fun K12 hK12 => ?_
     first | refine wp_condD rfl (fun hc24 => ?_) (fun hc24 => ?_) | refine wp_condN rfl (fun hc24 => ?_) (fun hc24 => ?_) | refine wp_condNB rfl (fun hc24 => ?_) (fun hc24 => ?_) | refine wp_cond' rfl (fun hc24 => ?_) (fun hc24 => ?_)
     ·refine wp_skip' (to_k0 (fun _ _ h => h) (hK12 _ _ _ _ _ ?_))
      clear hK12
      refine wp_seq' fun K13 hK13 => ?_
      refine wp_block' ?_
      refine wp_seq' fun K14 hK14 => ?_
      refine wp_reg ?_
      refine ol_ixr hG.u rfl rfl sl25 (by omega) rfl fun x25 hx25 => ?_
      try simp only [Int.toNat_natCast] at hx25
      refine ol_r (r_ldw rfl (fun w1 hb1 hs1 hB1 => Rd.loads hG.u ty46 hx25 hb1)) rfl ?_
      refine ol_alloc 9 z46 rfl fun b9 => ?_
      refine ol_store (id := 9) rfl rfl rfl rfl sz46 rfl rfl (by first | decide | exact Nat.zero_lt_succ _ | simp) ?_
      refine ol_nil (to_k0 (fun _ _ h => h) (hK14 _ _ _ _ _ ?_))
      clear hK14
      refine wp_seq' fun K15 hK15 => ?_
      refine wp_reg ?_
      refine ol_r (r_fa (o' := 1) rfl fl46_1 rfl) rfl ?_
      refine ol_r (r_ld (id := 9) rfl rfl rfl sc9) rfl ?_
      refine ol_r (r_move rfl) rfl ?_
      refine ol_r (r_seql rfl rfl) rfl ?_
      refine ol_nil (to_k0 (fun _ _ h => h) (hK15 _ _ _ _ _ ?_))
      clear hK15
      first | refine wp_condD rfl (fun hc30 => ?_) (fun hc30 => ?_) | refine wp_condN rfl (fun hc30 => ?_) (fun hc30 => ?_) | refine wp_condNB rfl (fun hc30 => ?_) (fun hc30 => ?_) | refine wp_cond' rfl (fun hc30 => ?_) (fun hc30 => ?_)
      ·refine wp_rega [(999, [(2, _), (4, _), (9, _)]), (14, [(7, _)])] (by kernel_rfl) ⟨.inr (subH_same rfl (subH_same rfl (subH_same rfl subH_nil))), ⟨.inr (subH_same rfl subH_nil), trivial⟩⟩ ?_
       have hux := hg.use x25 (List.mem_of_getElem? hx25)
       have hux1 := hux.sec
       have hux2 := hux.way
       refine aq_r 0 999 rfl (by kernel_rfl) (by kernel_rfl) (by kernel_rfl) (.head _) (by kernel_rfl) (by kernel_rfl) rfl (r_fa (o' := 0) rfl fl38_0 rfl) ?_
       refine aq_r 1 14 rfl (by kernel_rfl) (by kernel_rfl) (by kernel_rfl) (.tail _ (.head _)) (by kernel_rfl) (by kernel_rfl) rfl (r_ld (id := 7) rfl rfl rfl sc3) ?_
       refine aq_r 2 999 rfl (by kernel_rfl) (by kernel_rfl) (by kernel_rfl) (.head _) (by kernel_rfl) (by kernel_rfl) rfl (r_fa (o' := 3) rfl fl46_3 rfl) ?_
       refine aq_r 3 999 rfl (by kernel_rfl) (by kernel_rfl) (by kernel_rfl) (.head _) (by kernel_rfl) (by kernel_rfl) rfl (r_ld (id := 9) rfl rfl rfl sc3) ?_
       refine aq_r 4 999 rfl (by kernel_rfl) (by kernel_rfl) (by kernel_rfl) (.head _) (by kernel_rfl) (by kernel_rfl) rfl (r_add rfl rfl (by omega)) ?_
       refine aq_r 5 999 rfl (by kernel_rfl) (by kernel_rfl) (by kernel_rfl) (.head _) (by kernel_rfl) (by kernel_rfl) rfl (r_fa (o' := 1) rfl fl38_1 rfl) ?_
       refine aq_r 6 14 rfl (by kernel_rfl) (by kernel_rfl) (by kernel_rfl) (.tail _ (.head _)) (by kernel_rfl) (by kernel_rfl) rfl (r_ld (id := 7) rfl rfl rfl sc3) ?_
       refine aq_r 7 999 rfl (by kernel_rfl) (by kernel_rfl) (by kernel_rfl) (.head _) (by kernel_rfl) (by kernel_rfl) rfl (r_fa (o' := 4) rfl fl46_4 rfl) ?_
       refine aq_r 8 999 rfl (by kernel_rfl) (by kernel_rfl) (by kernel_rfl) (.head _) (by kernel_rfl) (by kernel_rfl) rfl (r_ld (id := 9) rfl rfl rfl sc3) ?_
       refine aq_r 9 999 rfl (by kernel_rfl) (by kernel_rfl) (by kernel_rfl) (.head _) (by kernel_rfl) (by kernel_rfl) rfl (r_add rfl rfl (by omega)) ?_
       refine aq_r 10 999 rfl (by kernel_rfl) (by kernel_rfl) (by kernel_rfl) (.head _) (by kernel_rfl) (by kernel_rfl) rfl (r_fa (o' := 2) rfl fl38_2 rfl) ?_
       refine aq_r 11 14 rfl (by kernel_rfl) (by kernel_rfl) (by kernel_rfl) (.tail _ (.head _)) (by kernel_rfl) (by kernel_rfl) rfl (r_ld (id := 7) rfl rfl rfl sc3) ?_
       refine aq_r 12 999 rfl (by kernel_rfl) (by kernel_rfl) (by kernel_rfl) (.head _) (by kernel_rfl) (by kernel_rfl) rfl (r_add rfl rfl (by omega)) ?_
       refine aq_r 13 999 rfl (by kernel_rfl) (by kernel_rfl) (by kernel_rfl) (.head _) (by kernel_rfl) (by kernel_rfl) rfl (r_fa (o' := 0) rfl fl38_0 rfl) ?_
       refine aq_one (i := 14) (by kernel_rfl) rfl fun K16 hK16 => ?_
       refine ol_store (id := 7) rfl rfl rfl rfl sz3 rfl rfl (by first | decide | exact Nat.zero_lt_succ _ | simp) ?_
       refine ol_nil (to_k0 (fun _ _ h => h) (hK16 _ _ ⟨.inr (by repeat' first | exact subH_nil | refine subH_same rfl ?_ | (refine subH_blk rfl (by repeat' first | exact sub_nil | refine sub_cons rfl ?_) ?_)), ⟨.inl (by kernel_rfl), trivial⟩⟩ ?_))
       clear hK16
       refine aq_r 15 999 rfl (by kernel_rfl) (by kernel_rfl) (by kernel_rfl) (.head _) (by kernel_rfl) (by kernel_rfl) rfl (r_fa (o' := 1) rfl fl38_1 rfl) ?_
       refine aq_one (i := 16) (by kernel_rfl) rfl fun K17 hK17 => ?_
       refine ol_store (id := 7) rfl rfl rfl rfl sz3 rfl rfl (by first | decide | exact Nat.zero_lt_succ _ | simp) ?_
       refine ol_nil (to_k0 (fun _ _ h => h) (hK17 _ _ ⟨.inr (by repeat' first | exact subH_nil | refine subH_same rfl ?_ | (refine subH_blk rfl (by repeat' first | exact sub_nil | refine sub_cons rfl ?_) ?_)), ⟨.inl (by kernel_rfl), trivial⟩⟩ ?_))
       clear hK17
       refine aq_r 17 999 rfl (by kernel_rfl) (by kernel_rfl) (by kernel_rfl) (.head _) (by kernel_rfl) (by kernel_rfl) rfl (r_fa (o' := 2) rfl fl38_2 rfl) ?_
       refine aq_one (i := 18) (by kernel_rfl) rfl fun K18 hK18 => ?_
       refine ol_store (id := 7) rfl rfl rfl rfl sz3 rfl rfl (by first | decide | exact Nat.zero_lt_succ _ | simp) ?_
       refine ol_nil (to_k0 (fun _ _ h => h) (hK18 _ _ ⟨.inr (by repeat' first | exact subH_nil | refine subH_same rfl ?_ | (refine subH_blk rfl (by repeat' first | exact sub_nil | refine sub_cons rfl ?_) ?_)), ⟨.inl (by kernel_rfl), trivial⟩⟩ ?_))
       clear hK18
       refine aq_done (by kernel_rfl) ?_
       refine (to_k0 (fun _ _ h => h) (hK13 _ _ _ _ _ ?_))
       clear hK13
       refine wp_reg ?_
       refine ol_r (r_add rfl rfl (by omega)) rfl ?_
       refine ol_r (r_move rfl) rfl ?_
       refine ol_nil (to_k0 (fun _ _ h => h) (hK10 ((k + 1, _, _, _)) _ _ ?_ ?_ (sub_cons rfl sub_nil) (sub_cons rfl (sub_cons rfl (sub_cons rfl (sub_cons rfl (sub_cons rfl (sub_cons rfl sub_nil)))))) (by exact (subH_blk rfl (sub_cons rfl (sub_cons rfl (sub_cons rfl sub_nil))) subH_nil)) (subH_same rfl (subH_same rfl subH_nil))))
       ·try dsimp only
        exact ⟨by omega, by rw [totS_succ hx25, if_pos (sEq_iff.1 hc30), hS], by rw [totS_succ hx25, if_pos (sEq_iff.1 hc30), hW], by omega, by omega⟩
       ·try dsimp only
        omega
      ·refine wp_skip' (to_k0 (fun _ _ h => h) (hK13 _ _ _ _ _ ?_))
       clear hK13
       refine wp_reg ?_
       refine ol_r (r_add rfl rfl (by omega)) rfl ?_
       refine ol_r (r_move rfl) rfl ?_
       refine ol_nil (to_k0 (fun _ _ h => h) (hK10 ((k + 1, _, _, _)) _ _ ?_ ?_ (sub_cons rfl sub_nil) (sub_cons rfl (sub_cons rfl (sub_cons rfl (sub_cons rfl (sub_cons rfl (sub_cons rfl sub_nil)))))) (by exact (subH_blk rfl (sub_cons rfl (sub_cons rfl (sub_cons rfl sub_nil))) subH_nil)) (subH_same rfl (subH_same rfl subH_nil))))
       ·try dsimp only
        exact ⟨by omega, by rw [totS_succ hx25, if_neg (fun h => tf_no (sEq_iff.2 h) hc30), hS, Int.add_zero], by rw [totS_succ hx25, if_neg (fun h => tf_no (sEq_iff.2 h) hc30), hW, Int.add_zero], by omega, by omega⟩
       ·try dsimp only
        omega
     ·refine wp_exit' (to_k0 (fun _ _ h => h) (hK8 _ _ _ _ _ ?_))
      clear hK8
      refine wp_seq' fun K19 hK19 => ?_
      refine wp_reg ?_
      refine ol_r (r_lda (id := 7) (n := 3) rfl rfl rfl ag38) rfl ?_
      refine ol_store (id := 4) rfl rfl rfl rfl sz38 rfl rfl (by first | decide | exact Nat.zero_lt_succ _ | simp) ?_
      refine ol_r (r_assign rfl) rfl ?_
      refine ol_nil (to_k0 (fun _ _ h => h) (hK19 _ _ _ _ _ ?_))
      clear hK19
      refine hQ.ret (rvs2 (rv_c (id := 4) (n := 3) rfl rfl ag38 rfl) (rv_t rfl)) (fun _ _ h => h) fun w hb hs hB hkd => ?_
      rw [List.take_of_length_le (by omega)] at hS hW
      exact ⟨_, by rw [hS, hW], hb⟩
end Go.Proofs.Ytfbmkepogcimlaa

/-
  Numbers of any kind: sums, products, quotients, masks and shifts whose value is told.
-/



namespace Go.Proofs.Ytfbmkepogcimlaa
namespace Hx
open Go Go.RowKit
set_option linter.unusedVariables false
set_option linter.unusedSimpArgs false
section
variable {P : Program} {N : Fr} {B : Nat} {w0 : World} {al : AL} {H : HL} {ty : TypeId} {x y : Operand} {t t' : TypeId} {m n : Int} {k : IntKind}
theorem r_addg (v : Int) (hx : ev al x = some (.int k m)) (hy : ev al y = some (.int k n)) (hw : k.wrap (m + n) = v) : Runs P N B w0 (.binOp .add t x y t') ty al H (.int k v) := fun a w hst => by
  simp [execOp, hst.regs.eval hx, hst.regs.eval hy, eqGuard_add, binOp_add, Op.intArith, hw]
theorem r_subg (v : Int) (hx : ev al x = some (.int k m)) (hy : ev al y = some (.int k n)) (hw : k.wrap (m - n) = v) : Runs P N B w0 (.binOp .sub t x y t') ty al H (.int k v) := fun a w hst => by
  simp [execOp, hst.regs.eval hx, hst.regs.eval hy, eqGuard_sub, binOp_sub, Op.intArith, hw]
theorem r_mulg (v : Int) (hx : ev al x = some (.int k m)) (hy : ev al y = some (.int k n)) (hw : k.wrap (m * n) = v) : Runs P N B w0 (.binOp .mul t x y t') ty al H (.int k v) := fun a w hst => by
  simp [execOp, hst.regs.eval hx, hst.regs.eval hy, eqGuard_mul, binOp_mul, Op.intArith, hw]
theorem r_negg (v : Int) (hx : ev al x = some (.int k m)) (hw : k.wrap (-m) = v) : Runs P N B w0 (.unOp .neg t x) ty al H (.int k v) := fun a w hst => by
  simp [execOp, hst.regs.eval hx, Op.unary, Op.intArith, hw]
theorem r_quog (hx : ev al x = some (.int k m)) (hy : ev al y = some (.int k n)) (h0 : 0 ≤ m) (h1 : 0 < n) (hw : k.wrap (m / n) = m / n) : Runs P N B w0 (.binOp .quo t x y t') ty al H (.int k (m / n)) := fun a w hst => by
  have h3 : m.tdiv n = m / n := Int.tdiv_eq_ediv_of_nonneg h0
  simp [execOp, hst.regs.eval hx, hst.regs.eval hy, eqGuard_quo, binOp_quo, Op.intDiv, show n ≠ 0 by omega, h3, hw]
theorem r_remg (hx : ev al x = some (.int k m)) (hy : ev al y = some (.int k n)) (h0 : 0 ≤ m) (h1 : 0 < n) (hw : k.wrap (m % n) = m % n) : Runs P N B w0 (.binOp .rem t x y t') ty al H (.int k (m % n)) := fun a w hst => by
  have h3 : m.tmod n = m % n := Int.tmod_eq_emod_of_nonneg h0
  simp [execOp, hst.regs.eval hx, hst.regs.eval hy, eqGuard_rem, binOp_rem, Op.intDiv, show n ≠ 0 by omega, h3, hw]
theorem mask32 {m : Int} (h0 : 0 ≤ m) (h1 : m < 18446744073709551616) : bits .and .u64 m 4294967295 = m % 4294967296 := by
  obtain ⟨a, rfl⟩ := Int.eq_ofNat_of_zero_le h0
  have h := bits_and_u64_nat a 4294967295 (by omega) (by omega)
  have e : a &&& 4294967295 = a % 4294967296 := Nat.and_two_pow_sub_one_eq_mod a 32
  rw [e] at h
  exact h
theorem r_and32 (v : Int) (hx : ev al x = some (.int .u64 m)) (hy : ev al y = some (.int .u64 4294967295)) (h0 : 0 ≤ m) (h1 : m < 18446744073709551616) (hv : m % 4294967296 = v) : Runs P N B w0 (.binOp .and t x y t') ty al H (.int .u64 v) := fun a w hst => by
  simp only [execOp, hst.regs.eval hx, hst.regs.eval hy, eqGuard_and, binOp_and, intBits_and, mask32 h0 h1, hv, Sem.run_bind, Sem.run_pure, Result.andThen_ok]
theorem r_shr32 (v : Int) (hx : ev al x = some (.int .u64 m)) (hy : ev al y = some (.int .u64 32)) (h0 : 0 ≤ m) (hv : m / 4294967296 = v) : Runs P N B w0 (.binOp .shr t x y t') ty al H (.int .u64 v) := fun a w hst => by
  have h2 : m.fdiv (2 ^ 32) = m / 4294967296 := Int.fdiv_eq_ediv_of_nonneg m (by decide)
  simp [execOp, hst.regs.eval hx, hst.regs.eval hy, binOp_shr, Op.shift, eqGuard_shr]
  have h3 : min 32 IntKind.u64.bits = 32 := rfl
  rw [h3, h2, hv]
theorem r_convg {src dst : TypeId} {k1 k2 : IntKind} (v : Int) (hx : ev al x = some (.int k1 m)) (hs : (P.underlying src).isSome = true) (hd : P.underlying dst = some (.int k2)) (hw : k2.wrap m = v) :
    Runs P N B w0 (.convert src dst x) ty al H (.int k2 v) := fun a w hst => by
  obtain ⟨d1, h1⟩ := Option.isSome_iff_exists.1 hs
  simp only [execOp, hst.regs.eval hx, convert, Sem.run_bind, run_underlying h1, run_underlying hd, Result.andThen_ok, Conv.intToInt, Sem.run_pure]
  cases d1 <;> simp [hw]
end
/-- A literal of some elements of any size. -/
theorem ol_bsG {P : Program} {N : Fr} {B : Nat} {w0 : World} {al : AL} {H : HL} {ops rest : List Oper} {Q : Exit → Act → World → Prop} {ty : TypeId} {pos : String} {after : Array Edge} {d : Nat} {t e : TypeId} {bytes len size : Nat} {parts : List (Nat × Operand)} {pv : List (Nat × Value)} (cs : List Value) (id : Nat) (hp : evp al parts = some pv) (hT : RowT P t e size bytes) (hl : Nat.beq cs.length (len * size) = true) (hsm : Nat.ble len 9223372036854775807 = true)
    (hrun : ∀ w, (Instr.buildSlice t len pv.toArray).run P w = .ok (.slice (some ⟨w.heap.size, 0, none⟩) len len) (w.alloc (.cells cs.toArray e))) (hd : Nat.blt d N.n = true)
    (k : ∀ a', OL P N B w0 ops rest Q ((d, .slice a' len len) :: al) ((id, .row a' len len cs e size) :: H)) :
    OL P N B w0 ops ({ dst := some d, op := .buildSlice t len parts.toArray, type := ty, pos, after, guard := none } :: rest) Q al H := by
  intro a w hst
  refine wpList_plain rfl fun K hK => ?_
  have hl' : cs.length = len * size := Nat.eq_of_beq_eq_true hl
  have hsm' : len ≤ 9223372036854775807 := by simpa using hsm
  have hev := evp_eval hst.regs hp
  have hrun' : (execOp a.eval { dst := some d, op := .buildSlice t len parts.toArray, type := ty, pos, after, guard := none }).run P w = .ok (.value (.slice (some ⟨w.heap.size, 0, none⟩) len len)) (w.alloc (.cells cs.toArray e)) := by
    simp only [execOp, List.map_toArray, hev, Sem.run_bind, hrun w, Result.andThen_ok, Sem.run_pure]
  unfold Oper.wp
  rw [hrun', Oper.upon_value]
  refine hK _ _ (k _ _ _ (hst.step (hst.regs.put (by simpa using hd) _) (hst.below.alloc hst.base _) ?_ (by have := hst.base; simp; omega) (Kd.alloc w _)))
  refine hst.sat.new id (e := .row (some ⟨w.heap.size, 0, none⟩) len len cs e size) ?_ (fun k hk => Below.heap_alloc w _ k hk) (fun b hb => by simp [Ent.own] at hb; omega)
  exact ⟨by simp [hl'], .inr ⟨w.heap.size, len, cs.toArray, rfl, hst.base, heap_alloc_new w _, Nat.le_refl _, by unfold maxLen; omega, by simp [hl'], by rw [List.take_of_length_le (by simp [hl'])]⟩⟩
end Hx
end Go.Proofs.Ytfbmkepogcimlaa

/-
  Quotients that are rounded up, and splits: plain part.
-/

namespace Go.Proofs.Ytfbmkepogcimlaa
open Go Go.RowKit Hx
set_option linter.unusedVariables false
set_option linter.unusedSimpArgs false
/-- A quotient, rounded up. -/
def upD (x d : Int) : Int := (x + d - 1) / d
structure SplitR where
  way : Int
  at_ : Int
section
variable (ss : List SmpR) (way : Int)
noncomputable def spN (k : Nat) : Nat := (wayN ss k / way).toNat
noncomputable def splJ (k j : Nat) : SplitR := match ss[k]?, ss[k + 1]? with
  | some p, some q => ⟨((j : Int) + 1) * way, 1000 * p.at_ + upD ((((j : Int) + 1) * way - wayN ss k) * (1000 * (q.at_ - p.at_))) (wayN ss (k + 1) - wayN ss k)⟩
  | _, _ => ⟨0, 0⟩
noncomputable def splK : Nat → List SplitR
  | 0 => []
  | k + 1 => splK k ++ (List.range' (spN ss way k) (spN ss way (k + 1) - spN ss way k)).map (splJ ss way k)
noncomputable def midK (k m : Nat) : List SplitR := splK ss way k ++ (List.range' (spN ss way k) m).map (splJ ss way k)
variable {ss way}
variable {st : Int} (hok : SmpOk st ss) (hw : 1 ≤ way)
include hok hw
end
def SpOk (way : Int) (l : List SplitR) (T : Int) : Prop := ∀ (i : Nat) (x : SplitR), l[i]? = some x → x.way = ((i : Int) + 1) * way ∧ 0 ≤ x.at_ ∧ x.at_ ≤ T ∧ ∀ y, 1 ≤ i → l[i - 1]? = some y → y.at_ ≤ x.at_
theorem SpOk.le {way T T' : Int} {l : List SplitR} (h : SpOk way l T) (hT : T ≤ T') : SpOk way l T' := fun i x hx => by
  obtain ⟨h1, h2, h3, h4⟩ := h i x hx
  exact ⟨h1, h2, Int.le_trans h3 hT, h4⟩
noncomputable def splitsR (a : ActD) (way : Int) : List SplitR × Int :=
  if chkA a ≠ 0 then ([], chkA a) else if ¬(1 ≤ way ∧ way ≤ 1000000000) then ([], 9) else if 10000 < wayN a.ss (a.ss.length - 1) / way then ([], 3) else (splK a.ss way (a.ss.length - 1), 0)
end Go.Proofs.Ytfbmkepogcimlaa

/-
  Root, squares, lengths of steps: program and reference.
-/


namespace Go.Proofs.Ytfbmkepogcimlaa
open Go Go.RowKit Hx
set_option linter.unusedVariables false
set_option linter.unusedSimpArgs false
set_option maxRecDepth 8000
/-- What Step returns. -/
noncomputable def stepD (p q : SmpR) : Int × Int := open Classical in if PlaceOk p ∧ PlaceOk q then (lenD p q, 0) else (0, 9)
def placesL (p q : SmpR) : List Int := [p.x, p.y, q.x, q.y]
end Go.Proofs.Ytfbmkepogcimlaa

/-
  Scale: products over quotients, for numbers that are not too large; rounded up.
-/




namespace Go.Proofs.Ytfbmkepogcimlaa
open Go Go.RowKit Hx
set_option linter.unusedVariables false
set_option linter.unusedSimpArgs false
set_option maxRecDepth 8000
theorem bits_Mul64 (x y : Int) (w : World) (hx : 0 ≤ x ∧ x ≤ 4294967295) (hy : 0 ≤ y ∧ y ≤ 4294967295) (hxy : 0 ≤ x * y ∧ x * y ≤ 9223372036854775807) :
    Calls Try.prog 94 #[.int .u64 x, .int .u64 y] w fun e w' => e = .returned (.tuple #[.int .u64 0, .int .u64 (x * y)]) ∧ Below w.heap.size w w' := by
  refine enterQ (N := 51) (C := fun _ => True) (H := []) (B := w.heap.size) (args := [_, _]) Try.func94 rfl rfl rfl (Nat.le_refl _) (Sat.nil _ _) fun Q hQ => ?_
  refine wp_seq' fun K1 hK1 => ?_
  refine wp_reg ?_
  refine ol_r (r_assign rfl) rfl ?_
  refine ol_r (r_assign rfl) rfl ?_
  refine ol_nil (to_k0 (fun _ _ h => h) (hK1 _ _ _ _ _ ?_))
  clear hK1
  refine wp_seq' fun K2 hK2 => ?_
  refine wp_reg ?_
  refine ol_r (r_move rfl) rfl ?_
  refine ol_r (r_and32 x rfl rfl (by omega) (by omega) (by omega)) rfl ?_
  refine ol_r (r_assign rfl) rfl ?_
  refine ol_nil (to_k0 (fun _ _ h => h) (hK2 _ _ _ _ _ ?_))
  clear hK2
  refine wp_seq' fun K3 hK3 => ?_
  refine wp_reg ?_
  refine ol_r (r_move rfl) rfl ?_
  refine ol_r (r_shr32 0 rfl rfl (by omega) (by omega)) rfl ?_
  refine ol_r (r_assign rfl) rfl ?_
  refine ol_nil (to_k0 (fun _ _ h => h) (hK3 _ _ _ _ _ ?_))
  clear hK3
  refine wp_seq' fun K4 hK4 => ?_
  refine wp_reg ?_
  refine ol_r (r_move rfl) rfl ?_
  refine ol_r (r_and32 y rfl rfl (by omega) (by omega) (by omega)) rfl ?_
  refine ol_r (r_assign rfl) rfl ?_
  refine ol_nil (to_k0 (fun _ _ h => h) (hK4 _ _ _ _ _ ?_))
  clear hK4
  refine wp_seq' fun K5 hK5 => ?_
  refine wp_reg ?_
  refine ol_r (r_move rfl) rfl ?_
  refine ol_r (r_shr32 0 rfl rfl (by omega) (by omega)) rfl ?_
  refine ol_r (r_assign rfl) rfl ?_
  refine ol_nil (to_k0 (fun _ _ h => h) (hK5 _ _ _ _ _ ?_))
  clear hK5
  refine wp_seq' fun K6 hK6 => ?_
  refine wp_reg ?_
  refine ol_r (r_move rfl) rfl ?_
  refine ol_r (r_move rfl) rfl ?_
  refine ol_r (r_mulg (x * y) rfl rfl (wrap_u64 (by omega))) rfl ?_
  refine ol_r (r_assign rfl) rfl ?_
  refine ol_nil (to_k0 (fun _ _ h => h) (hK6 _ _ _ _ _ ?_))
  clear hK6
  refine wp_seq' fun K7 hK7 => ?_
  refine wp_reg ?_
  refine ol_r (r_move rfl) rfl ?_
  refine ol_r (r_move rfl) rfl ?_
  refine ol_r (r_mulg 0 rfl rfl (by rw [Int.zero_mul]; exact wrap_u64 (by omega))) rfl ?_
  refine ol_r (r_move rfl) rfl ?_
  refine ol_r (r_shr32 (x * y / 4294967296) rfl rfl (by omega) rfl) rfl ?_
  refine ol_r (r_addg (x * y / 4294967296) rfl rfl (by rw [Int.zero_add]; exact wrap_u64 (by omega))) rfl ?_
  refine ol_r (r_assign rfl) rfl ?_
  refine ol_nil (to_k0 (fun _ _ h => h) (hK7 _ _ _ _ _ ?_))
  clear hK7
  refine wp_seq' fun K8 hK8 => ?_
  refine wp_reg ?_
  refine ol_r (r_move rfl) rfl ?_
  refine ol_r (r_and32 (x * y / 4294967296) rfl rfl (by omega) (by omega) (by omega)) rfl ?_
  refine ol_r (r_assign rfl) rfl ?_
  refine ol_nil (to_k0 (fun _ _ h => h) (hK8 _ _ _ _ _ ?_))
  clear hK8
  refine wp_seq' fun K9 hK9 => ?_
  refine wp_reg ?_
  refine ol_r (r_move rfl) rfl ?_
  refine ol_r (r_shr32 0 rfl rfl (by omega) (by omega)) rfl ?_
  refine ol_r (r_assign rfl) rfl ?_
  refine ol_nil (to_k0 (fun _ _ h => h) (hK9 _ _ _ _ _ ?_))
  clear hK9
  refine wp_seq' fun K10 hK10 => ?_
  refine wp_reg ?_
  refine ol_r (r_move rfl) rfl ?_
  refine ol_r (r_move rfl) rfl ?_
  refine ol_r (r_move rfl) rfl ?_
  refine ol_r (r_mulg 0 rfl rfl (by rw [Int.mul_zero]; exact wrap_u64 (by omega))) rfl ?_
  refine ol_r (r_addg (x * y / 4294967296) rfl rfl (by rw [Int.add_zero]; exact wrap_u64 (by omega))) rfl ?_
  refine ol_r (r_assign rfl) rfl ?_
  refine ol_nil (to_k0 (fun _ _ h => h) (hK10 _ _ _ _ _ ?_))
  clear hK10
  refine wp_seq' fun K11 hK11 => ?_
  refine wp_reg ?_
  refine ol_r (r_move rfl) rfl ?_
  refine ol_r (r_move rfl) rfl ?_
  refine ol_r (r_mulg 0 rfl rfl (by rw [Int.zero_mul]; exact wrap_u64 (by omega))) rfl ?_
  refine ol_r (r_move rfl) rfl ?_
  refine ol_r (r_addg 0 rfl rfl (by rw [Int.zero_add]; exact wrap_u64 (by omega))) rfl ?_
  refine ol_r (r_move rfl) rfl ?_
  refine ol_r (r_shr32 0 rfl rfl (by omega) (by omega)) rfl ?_
  refine ol_r (r_addg 0 rfl rfl (by rw [Int.zero_add]; exact wrap_u64 (by omega))) rfl ?_
  refine ol_r (r_assign rfl) rfl ?_
  refine ol_nil (to_k0 (fun _ _ h => h) (hK11 _ _ _ _ _ ?_))
  clear hK11
  refine wp_seq' fun K12 hK12 => ?_
  refine wp_reg ?_
  refine ol_r (r_move rfl) rfl ?_
  refine ol_r (r_move rfl) rfl ?_
  refine ol_r (r_mulg (x * y) rfl rfl (wrap_u64 (by omega))) rfl ?_
  refine ol_r (r_assign rfl) rfl ?_
  refine ol_nil (to_k0 (fun _ _ h => h) (hK12 _ _ _ _ _ ?_))
  clear hK12
  refine hQ.ret (rvs2 (rv_t rfl) (rv_t rfl)) (fun _ _ h => h) fun w hb hs hB hkd => ?_
  exact ⟨rfl, hb⟩
theorem bits_Div64 (x y : Int) (w : World) (hx : 0 ≤ x ∧ x ≤ 9223372036854775807) (hy : 1 ≤ y ∧ y ≤ 9223372036854775807) :
    Calls Try.prog 95 #[.int .u64 0, .int .u64 x, .int .u64 y] w fun e w' => e = .returned (.tuple #[.int .u64 (x / y), .int .u64 (x % y)]) ∧ Below w.heap.size w w' := by
  have hq : 0 ≤ x / y := Int.ediv_nonneg hx.1 (by omega)
  have hq2 : x / y ≤ x := Int.ediv_le_self _ hx.1
  have hr : 0 ≤ x % y := Int.emod_nonneg _ (by omega)
  have hr2 : x % y < y := Int.emod_lt_of_pos _ (by omega)
  refine enterQ (N := 135) (C := fun _ => True) (H := []) (B := w.heap.size) (args := [_, _, _]) Try.func95 rfl rfl rfl (Nat.le_refl _) (Sat.nil _ _) fun Q hQ => ?_
  refine wp_seq' fun K1 hK1 => ?_
  refine wp_reg ?_
  refine ol_r (r_assign rfl) rfl ?_
  refine ol_r (r_assign rfl) rfl ?_
  refine ol_nil (to_k0 (fun _ _ h => h) (hK1 _ _ _ _ _ ?_))
  clear hK1
  refine wp_seq' fun K2 hK2 => ?_
  refine wp_seq' fun K3 hK3 => ?_
  refine wp_reg ?_
  refine ol_r (r_move rfl) rfl ?_
  refine ol_r (r_eql rfl rfl) rfl ?_
  refine ol_nil (to_k0 (fun _ _ h => h) (hK3 _ _ _ _ _ ?_))
  clear hK3
  refine wp_condD rfl (fun hc20 => ?_) (fun hc20 => ?_)
  ·exfalso
   omega
  ·refine wp_skip' (to_k0 (fun _ _ h => h) (hK2 _ _ _ _ _ ?_))
   clear hK2
   refine wp_seq' fun K4 hK4 => ?_
   refine wp_seq' fun K5 hK5 => ?_
   refine wp_reg ?_
   refine ol_r (r_move rfl) rfl ?_
   refine ol_r (r_move rfl) rfl ?_
   refine ol_r (r_leq rfl rfl) rfl ?_
   refine ol_nil (to_k0 (fun _ _ h => h) (hK5 _ _ _ _ _ ?_))
   clear hK5
   refine wp_condD rfl (fun hc24 => ?_) (fun hc24 => ?_)
   ·exfalso
    omega
   ·refine wp_skip' (to_k0 (fun _ _ h => h) (hK4 _ _ _ _ _ ?_))
    clear hK4
    refine wp_seq' fun K6 hK6 => ?_
    refine wp_seq' fun K7 hK7 => ?_
    refine wp_reg ?_
    refine ol_r (r_move rfl) rfl ?_
    refine ol_r (r_eql rfl rfl) rfl ?_
    refine ol_nil (to_k0 (fun _ _ h => h) (hK7 _ _ _ _ _ ?_))
    clear hK7
    refine wp_condD rfl (fun hc27 => ?_) (fun hc27 => ?_)
    ·refine wp_seq' fun K8 hK8 => ?_
     refine wp_regq (by kernel_rfl) (by kernel_rfl) ?_
     refine ql_r (r_move rfl) rfl ?_
     refine ql_r (r_move rfl) rfl ?_
     refine ql_r (r_quog rfl rfl (by omega) (by omega) (wrap_u64 (by omega))) rfl ?_
     refine ql_r (r_move rfl) rfl ?_
     refine ql_r (r_move rfl) rfl ?_
     refine ql_r (r_remg rfl rfl (by omega) (by omega) (wrap_u64 (by omega))) rfl ?_
     refine ql_r (r_assign rfl) rfl ?_
     refine ql_r (r_assign rfl) rfl ?_
     refine ql_nil (to_k0 (fun _ _ h => h) (hK8 _ _ _ _ _ ?_))
     clear hK8
     refine hQ.ret (rvs2 (rv_t rfl) (rv_t rfl)) (fun _ _ h => h) fun w hb hs hB hkd => ?_
     exact ⟨rfl, hb⟩
    ·exfalso
     omega
theorem cmp_isNaNu (x : Int) (w : World) : Calls Try.prog 129 #[.int .u64 x] w fun e w' => e = .returned (.bool false) ∧ Below w.heap.size w w' := by
  refine enterQ (N := 6) (C := fun _ => True) (H := []) (B := w.heap.size) (args := [_]) Try.func129 rfl rfl rfl (Nat.le_refl _) (Sat.nil _ _) fun Q hQ => ?_
  refine wp_seq' fun K1 hK1 => ?_
  refine wp_reg ?_
  refine ol_r (r_assign rfl) rfl ?_
  refine ol_nil (to_k0 (fun _ _ h => h) (hK1 _ _ _ _ _ ?_))
  clear hK1
  refine wp_seq' fun K2 hK2 => ?_
  refine wp_reg ?_
  refine ol_r (r_move rfl) rfl ?_
  refine ol_r (r_move rfl) rfl ?_
  refine ol_r (r_neq rfl rfl) rfl ?_
  refine ol_r (r_assign rfl) rfl ?_
  refine ol_nil (to_k0 (fun _ _ h => h) (hK2 _ _ _ _ _ ?_))
  clear hK2
  refine hQ.ret (rvs1 (rv_t rfl)) (fun _ _ h => h) fun w hb hs hB hkd => ?_
  exact ⟨by simp, hb⟩
def cmpI (x y : Int) : Int := if x < y then -1 else if y < x then 1 else 0
theorem cmp_Compareu (x y : Int) (w : World) : Calls Try.prog 96 #[.int .u64 x, .int .u64 y] w fun e w' => e = .returned (.int .i64 (cmpI x y)) ∧ Below w.heap.size w w' := by
  refine enterQ (N := 20) (C := fun _ => True) (H := []) (B := w.heap.size) (args := [_, _]) Try.func96 rfl rfl rfl (Nat.le_refl _) (Sat.nil _ _) fun Q hQ => ?_
  refine wp_seq' fun K1 hK1 => ?_
  refine wp_reg ?_
  refine ol_r (r_assign rfl) rfl ?_
  refine ol_nil (to_k0 (fun _ _ h => h) (hK1 _ _ _ _ _ ?_))
  clear hK1
  refine wp_seq' fun K2 hK2 => ?_
  refine wp_reg ?_
  refine ol_r (r_move rfl) rfl ?_
  refine ol_call rfl rfl cb129 rfl (fun w1 hb1 hs1 hB1 => Calls.mono (cmp_isNaNu _ _) ?_)
  rintro e w2 ⟨rfl, hb2⟩
  refine After.below rfl hb1 hs1 hB1 hb2 ?_
  clear hb2 hB1 hs1 hb1 w2 w1
  refine ol_r (r_assign rfl) rfl ?_
  refine ol_nil (to_k0 (fun _ _ h => h) (hK2 _ _ _ _ _ ?_))
  clear hK2
  refine wp_seq' fun K3 hK3 => ?_
  refine wp_reg ?_
  refine ol_r (r_move rfl) rfl ?_
  refine ol_call rfl rfl cb129 rfl (fun w1 hb1 hs1 hB1 => Calls.mono (cmp_isNaNu _ _) ?_)
  rintro e w2 ⟨rfl, hb2⟩
  refine After.below rfl hb1 hs1 hB1 hb2 ?_
  clear hb2 hB1 hs1 hb1 w2 w1
  refine ol_r (r_assign rfl) rfl ?_
  refine ol_nil (to_k0 (fun _ _ h => h) (hK3 _ _ _ _ _ ?_))
  clear hK3
  refine wp_seq' fun K4 hK4 => ?_
  refine wp_seq' fun K5 hK5 => ?_
  refine wp_reg ?_
  refine ol_r (r_move rfl) rfl ?_
  refine ol_nil (to_k0 (fun _ _ h => h) (hK5 _ _ _ _ _ ?_))
  clear hK5
  refine wp_cond' rfl (fun hc11 => ?_) (fun hc11 => ?_)
  ·refine wp_seq' fun K6 hK6 => ?_
   refine wp_seq' fun K7 hK7 => ?_
   refine wp_reg ?_
   refine ol_r (r_move rfl) rfl ?_
   refine ol_nil (to_k0 (fun _ _ h => h) (hK7 _ _ _ _ _ ?_))
   clear hK7
   refine wp_cond' rfl (fun hc12 => ?_) (fun hc12 => ?_)
   ·refine wp_seq' fun K8 hK8 => ?_
    refine wp_reg ?_
    refine ol_r (r_assign rfl) rfl ?_
    refine ol_nil (to_k0 (fun _ _ h => h) (hK8 _ _ _ _ _ ?_))
    clear hK8
    refine hQ.ret (rvs1 (rv_t rfl)) (fun _ _ h => h) fun w hb hs hB hkd => ?_
    first
      | (exfalso; simp_all; done)
   ·refine wp_skip' (to_k0 (fun _ _ h => h) (hK6 _ _ _ _ _ ?_))
    clear hK6
    refine wp_seq' fun K9 hK9 => ?_
    refine wp_reg ?_
    refine ol_r (r_assign rfl) rfl ?_
    refine ol_nil (to_k0 (fun _ _ h => h) (hK9 _ _ _ _ _ ?_))
    clear hK9
    refine hQ.ret (rvs1 (rv_t rfl)) (fun _ _ h => h) fun w hb hs hB hkd => ?_
    first
      | (exfalso; simp_all; done)
  ·refine wp_skip' (to_k0 (fun _ _ h => h) (hK4 _ _ _ _ _ ?_))
   clear hK4
   refine wp_seq' fun K10 hK10 => ?_
   refine wp_seq' fun K11 hK11 => ?_
   refine wp_reg ?_
   refine ol_r (r_move rfl) rfl ?_
   refine ol_nil (to_k0 (fun _ _ h => h) (hK11 _ _ _ _ _ ?_))
   clear hK11
   refine wp_cond' rfl (fun hc13 => ?_) (fun hc13 => ?_)
   ·refine wp_seq' fun K12 hK12 => ?_
    refine wp_reg ?_
    refine ol_r (r_assign rfl) rfl ?_
    refine ol_nil (to_k0 (fun _ _ h => h) (hK12 _ _ _ _ _ ?_))
    clear hK12
    refine hQ.ret (rvs1 (rv_t rfl)) (fun _ _ h => h) fun w hb hs hB hkd => ?_
    first
      | (exfalso; simp_all; done)
   ·refine wp_skip' (to_k0 (fun _ _ h => h) (hK10 _ _ _ _ _ ?_))
    clear hK10
    refine wp_seq' fun K13 hK13 => ?_
    refine wp_seq' fun K14 hK14 => ?_
    refine wp_reg ?_
    refine ol_r (r_move rfl) rfl ?_
    refine ol_r (r_move rfl) rfl ?_
    refine ol_r (r_lss rfl rfl) rfl ?_
    refine ol_nil (to_k0 (fun _ _ h => h) (hK14 _ _ _ _ _ ?_))
    clear hK14
    refine wp_condD rfl (fun hc16 => ?_) (fun hc16 => ?_)
    ·refine wp_seq' fun K15 hK15 => ?_
     refine wp_reg ?_
     refine ol_r (r_assign rfl) rfl ?_
     refine ol_nil (to_k0 (fun _ _ h => h) (hK15 _ _ _ _ _ ?_))
     clear hK15
     refine hQ.ret (rvs1 (rv_t rfl)) (fun _ _ h => h) fun w hb hs hB hkd => ?_
     first
       | exact ⟨by unfold cmpI; rw [if_pos (by omega)], hb⟩
    ·refine wp_skip' (to_k0 (fun _ _ h => h) (hK13 _ _ _ _ _ ?_))
     clear hK13
     refine wp_seq' fun K16 hK16 => ?_
     refine wp_seq' fun K17 hK17 => ?_
     refine wp_reg ?_
     refine ol_r (r_move rfl) rfl ?_
     refine ol_r (r_move rfl) rfl ?_
     refine ol_r (r_gtr rfl rfl) rfl ?_
     refine ol_nil (to_k0 (fun _ _ h => h) (hK17 _ _ _ _ _ ?_))
     clear hK17
     refine wp_condD rfl (fun hc19 => ?_) (fun hc19 => ?_)
     ·refine wp_seq' fun K18 hK18 => ?_
      refine wp_reg ?_
      refine ol_r (r_assign rfl) rfl ?_
      refine ol_nil (to_k0 (fun _ _ h => h) (hK18 _ _ _ _ _ ?_))
      clear hK18
      refine hQ.ret (rvs1 (rv_t rfl)) (fun _ _ h => h) fun w hb hs hB hkd => ?_
      first
        | exact ⟨by unfold cmpI; rw [if_neg (by omega), if_pos (by omega)], hb⟩
     ·refine wp_skip' (to_k0 (fun _ _ h => h) (hK16 _ _ _ _ _ ?_))
      clear hK16
      refine wp_seq' fun K19 hK19 => ?_
      refine wp_reg ?_
      refine ol_r (r_assign rfl) rfl ?_
      refine ol_nil (to_k0 (fun _ _ h => h) (hK19 _ _ _ _ _ ?_))
      clear hK19
      refine hQ.ret (rvs1 (rv_t rfl)) (fun _ _ h => h) fun w hb hs hB hkd => ?_
      first
        | exact ⟨by unfold cmpI; rw [if_neg (by omega), if_neg (by omega)], hb⟩
/-- A way of rounding, as it lies. -/
def encWay : Enc (Int × FuncId) := { size := 2, cells := fun x => [.int .i64 x.1, .func (.func x.2) #[] #[]], val := fun x => .agg #[.int .i64 x.1, .func (.func x.2) #[] #[]], len := fun _ => rfl, ones := fun _ u h => (by simp at h; rcases h with h | h <;> subst h <;> rfl), pos := by decide, vc := fun _ => rfl }
theorem ty168 : Ty Try.prog 168 encWay := .inr ⟨ag168, fun _ => rfl⟩
def waysL : List (Int × FuncId) := [(1, 123), (2, 124), (3, 125), (4, 126), (5, 127)]
theorem bd168_0_1 (x0 : Int) (g1 : FuncId) (w : World) : (Instr.build 168 #[(0, .int .i64 x0), (1, .func (.func g1) #[] #[])]).run Try.prog w = .ok (.agg #[.int .i64 x0, .func (.func g1) #[] #[]]) w := by kernel_rfl
theorem quant_ways (w : World) : Calls Try.prog 91 #[] w fun e w' => ∃ b m k, e = .returned (.slice b m k) ∧ Fresh encWay 168 w w' b m k waysL := by
  refine enterQ (N := 7) (C := fun _ => True) (H := []) (B := w.heap.size) (args := []) Try.func91 rfl rfl rfl (Nat.le_refl _) (Sat.nil _ _) fun Q hQ => ?_
  refine wp_seq' fun K1 hK1 => ?_
  refine wp_reg ?_
  refine ol_r (r_assign rfl) rfl ?_
  refine ol_nil (to_k0 (fun _ _ h => h) (hK1 _ _ _ _ _ ?_))
  clear hK1
  refine wp_seq' fun K2 hK2 => ?_
  refine wp_reg ?_
  refine ol_r (r_build rfl (fun _ => bd168_0_1 _ _ _)) rfl ?_
  refine ol_r (r_build rfl (fun _ => bd168_0_1 _ _ _)) rfl ?_
  refine ol_r (r_build rfl (fun _ => bd168_0_1 _ _ _)) rfl ?_
  refine ol_r (r_build rfl (fun _ => bd168_0_1 _ _ _)) rfl ?_
  refine ol_r (r_build rfl (fun _ => bd168_0_1 _ _ _)) rfl ?_
  refine ol_bsG (encWay.enc (waysL)) 6 rfl rw163 rfl rfl (fun _ => by kernel_rfl) rfl fun a6 => ?_
  refine ol_r (r_assign rfl) rfl ?_
  refine ol_nil (to_k0 (fun _ _ h => h) (hK2 _ _ _ _ _ ?_))
  clear hK2
  refine hQ.ret (rvs1 (rv_t rfl)) (fun _ _ h => h) fun w hb hs hB hkd => ?_
  exact ⟨_, _, _, rfl, hb, hs.ok 6 _ rfl⟩
theorem indexFunc_way (a : Option Addr) (n c1 : Nat) (xs : List (Int × FuncId)) (g : FuncId) (cv : List Value) (p : Int × FuncId → Bool) (r : Int) (w : World) (hx : Rd encWay w.heap.size w a n c1 xs) (hg : Callable Try.prog g) (hr : idxP p xs = r)
    (hf : ∀ x w', x ∈ xs → Below w.heap.size w w' → w.heap.size ≤ w'.heap.size → Calls Try.prog g ([encWay.val x] ++ cv).toArray w' fun e w2 => e = .returned (.bool (p x)) ∧ Below w'.heap.size w' w2) :
    Calls Try.prog 92 #[.slice a n c1, .func (.func g) #[] cv.toArray] w fun e w' => e = .returned (.int .i64 r) ∧ Below w.heap.size w w' := by
  have hl := hx.len
  have hfit := hx.fit
  subst hl
  subst hr
  refine enterQ (N := 19) (C := fun _ => True) (H := []) (B := w.heap.size) (args := [_, _]) Try.func92 rfl rfl rfl (Nat.le_refl _) (Sat.nil _ _) fun Q hQ => ?_
  refine wp_seq' fun K1 hK1 => ?_
  refine wp_reg ?_
  refine ol_r (r_assign rfl) rfl ?_
  refine ol_nil (to_k0 (fun _ _ h => h) (hK1 _ _ _ _ _ ?_))
  clear hK1
  refine wp_seq' fun K2 hK2 => ?_
  refine wp_seq' fun K3 hK3 => ?_
  refine wp_reg ?_
  refine ol_r (r_move rfl) rfl ?_
  refine ol_r (r_len rfl sl163) rfl ?_
  refine ol_r (r_move rfl) rfl ?_
  refine ol_nil (to_k0 (fun _ _ h => h) (hK3 _ _ _ _ _ ?_))
  clear hK3
  refine wp_block' ?_
  apply wp_loopM (σ := Nat) (fun s => s ≤ xs.length ∧ ∀ y ∈ xs.take s, p y = false) (fun s => [(8, .int .i64 s)]) [(0, _), (1, _), (7, _)] (fun s => []) [] (fun s => xs.length - s) (0)
  ·try dsimp only
   simp
  ·exact (sub_cons rfl sub_nil)
  ·exact (sub_cons rfl (sub_cons rfl (sub_cons rfl sub_nil)))
  ·exact subH_nil
  ·exact subH_nil
  ·rintro k ⟨hk, hP⟩
   intro K4 hK4
   refine wp_seq' fun K5 hK5 => ?_
   refine wp_reg ?_
   refine ol_r (r_lss rfl rfl) rfl ?_
   refine ol_nil (to_k0 (fun _ _ h => h) (hK5 _ _ _ _ _ ?_))
   clear hK5
   refine wp_seq' fun K6 hK6 => ?_
   refine wp_condD rfl (fun hc9 => ?_) (fun hc9 => ?_)
   ·refine wp_skip' (to_k0 (fun _ _ h => h) (hK6 _ _ _ _ _ ?_))
    clear hK6
    refine wp_seq' fun K7 hK7 => ?_
    refine wp_block' ?_
    refine wp_seq' fun K8 hK8 => ?_
    refine wp_reg ?_
    refine ol_r (r_move rfl) rfl ?_
    refine ol_r (r_assign rfl) rfl ?_
    refine ol_nil (to_k0 (fun _ _ h => h) (hK8 _ _ _ _ _ ?_))
    clear hK8
    refine wp_seq' fun K9 hK9 => ?_
    refine wp_reg ?_
    refine ol_r (r_move rfl) rfl ?_
    refine ol_r (r_move rfl) rfl ?_
    refine ol_r (r_move rfl) rfl ?_
    refine ol_ixr hx rfl rfl sl163 (by omega) rfl fun x14 hx14 => ?_
    try simp only [Int.toNat_natCast] at hx14
    refine ol_r (r_ldw rfl (fun w1 hb1 hs1 hB1 => Rd.loads hx ty168 hx14 hb1)) rfl ?_
    refine ol_call rfl rfl hg rfl (fun w1 hb1 hs1 hB1 => Calls.mono (hf _ _ (List.mem_of_getElem? hx14) hb1 hB1) ?_)
    rintro e w2 ⟨rfl, hb2⟩
    refine After.below rfl hb1 hs1 hB1 hb2 ?_
    clear hb2 hB1 hs1 hb1 w2 w1
    refine ol_nil (to_k0 (fun _ _ h => h) (hK9 _ _ _ _ _ ?_))
    clear hK9
    refine wp_cond' rfl (fun hc16 => ?_) (fun hc16 => ?_)
    ·refine wp_seq' fun K10 hK10 => ?_
     refine wp_reg ?_
     refine ol_r (r_move rfl) rfl ?_
     refine ol_r (r_assign rfl) rfl ?_
     refine ol_nil (to_k0 (fun _ _ h => h) (hK10 _ _ _ _ _ ?_))
     clear hK10
     refine hQ.ret (rvs1 (rv_t rfl)) (fun _ _ h => h) fun w hb hs hB hkd => ?_
     exact ⟨by rw [idxP_at hx14 hc16 hP], hb⟩
    ·refine wp_skip' (to_k0 (fun _ _ h => h) (hK7 _ _ _ _ _ ?_))
     clear hK7
     refine wp_reg ?_
     refine ol_r (r_add rfl rfl (by omega)) rfl ?_
     refine ol_r (r_move rfl) rfl ?_
     refine ol_nil (to_k0 (fun _ _ h => h) (hK4 (k + 1) _ _ ?_ ?_ (sub_cons rfl sub_nil) (sub_cons rfl (sub_cons rfl (sub_cons rfl sub_nil))) (by exact subH_nil) subH_nil))
     ·try dsimp only
      refine ⟨by omega, fun y hy => ?_⟩
      rw [take_succ_get hx14] at hy
      rcases List.mem_append.1 hy with h | h
      · exact hP y h
      · simp at h; subst h; exact hc16
     ·try dsimp only
      omega
   ·refine wp_exit' (to_k0 (fun _ _ h => h) (hK2 _ _ _ _ _ ?_))
    clear hK2
    refine wp_seq' fun K11 hK11 => ?_
    refine wp_reg ?_
    refine ol_r (r_assign rfl) rfl ?_
    refine ol_nil (to_k0 (fun _ _ h => h) (hK11 _ _ _ _ _ ?_))
    clear hK11
    refine hQ.ret (rvs1 (rv_t rfl)) (fun _ _ h => h) fun w hb hs hB hkd => ?_
    rw [List.take_of_length_le (by omega)] at hP
    exact ⟨by rw [idxP_no hP], hb⟩
theorem scale_is (x : Int × FuncId) (how : Int) (b : Nat) (w : World) (h : Blk w.heap.size w b [(0, .int .i64 how)]) :
    Calls Try.prog 93 ([encWay.val x] ++ [Value.pointer (some ⟨b, 0, none⟩)]).toArray w fun e w' => e = .returned (.bool (decide (x.1 = how))) ∧ Below w.heap.size w w' := by
  refine enterQ (N := 8) (C := fun _ => True) (H := []) (B := w.heap.size) (args := [_, _]) Try.func93 rfl rfl rfl (Nat.le_refl _) (Sat.nil _ _) fun Q hQ => ?_
  refine wp_seq' fun K1 hK1 => ?_
  refine wp_reg ?_
  refine ol_box 2 rfl rfl rfl fun b2 => ?_
  refine ol_r (r_assign rfl) rfl ?_
  refine ol_nil (to_k0 (fun _ _ h => h) (hK1 _ _ _ _ _ ?_))
  clear hK1
  refine wp_seq' fun K2 hK2 => ?_
  refine wp_reg ?_
  refine ol_r (r_fa (o' := 0) rfl fl168_0 rfl) rfl ?_
  refine ol_r (r_ld (id := 2) rfl rfl rfl sc3) rfl ?_
  refine ol_r (r_ldw rfl (fun w1 hb1 hs1 hB1 => Blk.loads (o := 0) h hb1 sc3 rfl)) rfl ?_
  refine ol_r (r_eql rfl rfl) rfl ?_
  refine ol_r (r_assign rfl) rfl ?_
  refine ol_nil (to_k0 (fun _ _ h => h) (hK2 _ _ _ _ _ ?_))
  clear hK2
  refine hQ.ret (rvs1 (rv_t rfl)) (fun _ _ h => h) fun w hb hs hB hkd => ?_
  exact ⟨rfl, hb⟩
end Go.Proofs.Ytfbmkepogcimlaa

/-
  Quotients that are rounded to the nearest. No program stands here.
-/

namespace Go.Proofs.Ytfbmkepogcimlaa
set_option linter.unusedVariables false
/-- A quotient of numbers that are not below 0, with its rest, rounded to the nearest; a half goes up just if m is false. -/
def nearP (x d : Int) (m : Bool) : Int := x / d + (if 0 < x % d ∧ (d - x % d < x % d ∨ d - x % d = x % d ∧ m = false) then 1 else 0)
def nearV (a num den : Int) : Int := if a < 0 then -nearP (-a * num) den true else nearP (a * num) den false
end Go.Proofs.Ytfbmkepogcimlaa

/-
  Scale, rounded to the nearest.
-/


namespace Go.Proofs.Ytfbmkepogcimlaa
open Go Go.RowKit Hx
set_option linter.unusedVariables false
set_option linter.unusedSimpArgs false
set_option maxRecDepth 8000
theorem retI {x y : Int} (h : x = y) : Ending.returned (Value.tuple #[.int .i64 x, .int .i64 0]) = Ending.returned (Value.tuple #[.int .i64 y, .int .i64 0]) := by rw [h]
end Go.Proofs.Ytfbmkepogcimlaa

/-
  What is told at the top: a rounded number and a name.
-/


namespace Go.Proofs.Ytfbmkepogcimlaa
open Go Go.RowKit Hx
set_option linter.unusedVariables false
set_option linter.unusedSimpArgs false
set_option maxRecDepth 8000
theorem way_even (h x : Int) (w : World) (hh : h = 0) (hx : x = 3) : Calls Try.prog 127 #[.bool true, .int .u64 x, .int .i64 h] w fun e w' => e = .returned (.bool true) ∧ Below w.heap.size w w' := by
  subst hh
  subst hx
  refine enterQ (N := 18) (C := fun _ => True) (H := []) (B := w.heap.size) (args := [_, _, _]) Try.func127 rfl rfl rfl (Nat.le_refl _) (Sat.nil _ _) fun Q hQ => ?_
  refine wp_seq' fun K1 hK1 => ?_
  refine wp_reg ?_
  refine ol_r (r_assign rfl) rfl ?_
  refine ol_nil (to_k0 (fun _ _ h => h) (hK1 _ _ _ _ _ ?_))
  clear hK1
  refine wp_seq' fun K2 hK2 => ?_
  refine wp_reg ?_
  refine ol_r (r_move rfl) rfl ?_
  refine ol_r (r_gtr rfl rfl) rfl ?_
  refine ol_r (r_move rfl) rfl ?_
  refine ol_split (d := 9) rfl (fun hs9 => ?_) (fun hs9 => ?_)
  ·have phs9 := hs9; try simp only [decide_eq_true_eq, decide_eq_false_iff_not, Bool.not_eq_true', Bool.not_eq_false', Bool.not_true, Bool.not_false] at phs9
   refine ol_s rfl rfl hs9 rfl ?_
   refine ol_s rfl rfl hs9 rfl ?_
   refine ol_s rfl rfl hs9 rfl ?_
   refine ol_u rfl rfl rfl ?_
   refine ol_u rfl rfl rfl ?_
   refine ol_u rfl rfl rfl ?_
   refine ol_s rfl rfl hs9 rfl ?_
   refine ol_r (r_pickT rfl hs9 rfl) rfl ?_
   refine ol_r (r_assign rfl) rfl ?_
   refine ol_nil (to_k0 (fun _ _ h => h) (hK2 _ _ _ _ _ ?_))
   clear hK2
   refine hQ.ret (rvs1 (rv_t rfl)) (fun _ _ h => h) fun w hb hs hB hkd => ?_
   first
     | exact ⟨rfl, hb⟩
     | (exfalso; simp at hs9; done)
     | (exfalso; simp at hs12; done)
  ·have phs9 := hs9; try simp only [decide_eq_true_eq, decide_eq_false_iff_not, Bool.not_eq_true', Bool.not_eq_false', Bool.not_true, Bool.not_false] at phs9
   refine ol_g rfl rfl hs9 ?_
   refine ol_r (r_move rfl) rfl ?_
   refine ol_g rfl rfl hs9 ?_
   refine ol_r (r_eql rfl rfl) rfl ?_
   refine ol_g rfl rfl hs9 ?_
   refine ol_r (r_move rfl) rfl ?_
   refine ol_split (d := 12) rfl (fun hs12 => ?_) (fun hs12 => ?_)
   ·have phs12 := hs12; try simp only [decide_eq_true_eq, decide_eq_false_iff_not, Bool.not_eq_true', Bool.not_eq_false', Bool.not_true, Bool.not_false] at phs12
    refine ol_g rfl rfl hs12 ?_
    refine ol_r (r_move rfl) rfl ?_
    refine ol_g rfl rfl hs12 ?_
    refine ol_r (r_remg rfl rfl (by decide) (by decide) (by decide)) rfl ?_
    refine ol_g rfl rfl hs12 ?_
    refine ol_r (r_eql rfl rfl) rfl ?_
    refine ol_g rfl rfl hs9 ?_
    refine ol_r (r_pickT rfl hs12 rfl) rfl ?_
    refine ol_r (r_pickF rfl hs9 rfl) rfl ?_
    refine ol_r (r_assign rfl) rfl ?_
    refine ol_nil (to_k0 (fun _ _ h => h) (hK2 _ _ _ _ _ ?_))
    clear hK2
    refine hQ.ret (rvs1 (rv_t rfl)) (fun _ _ h => h) fun w hb hs hB hkd => ?_
    first
      | exact ⟨rfl, hb⟩
      | (exfalso; simp at hs9; done)
      | (exfalso; simp at hs12; done)
   ·have phs12 := hs12; try simp only [decide_eq_true_eq, decide_eq_false_iff_not, Bool.not_eq_true', Bool.not_eq_false', Bool.not_true, Bool.not_false] at phs12
    refine ol_s rfl rfl hs12 rfl ?_
    refine ol_s rfl rfl hs12 rfl ?_
    refine ol_s rfl rfl hs12 rfl ?_
    refine ol_g rfl rfl hs9 ?_
    refine ol_r (r_pickF rfl hs12 rfl) rfl ?_
    refine ol_r (r_pickF rfl hs9 rfl) rfl ?_
    refine ol_r (r_assign rfl) rfl ?_
    refine ol_nil (to_k0 (fun _ _ h => h) (hK2 _ _ _ _ _ ?_))
    clear hK2
    refine hQ.ret (rvs1 (rv_t rfl)) (fun _ _ h => h) fun w hb hs hB hkd => ?_
    first
      | exact ⟨rfl, hb⟩
      | (exfalso; simp at hs9; done)
      | (exfalso; simp at hs12; done)
theorem quant_ScaleEven (w : World) :
    Calls Try.prog 64 #[.int .i64 (-7), .int .i64 1, .int .i64 2, .int .i64 5] w fun e w' => e = .returned (.tuple #[.int .i64 (-4), .int .i64 0]) ∧ Below w.heap.size w w' := by
  refine enterQ (N := 88) (C := fun _ => True) (H := []) (B := w.heap.size) (args := [_, _, _, _]) Try.func64 rfl rfl rfl (Nat.le_refl _) (Sat.nil _ _) fun Q hQ => ?_
  refine wp_seq' fun K1 hK1 => ?_
  refine wp_reg ?_
  refine ol_box 7 rfl rfl rfl fun b7 => ?_
  refine ol_r (r_assign rfl) rfl ?_
  refine ol_r (r_assign rfl) rfl ?_
  refine ol_nil (to_k0 (fun _ _ h => h) (hK1 _ _ _ _ _ ?_))
  clear hK1
  refine wp_seq' fun K2 hK2 => ?_
  refine wp_reg ?_
  refine ol_call rfl rfl cb91 rfl (fun w1 hb1 hs1 hB1 => Calls.mono (quant_ways _) ?_)
  rintro e w2 ⟨a18, n18, c18, rfl, hf18⟩
  refine After.fresh (id := 18) rfl hb1 hs1 hB1 hf18 ?_
  have hl18 := hf18.len; clear hf18 hB1 hs1 hb1 w2 w1
  refine ol_r (r_assign rfl) rfl ?_
  refine ol_nil (to_k0 (fun _ _ h => h) (hK2 _ _ _ _ _ ?_))
  clear hK2
  refine wp_seq' fun K3 hK3 => ?_
  refine wp_reg ?_
  have hn18 : n18 = 5 := by rw [← hl18]; rfl
  refine ol_r (r_move rfl) rfl ?_
  refine ol_r (r_func rfl) rfl ?_
  refine ol_call rfl rfl cb92 rfl (fun w1 hb1 hs1 hB1 => Calls.mono (indexFunc_way _ _ _ waysL _ _ (fun x => decide (x.1 = 5)) 4 _ (Sat.rd hs1 (E := encWay) (id := 18) rfl rfl) cb93 rfl (fun x w' _ h1 h2 => scale_is x 5 _ w' ((hs1.blk (id := 7) rfl).at h1 h2))) ?_)
  rintro e w2 ⟨rfl, hb2⟩
  refine After.below rfl hb1 hs1 hB1 hb2 ?_
  clear hb2 hB1 hs1 hb1 w2 w1
  refine ol_r (r_assign rfl) rfl ?_
  refine ol_nil (to_k0 (fun _ _ h => h) (hK3 _ _ _ _ _ ?_))
  clear hK3
  refine wp_seq' fun K4 hK4 => ?_
  refine wp_seq' fun K5 hK5 => ?_
  refine wp_reg ?_
  refine ol_r (r_move rfl) rfl ?_
  refine ol_r (r_lss rfl rfl) rfl ?_
  refine ol_nil (to_k0 (fun _ _ h => h) (hK5 _ _ _ _ _ ?_))
  clear hK5
  first | refine wp_condD rfl (fun hc23 => ?_) (fun hc23 => ?_) | refine wp_condN rfl (fun hc23 => ?_) (fun hc23 => ?_) | refine wp_condNB rfl (fun hc23 => ?_) (fun hc23 => ?_) | refine wp_cond' rfl (fun hc23 => ?_) (fun hc23 => ?_)
  ·exfalso
   omega
  ·refine wp_skip' (to_k0 (fun _ _ h => h) (hK4 _ _ _ _ _ ?_))
   clear hK4
   refine wp_seq' fun K6 hK6 => ?_
   refine wp_seq' fun K7 hK7 => ?_
   refine wp_reg ?_
   refine ol_r (r_move rfl) rfl ?_
   refine ol_r (r_leq rfl rfl) rfl ?_
   refine ol_r (r_move rfl) rfl ?_
   refine ol_split (d := 26) rfl (fun hs26 => ?_) (fun hs26 => ?_)
   ·have phs26 := hs26; try simp only [decide_eq_true_eq, decide_eq_false_iff_not, Bool.not_eq_true', Bool.not_eq_false', Bool.not_true, Bool.not_false] at phs26
    refine ol_s rfl rfl hs26 rfl ?_
    refine ol_s rfl rfl hs26 rfl ?_
    refine ol_r (r_pickT rfl hs26 rfl) rfl ?_
    refine ol_nil (to_k0 (fun _ _ h => h) (hK7 _ _ _ _ _ ?_))
    clear hK7
    refine wp_condT rfl ?_
    refine wp_seq' fun K8 hK8 => ?_
    refine wp_reg ?_
    refine ol_r (r_assign rfl) rfl ?_
    refine ol_r (r_assign rfl) rfl ?_
    refine ol_nil (to_k0 (fun _ _ h => h) (hK8 _ _ _ _ _ ?_))
    clear hK8
    refine hQ.ret (rvs2 (rv_t rfl) (rv_t rfl)) (fun _ _ h => h) fun w hb hs hB hkd => ?_
    first
      | exact ⟨retI (by decide), hb⟩
      | (exfalso; omega)
      | (exfalso; exact hc77 rfl)
      | (exfalso; cases hc77; done)
   ·have phs26 := hs26; try simp only [decide_eq_true_eq, decide_eq_false_iff_not, Bool.not_eq_true', Bool.not_eq_false', Bool.not_true, Bool.not_false] at phs26
    refine ol_g rfl rfl hs26 ?_
    refine ol_r (r_move rfl) rfl ?_
    refine ol_g rfl rfl hs26 ?_
    refine ol_r (r_lss rfl rfl) rfl ?_
    refine ol_r (r_pickF rfl hs26 rfl) rfl ?_
    refine ol_nil (to_k0 (fun _ _ h => h) (hK7 _ _ _ _ _ ?_))
    clear hK7
    first | refine wp_condD rfl (fun hc29 => ?_) (fun hc29 => ?_) | refine wp_condN rfl (fun hc29 => ?_) (fun hc29 => ?_) | refine wp_condNB rfl (fun hc29 => ?_) (fun hc29 => ?_) | refine wp_cond' rfl (fun hc29 => ?_) (fun hc29 => ?_)
    ·exfalso
     omega
    ·refine wp_skip' (to_k0 (fun _ _ h => h) (hK6 _ _ _ _ _ ?_))
     clear hK6
     refine wp_seq' fun K9 hK9 => ?_
     refine wp_reg ?_
     refine ol_r (r_move rfl) rfl ?_
     refine ol_r (r_lss rfl rfl) rfl ?_
     refine ol_r (r_assign rfl) rfl ?_
     refine ol_nil (to_k0 (fun _ _ h => h) (hK9 _ _ _ _ _ ?_))
     clear hK9
     refine wp_seq' fun K10 hK10 => ?_
     refine wp_reg ?_
     refine ol_r (r_move rfl) rfl ?_
     refine ol_r (r_convg (k2 := .u64) 18446744073709551609 rfl (by kernel_rfl) (by kernel_rfl) (by decide)) rfl ?_
     refine ol_r (r_assign rfl) rfl ?_
     refine ol_nil (to_k0 (fun _ _ h => h) (hK10 _ _ _ _ _ ?_))
     clear hK10
     refine wp_seq' fun K11 hK11 => ?_
     refine wp_seq' fun K12 hK12 => ?_
     refine wp_reg ?_
     refine ol_r (r_move rfl) rfl ?_
     refine ol_nil (to_k0 (fun _ _ h => h) (hK12 _ _ _ _ _ ?_))
     clear hK12
     first | refine wp_condD rfl (fun hc34 => ?_) (fun hc34 => ?_) | refine wp_condN rfl (fun hc34 => ?_) (fun hc34 => ?_) | refine wp_condNB rfl (fun hc34 => ?_) (fun hc34 => ?_) | refine wp_cond' rfl (fun hc34 => ?_) (fun hc34 => ?_)
     ·refine wp_reg ?_
      refine ol_r (r_move rfl) rfl ?_
      refine ol_r (r_negg 7 rfl (by decide)) rfl ?_
      refine ol_r (r_assign rfl) rfl ?_
      refine ol_nil (to_k0 (fun _ _ h => h) (hK11 _ _ _ _ _ ?_))
      clear hK11
      refine wp_seq' fun K13 hK13 => ?_
      refine wp_reg ?_
      refine ol_r (r_move rfl) rfl ?_
      refine ol_r (r_move rfl) rfl ?_
      refine ol_r (r_conv (k2 := .u64) rfl (by kernel_rfl) (by kernel_rfl) (wrap_u64 (by omega))) rfl ?_
      refine ol_call rfl rfl cb94 rfl (fun w1 hb1 hs1 hB1 => Calls.mono (bits_Mul64 7 1 _ (by omega) (by omega) (by omega)) ?_)
      rintro e w2 ⟨rfl, hb2⟩
      refine After.below rfl hb1 hs1 hB1 hb2 ?_
      clear hb2 hB1 hs1 hb1 w2 w1
      refine ol_r (r_move rfl) rfl ?_
      refine ol_r (r_extract rfl rfl) rfl ?_
      refine ol_r (r_extract rfl rfl) rfl ?_
      refine ol_r (r_assign rfl) rfl ?_
      refine ol_r (r_assign rfl) rfl ?_
      refine ol_nil (to_k0 (fun _ _ h => h) (hK13 _ _ _ _ _ ?_))
      clear hK13
      refine wp_seq' fun K14 hK14 => ?_
      refine wp_seq' fun K15 hK15 => ?_
      refine wp_reg ?_
      refine ol_r (r_move rfl) rfl ?_
      refine ol_r (r_move rfl) rfl ?_
      refine ol_r (r_conv (k2 := .u64) rfl (by kernel_rfl) (by kernel_rfl) (wrap_u64 (by omega))) rfl ?_
      refine ol_r (r_geq rfl rfl) rfl ?_
      refine ol_nil (to_k0 (fun _ _ h => h) (hK15 _ _ _ _ _ ?_))
      clear hK15
      first | refine wp_condD rfl (fun hc47 => ?_) (fun hc47 => ?_) | refine wp_condN rfl (fun hc47 => ?_) (fun hc47 => ?_) | refine wp_condNB rfl (fun hc47 => ?_) (fun hc47 => ?_) | refine wp_cond' rfl (fun hc47 => ?_) (fun hc47 => ?_)
      ·exfalso
       omega
      ·refine wp_skip' (to_k0 (fun _ _ h => h) (hK14 _ _ _ _ _ ?_))
       clear hK14
       refine wp_seq' fun K16 hK16 => ?_
       refine wp_reg ?_
       refine ol_r (r_move rfl) rfl ?_
       refine ol_r (r_move rfl) rfl ?_
       refine ol_r (r_move rfl) rfl ?_
       refine ol_r (r_conv (k2 := .u64) rfl (by kernel_rfl) (by kernel_rfl) (wrap_u64 (by omega))) rfl ?_
       refine ol_call rfl rfl cb95 rfl (fun w1 hb1 hs1 hB1 => Calls.mono (bits_Div64 (7 * 1) 2 _ (by omega) (by omega)) ?_)
       rintro e w2 ⟨rfl, hb2⟩
       refine After.below rfl hb1 hs1 hB1 hb2 ?_
       clear hb2 hB1 hs1 hb1 w2 w1
       refine ol_r (r_move rfl) rfl ?_
       refine ol_r (r_extract rfl rfl) rfl ?_
       refine ol_r (r_extract rfl rfl) rfl ?_
       refine ol_r (r_assign rfl) rfl ?_
       refine ol_r (r_assign rfl) rfl ?_
       refine ol_nil (to_k0 (fun _ _ h => h) (hK16 _ _ _ _ _ ?_))
       clear hK16
       refine wp_seq' fun K17 hK17 => ?_
       refine wp_seq' fun K18 hK18 => ?_
       refine wp_regq (by kernel_rfl) (by kernel_rfl) ?_
       refine ql_r (r_move rfl) rfl ?_
       refine ql_r (r_gtr rfl rfl) rfl ?_
       refine ql_r (r_move rfl) rfl ?_
       refine ql_split (d := 58) rfl (fun hs58 => ?_) (fun hs58 => ?_)
       ·have phs58 := hs58; try simp only [decide_eq_true_eq, decide_eq_false_iff_not, Bool.not_eq_true', Bool.not_eq_false', Bool.not_true, Bool.not_false] at phs58
        refine ql_g rfl rfl hs58 ?_
        refine ql_r (r_move rfl) rfl ?_
        refine ql_g rfl rfl hs58 ?_
        refine ql_r (r_leq rfl rfl) rfl ?_
        refine ql_r (r_pickT rfl hs58 rfl) rfl ?_
        refine ql_r (r_move rfl) rfl ?_
        refine ql_split (d := 62) rfl (fun hs62 => ?_) (fun hs62 => ?_)
        ·have phs62 := hs62; try simp only [decide_eq_true_eq, decide_eq_false_iff_not, Bool.not_eq_true', Bool.not_eq_false', Bool.not_true, Bool.not_false] at phs62
         refine ql_g rfl rfl hs62 ?_
         refine ql_r (r_move rfl) rfl ?_
         refine ql_g rfl rfl hs62 ?_
         refine ql_r (r_move rfl) rfl ?_
         refine ql_g rfl rfl hs62 ?_
         refine ql_ixo (id := 18) encWay waysL rfl rfl rfl rfl sl163 (by omega) (by omega) rfl fun x65 hx65 => ?_
         try simp only [Int.toNat_natCast] at hx65
         try simp only [Int.toNat_natCast] at hx65
         refine ql_g rfl rfl hs62 ?_
         have h65 := Option.some.inj (hx65.symm.trans (show _ = some ((5, 127) : Int × FuncId) from rfl))
         subst h65
         refine ql_r (r_faO (id := 18) rfl rfl rfl hx65 fl168_1) rfl ?_
         refine ql_g rfl rfl hs62 ?_
         refine ql_r (r_ldw rfl (fun w1 hb1 hs1 hB1 => ld_ownF (id := 18) (o := 1) hs1 rfl rfl sc166 hx65 rfl)) rfl ?_
         refine ql_g rfl rfl hs62 ?_
         refine ql_r (r_move rfl) rfl ?_
         refine ql_g rfl rfl hs62 ?_
         refine ql_r (r_move rfl) rfl ?_
         refine ql_g rfl rfl hs62 ?_
         refine ql_r (r_move rfl) rfl ?_
         refine ql_g rfl rfl hs62 ?_
         refine ql_r (r_move rfl) rfl ?_
         refine ql_g rfl rfl hs62 ?_
         refine ql_r (r_conv (k2 := .u64) rfl (by kernel_rfl) (by kernel_rfl) (wrap_u64 (by omega))) rfl ?_
         refine ql_g rfl rfl hs62 ?_
         refine ql_r (r_move rfl) rfl ?_
         refine ql_g rfl rfl hs62 ?_
         refine ql_r (r_subg _ rfl rfl (wrap_u64 (by omega))) rfl ?_
         refine ql_g rfl rfl hs62 ?_
         refine ql_call rfl rfl cb96 rfl (fun w1 hb1 hs1 hB1 => cmp_Compareu _ _ _) ?_
         refine ql_g rfl rfl hs62 ?_
         refine ql_call rfl rfl cb127 rfl (fun w1 hb1 hs1 hB1 => way_even _ _ _ (by decide) (by decide)) ?_
         refine ql_r (r_pickT rfl hs62 rfl) rfl ?_
         refine ql_nil (to_k0 (fun _ _ h => h) (hK18 _ _ _ _ _ ?_))
         clear hK18
         first | refine wp_condD rfl (fun hc77 => ?_) (fun hc77 => ?_) | refine wp_condN rfl (fun hc77 => ?_) (fun hc77 => ?_) | refine wp_condNB rfl (fun hc77 => ?_) (fun hc77 => ?_) | refine wp_cond' rfl (fun hc77 => ?_) (fun hc77 => ?_)
         ·refine wp_reg ?_
          refine ol_r (r_move rfl) rfl ?_
          refine ol_r (r_addg _ rfl rfl (wrap_u64 (by omega))) rfl ?_
          refine ol_r (r_assign rfl) rfl ?_
          refine ol_nil (to_k0 (fun _ _ h => h) (hK17 _ _ _ _ _ ?_))
          clear hK17
          refine wp_seq' fun K19 hK19 => ?_
          refine wp_seq' fun K20 hK20 => ?_
          refine wp_reg ?_
          refine ol_r (r_move rfl) rfl ?_
          refine ol_r (r_gtr rfl rfl) rfl ?_
          refine ol_nil (to_k0 (fun _ _ h => h) (hK20 _ _ _ _ _ ?_))
          clear hK20
          first | refine wp_condD rfl (fun hc81 => ?_) (fun hc81 => ?_) | refine wp_condN rfl (fun hc81 => ?_) (fun hc81 => ?_) | refine wp_condNB rfl (fun hc81 => ?_) (fun hc81 => ?_) | refine wp_cond' rfl (fun hc81 => ?_) (fun hc81 => ?_)
          ·exfalso
           omega
          ·refine wp_skip' (to_k0 (fun _ _ h => h) (hK19 _ _ _ _ _ ?_))
           clear hK19
           refine wp_seq' fun K21 hK21 => ?_
           refine wp_seq' fun K22 hK22 => ?_
           refine wp_reg ?_
           refine ol_r (r_move rfl) rfl ?_
           refine ol_nil (to_k0 (fun _ _ h => h) (hK22 _ _ _ _ _ ?_))
           clear hK22
           first | refine wp_condD rfl (fun hc82 => ?_) (fun hc82 => ?_) | refine wp_condN rfl (fun hc82 => ?_) (fun hc82 => ?_) | refine wp_condNB rfl (fun hc82 => ?_) (fun hc82 => ?_) | refine wp_cond' rfl (fun hc82 => ?_) (fun hc82 => ?_)
           ·refine wp_seq' fun K23 hK23 => ?_
            refine wp_reg ?_
            refine ol_r (r_move rfl) rfl ?_
            refine ol_r (r_conv (k2 := .i64) rfl (by kernel_rfl) (by kernel_rfl) (IntWalk.i64_in _ (by omega))) rfl ?_
            refine ol_r (r_neg rfl (by omega)) rfl ?_
            refine ol_r (r_assign rfl) rfl ?_
            refine ol_r (r_assign rfl) rfl ?_
            refine ol_nil (to_k0 (fun _ _ h => h) (hK23 _ _ _ _ _ ?_))
            clear hK23
            refine hQ.ret (rvs2 (rv_t rfl) (rv_t rfl)) (fun _ _ h => h) fun w hb hs hB hkd => ?_
            first
              | exact ⟨retI (by decide), hb⟩
              | (exfalso; omega)
              | (exfalso; exact hc77 rfl)
              | (exfalso; cases hc77; done)
           ·refine wp_skip' (to_k0 (fun _ _ h => h) (hK21 _ _ _ _ _ ?_))
            clear hK21
            refine wp_seq' fun K24 hK24 => ?_
            refine wp_reg ?_
            refine ol_r (r_move rfl) rfl ?_
            refine ol_r (r_conv (k2 := .i64) rfl (by kernel_rfl) (by kernel_rfl) (IntWalk.i64_in _ (by omega))) rfl ?_
            refine ol_r (r_assign rfl) rfl ?_
            refine ol_r (r_assign rfl) rfl ?_
            refine ol_nil (to_k0 (fun _ _ h => h) (hK24 _ _ _ _ _ ?_))
            clear hK24
            refine hQ.ret (rvs2 (rv_t rfl) (rv_t rfl)) (fun _ _ h => h) fun w hb hs hB hkd => ?_
            first
              | exact ⟨retI (by decide), hb⟩
              | (exfalso; omega)
              | (exfalso; exact hc77 rfl)
              | (exfalso; cases hc77; done)
         ·refine wp_skip' (to_k0 (fun _ _ h => h) (hK17 _ _ _ _ _ ?_))
          clear hK17
          refine wp_seq' fun K25 hK25 => ?_
          refine wp_seq' fun K26 hK26 => ?_
          refine wp_reg ?_
          refine ol_r (r_move rfl) rfl ?_
          refine ol_r (r_gtr rfl rfl) rfl ?_
          refine ol_nil (to_k0 (fun _ _ h => h) (hK26 _ _ _ _ _ ?_))
          clear hK26
          first | refine wp_condD rfl (fun hc81 => ?_) (fun hc81 => ?_) | refine wp_condN rfl (fun hc81 => ?_) (fun hc81 => ?_) | refine wp_condNB rfl (fun hc81 => ?_) (fun hc81 => ?_) | refine wp_cond' rfl (fun hc81 => ?_) (fun hc81 => ?_)
          ·exfalso
           omega
          ·refine wp_skip' (to_k0 (fun _ _ h => h) (hK25 _ _ _ _ _ ?_))
           clear hK25
           refine wp_seq' fun K27 hK27 => ?_
           refine wp_seq' fun K28 hK28 => ?_
           refine wp_reg ?_
           refine ol_r (r_move rfl) rfl ?_
           refine ol_nil (to_k0 (fun _ _ h => h) (hK28 _ _ _ _ _ ?_))
           clear hK28
           first | refine wp_condD rfl (fun hc82 => ?_) (fun hc82 => ?_) | refine wp_condN rfl (fun hc82 => ?_) (fun hc82 => ?_) | refine wp_condNB rfl (fun hc82 => ?_) (fun hc82 => ?_) | refine wp_cond' rfl (fun hc82 => ?_) (fun hc82 => ?_)
           ·refine wp_seq' fun K29 hK29 => ?_
            refine wp_reg ?_
            refine ol_r (r_move rfl) rfl ?_
            refine ol_r (r_conv (k2 := .i64) rfl (by kernel_rfl) (by kernel_rfl) (IntWalk.i64_in _ (by omega))) rfl ?_
            refine ol_r (r_neg rfl (by omega)) rfl ?_
            refine ol_r (r_assign rfl) rfl ?_
            refine ol_r (r_assign rfl) rfl ?_
            refine ol_nil (to_k0 (fun _ _ h => h) (hK29 _ _ _ _ _ ?_))
            clear hK29
            refine hQ.ret (rvs2 (rv_t rfl) (rv_t rfl)) (fun _ _ h => h) fun w hb hs hB hkd => ?_
            first
              | exact ⟨retI (by decide), hb⟩
              | (exfalso; omega)
              | (exfalso; exact hc77 rfl)
              | (exfalso; cases hc77; done)
           ·refine wp_skip' (to_k0 (fun _ _ h => h) (hK27 _ _ _ _ _ ?_))
            clear hK27
            refine wp_seq' fun K30 hK30 => ?_
            refine wp_reg ?_
            refine ol_r (r_move rfl) rfl ?_
            refine ol_r (r_conv (k2 := .i64) rfl (by kernel_rfl) (by kernel_rfl) (IntWalk.i64_in _ (by omega))) rfl ?_
            refine ol_r (r_assign rfl) rfl ?_
            refine ol_r (r_assign rfl) rfl ?_
            refine ol_nil (to_k0 (fun _ _ h => h) (hK30 _ _ _ _ _ ?_))
            clear hK30
            refine hQ.ret (rvs2 (rv_t rfl) (rv_t rfl)) (fun _ _ h => h) fun w hb hs hB hkd => ?_
            first
              | exact ⟨retI (by decide), hb⟩
              | (exfalso; omega)
              | (exfalso; exact hc77 rfl)
              | (exfalso; cases hc77; done)
        ·have phs62 := hs62; try simp only [decide_eq_true_eq, decide_eq_false_iff_not, Bool.not_eq_true', Bool.not_eq_false', Bool.not_true, Bool.not_false] at phs62
         refine ql_s rfl rfl hs62 rfl ?_
         refine ql_s rfl rfl hs62 rfl ?_
         refine ql_s rfl rfl hs62 rfl ?_
         refine ql_s rfl rfl hs62 rfl ?_
         refine ql_s rfl rfl hs62 rfl ?_
         refine ql_s rfl rfl hs62 rfl ?_
         refine ql_s rfl rfl hs62 rfl ?_
         refine ql_s rfl rfl hs62 rfl ?_
         refine ql_s rfl rfl hs62 rfl ?_
         refine ql_s rfl rfl hs62 rfl ?_
         refine ql_s rfl rfl hs62 rfl ?_
         refine ql_s rfl rfl hs62 rfl ?_
         refine ql_s rfl rfl hs62 rfl ?_
         refine ql_s rfl rfl hs62 rfl ?_
         refine ql_r (r_pickF rfl hs62 rfl) rfl ?_
         refine ql_nil (to_k0 (fun _ _ h => h) (hK18 _ _ _ _ _ ?_))
         clear hK18
         refine wp_condF rfl ?_
         refine wp_skip' (to_k0 (fun _ _ h => h) (hK17 _ _ _ _ _ ?_))
         clear hK17
         refine wp_seq' fun K31 hK31 => ?_
         refine wp_seq' fun K32 hK32 => ?_
         refine wp_reg ?_
         refine ol_r (r_move rfl) rfl ?_
         refine ol_r (r_gtr rfl rfl) rfl ?_
         refine ol_nil (to_k0 (fun _ _ h => h) (hK32 _ _ _ _ _ ?_))
         clear hK32
         first | refine wp_condD rfl (fun hc81 => ?_) (fun hc81 => ?_) | refine wp_condN rfl (fun hc81 => ?_) (fun hc81 => ?_) | refine wp_condNB rfl (fun hc81 => ?_) (fun hc81 => ?_) | refine wp_cond' rfl (fun hc81 => ?_) (fun hc81 => ?_)
         ·exfalso
          omega
         ·refine wp_skip' (to_k0 (fun _ _ h => h) (hK31 _ _ _ _ _ ?_))
          clear hK31
          refine wp_seq' fun K33 hK33 => ?_
          refine wp_seq' fun K34 hK34 => ?_
          refine wp_reg ?_
          refine ol_r (r_move rfl) rfl ?_
          refine ol_nil (to_k0 (fun _ _ h => h) (hK34 _ _ _ _ _ ?_))
          clear hK34
          first | refine wp_condD rfl (fun hc82 => ?_) (fun hc82 => ?_) | refine wp_condN rfl (fun hc82 => ?_) (fun hc82 => ?_) | refine wp_condNB rfl (fun hc82 => ?_) (fun hc82 => ?_) | refine wp_cond' rfl (fun hc82 => ?_) (fun hc82 => ?_)
          ·refine wp_seq' fun K35 hK35 => ?_
           refine wp_reg ?_
           refine ol_r (r_move rfl) rfl ?_
           refine ol_r (r_conv (k2 := .i64) rfl (by kernel_rfl) (by kernel_rfl) (IntWalk.i64_in _ (by omega))) rfl ?_
           refine ol_r (r_neg rfl (by omega)) rfl ?_
           refine ol_r (r_assign rfl) rfl ?_
           refine ol_r (r_assign rfl) rfl ?_
           refine ol_nil (to_k0 (fun _ _ h => h) (hK35 _ _ _ _ _ ?_))
           clear hK35
           refine hQ.ret (rvs2 (rv_t rfl) (rv_t rfl)) (fun _ _ h => h) fun w hb hs hB hkd => ?_
           first
             | exact ⟨retI (by decide), hb⟩
             | (exfalso; omega)
             | (exfalso; exact hc77 rfl)
             | (exfalso; cases hc77; done)
          ·refine wp_skip' (to_k0 (fun _ _ h => h) (hK33 _ _ _ _ _ ?_))
           clear hK33
           refine wp_seq' fun K36 hK36 => ?_
           refine wp_reg ?_
           refine ol_r (r_move rfl) rfl ?_
           refine ol_r (r_conv (k2 := .i64) rfl (by kernel_rfl) (by kernel_rfl) (IntWalk.i64_in _ (by omega))) rfl ?_
           refine ol_r (r_assign rfl) rfl ?_
           refine ol_r (r_assign rfl) rfl ?_
           refine ol_nil (to_k0 (fun _ _ h => h) (hK36 _ _ _ _ _ ?_))
           clear hK36
           refine hQ.ret (rvs2 (rv_t rfl) (rv_t rfl)) (fun _ _ h => h) fun w hb hs hB hkd => ?_
           first
             | exact ⟨retI (by decide), hb⟩
             | (exfalso; omega)
             | (exfalso; exact hc77 rfl)
             | (exfalso; cases hc77; done)
       ·have phs58 := hs58; try simp only [decide_eq_true_eq, decide_eq_false_iff_not, Bool.not_eq_true', Bool.not_eq_false', Bool.not_true, Bool.not_false] at phs58
        refine ql_s rfl rfl hs58 rfl ?_
        refine ql_s rfl rfl hs58 rfl ?_
        refine ql_r (r_pickF rfl hs58 rfl) rfl ?_
        refine ql_r (r_move rfl) rfl ?_
        refine ql_s rfl rfl rfl rfl ?_
        refine ql_s rfl rfl rfl rfl ?_
        refine ql_s rfl rfl rfl rfl ?_
        refine ql_s rfl rfl rfl rfl ?_
        refine ql_s rfl rfl rfl rfl ?_
        refine ql_s rfl rfl rfl rfl ?_
        refine ql_s rfl rfl rfl rfl ?_
        refine ql_s rfl rfl rfl rfl ?_
        refine ql_s rfl rfl rfl rfl ?_
        refine ql_s rfl rfl rfl rfl ?_
        refine ql_s rfl rfl rfl rfl ?_
        refine ql_s rfl rfl rfl rfl ?_
        refine ql_s rfl rfl rfl rfl ?_
        refine ql_s rfl rfl rfl rfl ?_
        refine ql_r (r_pickF rfl rfl rfl) rfl ?_
        refine ql_nil (to_k0 (fun _ _ h => h) (hK18 _ _ _ _ _ ?_))
        clear hK18
        refine wp_condF rfl ?_
        refine wp_skip' (to_k0 (fun _ _ h => h) (hK17 _ _ _ _ _ ?_))
        clear hK17
        refine wp_seq' fun K37 hK37 => ?_
        refine wp_seq' fun K38 hK38 => ?_
        refine wp_reg ?_
        refine ol_r (r_move rfl) rfl ?_
        refine ol_r (r_gtr rfl rfl) rfl ?_
        refine ol_nil (to_k0 (fun _ _ h => h) (hK38 _ _ _ _ _ ?_))
        clear hK38
        first | refine wp_condD rfl (fun hc81 => ?_) (fun hc81 => ?_) | refine wp_condN rfl (fun hc81 => ?_) (fun hc81 => ?_) | refine wp_condNB rfl (fun hc81 => ?_) (fun hc81 => ?_) | refine wp_cond' rfl (fun hc81 => ?_) (fun hc81 => ?_)
        ·exfalso
         omega
        ·refine wp_skip' (to_k0 (fun _ _ h => h) (hK37 _ _ _ _ _ ?_))
         clear hK37
         refine wp_seq' fun K39 hK39 => ?_
         refine wp_seq' fun K40 hK40 => ?_
         refine wp_reg ?_
         refine ol_r (r_move rfl) rfl ?_
         refine ol_nil (to_k0 (fun _ _ h => h) (hK40 _ _ _ _ _ ?_))
         clear hK40
         first | refine wp_condD rfl (fun hc82 => ?_) (fun hc82 => ?_) | refine wp_condN rfl (fun hc82 => ?_) (fun hc82 => ?_) | refine wp_condNB rfl (fun hc82 => ?_) (fun hc82 => ?_) | refine wp_cond' rfl (fun hc82 => ?_) (fun hc82 => ?_)
         ·refine wp_seq' fun K41 hK41 => ?_
          refine wp_reg ?_
          refine ol_r (r_move rfl) rfl ?_
          refine ol_r (r_conv (k2 := .i64) rfl (by kernel_rfl) (by kernel_rfl) (IntWalk.i64_in _ (by omega))) rfl ?_
          refine ol_r (r_neg rfl (by omega)) rfl ?_
          refine ol_r (r_assign rfl) rfl ?_
          refine ol_r (r_assign rfl) rfl ?_
          refine ol_nil (to_k0 (fun _ _ h => h) (hK41 _ _ _ _ _ ?_))
          clear hK41
          refine hQ.ret (rvs2 (rv_t rfl) (rv_t rfl)) (fun _ _ h => h) fun w hb hs hB hkd => ?_
          first
            | exact ⟨retI (by decide), hb⟩
            | (exfalso; omega)
            | (exfalso; exact hc77 rfl)
            | (exfalso; cases hc77; done)
         ·refine wp_skip' (to_k0 (fun _ _ h => h) (hK39 _ _ _ _ _ ?_))
          clear hK39
          refine wp_seq' fun K42 hK42 => ?_
          refine wp_reg ?_
          refine ol_r (r_move rfl) rfl ?_
          refine ol_r (r_conv (k2 := .i64) rfl (by kernel_rfl) (by kernel_rfl) (IntWalk.i64_in _ (by omega))) rfl ?_
          refine ol_r (r_assign rfl) rfl ?_
          refine ol_r (r_assign rfl) rfl ?_
          refine ol_nil (to_k0 (fun _ _ h => h) (hK42 _ _ _ _ _ ?_))
          clear hK42
          refine hQ.ret (rvs2 (rv_t rfl) (rv_t rfl)) (fun _ _ h => h) fun w hb hs hB hkd => ?_
          first
            | exact ⟨retI (by decide), hb⟩
            | (exfalso; omega)
            | (exfalso; exact hc77 rfl)
            | (exfalso; cases hc77; done)
     ·exfalso
      omega
theorem quant_Div7 (w : World) : Calls Try.prog 31 #[.int .i64 (-7), .int .i64 2, .int .i64 5] w fun e w' => e = .returned (.tuple #[.int .i64 (-4), .int .i64 0]) ∧ Below w.heap.size w w' := by
  refine enterQ (N := 14) (C := fun _ => True) (H := []) (B := w.heap.size) (args := [_, _, _]) Try.func31 rfl rfl rfl (Nat.le_refl _) (Sat.nil _ _) fun Q hQ => ?_
  refine wp_seq' fun K1 hK1 => ?_
  refine wp_reg ?_
  refine ol_r (r_assign rfl) rfl ?_
  refine ol_r (r_assign rfl) rfl ?_
  refine ol_nil (to_k0 (fun _ _ h => h) (hK1 _ _ _ _ _ ?_))
  clear hK1
  refine wp_seq' fun K2 hK2 => ?_
  refine wp_reg ?_
  refine ol_r (r_move rfl) rfl ?_
  refine ol_r (r_move rfl) rfl ?_
  refine ol_r (r_move rfl) rfl ?_
  refine ol_call rfl rfl cb64 rfl (fun w1 hb1 hs1 hB1 => Calls.mono (quant_ScaleEven _) ?_)
  rintro e w2 ⟨rfl, hb2⟩
  refine After.below rfl hb1 hs1 hB1 hb2 ?_
  clear hb2 hB1 hs1 hb1 w2 w1
  refine ol_r (r_extract rfl rfl) rfl ?_
  refine ol_r (r_extract rfl rfl) rfl ?_
  refine ol_r (r_assign rfl) rfl ?_
  refine ol_r (r_assign rfl) rfl ?_
  refine ol_nil (to_k0 (fun _ _ h => h) (hK2 _ _ _ _ _ ?_))
  clear hK2
  refine hQ.ret (rvs2 (rv_t rfl) (rv_t rfl)) (fun _ _ h => h) fun w hb hs hB hkd => ?_
  exact ⟨rfl, hb⟩
theorem top_told (w : World) : Calls Try.prog 7 #[] w fun e w' => e = .returned (.bool true) ∧ Below w.heap.size w w' := by
  have h1 : nameB ⟨#[97, 46, 66, 45, 49]⟩ = true := by decide
  have h2 : nameB ⟨#[]⟩ = false := by decide
  refine enterQ (N := 20) (C := fun _ => True) (H := []) (B := w.heap.size) (args := []) Try.func7 rfl rfl rfl (Nat.le_refl _) (Sat.nil _ _) fun Q hQ => ?_
  refine wp_seq' fun K1 hK1 => ?_
  refine wp_reg ?_
  refine ol_r (r_assign rfl) rfl ?_
  refine ol_nil (to_k0 (fun _ _ h => h) (hK1 _ _ _ _ _ ?_))
  clear hK1
  refine wp_seq' fun K2 hK2 => ?_
  refine wp_reg ?_
  refine ol_call rfl rfl cb31 rfl (fun w1 hb1 hs1 hB1 => Calls.mono (quant_Div7 _) ?_)
  rintro e w2 ⟨rfl, hb2⟩
  refine After.below rfl hb1 hs1 hB1 hb2 ?_
  clear hb2 hB1 hs1 hb1 w2 w1
  refine ol_r (r_move rfl) rfl ?_
  refine ol_r (r_extract rfl rfl) rfl ?_
  refine ol_r (r_extract rfl rfl) rfl ?_
  refine ol_r (r_assign rfl) rfl ?_
  refine ol_r (r_assign rfl) rfl ?_
  refine ol_nil (to_k0 (fun _ _ h => h) (hK2 _ _ _ _ _ ?_))
  clear hK2
  refine wp_seq' fun K3 hK3 => ?_
  refine wp_reg ?_
  refine ol_r (r_move rfl) rfl ?_
  refine ol_r (r_eql rfl rfl) rfl ?_
  refine ol_r (r_move rfl) rfl ?_
  refine ol_split (d := 9) rfl (fun hs9 => ?_) (fun hs9 => ?_)
  ·have phs9 := hs9; try simp only [decide_eq_true_eq, decide_eq_false_iff_not, Bool.not_eq_true', Bool.not_eq_false', Bool.not_true, Bool.not_false] at phs9
   refine ol_g rfl rfl hs9 ?_
   refine ol_r (r_move rfl) rfl ?_
   refine ol_g rfl rfl hs9 ?_
   refine ol_r (r_eql rfl rfl) rfl ?_
   refine ol_r (r_pickT rfl hs9 rfl) rfl ?_
   refine ol_r (r_move rfl) rfl ?_
   refine ol_split (d := 13) rfl (fun hs13 => ?_) (fun hs13 => ?_)
   ·have phs13 := hs13; try simp only [decide_eq_true_eq, decide_eq_false_iff_not, Bool.not_eq_true', Bool.not_eq_false', Bool.not_true, Bool.not_false] at phs13
    refine ol_g rfl rfl hs13 ?_
    refine ol_call rfl rfl cb32 rfl (fun w1 hb1 hs1 hB1 => Calls.mono (quant_IsName _ _ (by decide)) ?_)
    rintro e w2 ⟨rfl, hb2⟩
    refine After.below rfl hb1 hs1 hB1 hb2 ?_
    clear hb2 hB1 hs1 hb1 w2 w1
    refine ol_r (r_pickT rfl hs13 rfl) rfl ?_
    refine ol_r (r_move rfl) rfl ?_
    refine ol_split (d := 16) rfl (fun hs16 => ?_) (fun hs16 => ?_)
    ·have phs16 := hs16; try simp only [decide_eq_true_eq, decide_eq_false_iff_not, Bool.not_eq_true', Bool.not_eq_false', Bool.not_true, Bool.not_false] at phs16
     refine ol_g rfl rfl hs16 ?_
     refine ol_call rfl rfl cb32 rfl (fun w1 hb1 hs1 hB1 => Calls.mono (quant_IsName _ _ (by decide)) ?_)
     rintro e w2 ⟨rfl, hb2⟩
     refine After.below rfl hb1 hs1 hB1 hb2 ?_
     clear hb2 hB1 hs1 hb1 w2 w1
     refine ol_g rfl rfl hs16 ?_
     refine ol_r (r_not rfl) rfl ?_
     refine ol_r (r_pickT rfl hs16 rfl) rfl ?_
     refine ol_r (r_assign rfl) rfl ?_
     refine ol_nil (to_k0 (fun _ _ h => h) (hK3 _ _ _ _ _ ?_))
     clear hK3
     refine hQ.ret (rvs1 (rv_t rfl)) (fun _ _ h => h) fun w hb hs hB hkd => ?_
     exact ⟨by rw [h2]; rfl, hb⟩
    ·have phs16 := hs16; try simp only [decide_eq_true_eq, decide_eq_false_iff_not, Bool.not_eq_true', Bool.not_eq_false', Bool.not_true, Bool.not_false] at phs16
     exfalso
     rw [h1] at hs16; cases hs16
   ·have phs13 := hs13; try simp only [decide_eq_true_eq, decide_eq_false_iff_not, Bool.not_eq_true', Bool.not_eq_false', Bool.not_true, Bool.not_false] at phs13
    exfalso
    exact phs13 trivial
  ·have phs9 := hs9; try simp only [decide_eq_true_eq, decide_eq_false_iff_not, Bool.not_eq_true', Bool.not_eq_false', Bool.not_true, Bool.not_false] at phs9
   exfalso
   exact phs9 trivial
end Go.Proofs.Ytfbmkepogcimlaa

/-
  TopWearAddsUp.
-/


namespace Go.Proofs.Ytfbmkepogcimlaa
open Go Go.RowKit Hx
set_option linter.unusedVariables false
set_option linter.unusedSimpArgs false
set_option maxRecDepth 8000
theorem top_use (x : GUse) (w : World) : Calls Try.prog 10 ([encGUse.val x] ++ []).toArray w fun e w2 => e = .returned (.bool (decide (x.fr = 86399999999))) ∧ Below w.heap.size w w2 := by
  refine enterQ (N := 6) (C := fun _ => True) (H := []) (B := w.heap.size) (args := [_]) Try.func10 rfl rfl rfl (Nat.le_refl _) (Sat.nil _ _) fun Q hQ => ?_
  refine wp_seq' fun K1 hK1 => ?_
  refine wp_reg ?_
  refine ol_box 1 rfl rfl rfl fun b1 => ?_
  refine ol_r (r_assign rfl) rfl ?_
  refine ol_nil (to_k0 (fun _ _ h => h) (hK1 _ _ _ _ _ ?_))
  clear hK1
  refine wp_seq' fun K2 hK2 => ?_
  refine wp_reg ?_
  refine ol_r (r_fa (o' := 2) rfl fl46_2 rfl) rfl ?_
  refine ol_r (r_ld (id := 1) rfl rfl rfl sc3) rfl ?_
  refine ol_r (r_eql rfl rfl) rfl ?_
  refine ol_r (r_assign rfl) rfl ?_
  refine ol_nil (to_k0 (fun _ _ h => h) (hK2 _ _ _ _ _ ?_))
  clear hK2
  refine hQ.ret (rvs1 (rv_t rfl)) (fun _ _ h => h) fun w hb hs hB hkd => ?_
  exact ⟨rfl, hb⟩
theorem selS_if {f : GPiece → Int} {n : ByteArray} {l : List GPiece} {k : Nat} {p : GPiece} {S : Int} (h : l[k]? = some p) (hS : S = selS f (inSl n) (l.take k)) : selS f (inSl n) (l.take (k + 1)) = S + if sEq p.slot n = true then f p else 0 := by
  rw [selS_succ h, ← hS, inSl, sEq_dec]
theorem wtS_y {nm : ByteArray} {S W : Int} {D : KB} {p : GPiece} (h : sEq p.part nm = true) : wtS nm (S, W, D) p = (S + p.sec, W + p.way, pS D p.use true) := if_pos (sEq_iff.1 h)
theorem wtS_n {nm : ByteArray} {S W : Int} {D : KB} {p : GPiece} (h : sEq p.part nm = false) : wtS nm (S, W, D) p = (S, W, D) := if_neg (fun he => by rw [sEq_iff.2 he] at h; cases h)
theorem wtF_len {nm : ByteArray} {l : List GPiece} : ∀ k, (wtF nm (l.take k)).2.2.length ≤ k
  | 0 => Nat.le_refl 0
  | k + 1 => by
    by_cases hk : k < l.length
    · rw [wtF_succ (List.getElem?_eq_getElem hk), wtS]
      have := wtF_len (nm := nm) (l := l) k
      split
      · dsimp only
        by_cases hm : l[k].use ∈ pKeys (wtF nm (l.take k)).2.2
        · rw [(pS_in hm).1]; omega
        · rw [(pS_out hm).1]; omega
      · omega
    · have : l.take (k + 1) = l.take k := by rw [List.take_of_length_le (by omega), List.take_of_length_le (by omega)]
      rw [this]
      have := wtF_len (nm := nm) (l := l) k
      omega
theorem law_wear (G : GarV) (w : World) (hG : G.Ok w.heap.size w) : Calls Try.prog 3 #[.agg #[.slice G.pa G.pn G.pc, .slice G.sa G.sn G.sc, .slice G.ma G.mn G.mc, .slice G.ua G.un G.uc]] w fun e w' => e = .returned (.bool true) ∧ Below w.heap.size w w' := by
  have hsn := hG.s.len
  have hpn := hG.p.len
  refine enterQ (N := 136) (C := fun _ => True) (H := []) (B := w.heap.size) (args := [_]) Try.func3 rfl rfl rfl (Nat.le_refl _) (Sat.nil _ _) fun Q hQ => ?_
  refine wp_seq' fun K1 hK1 => ?_
  refine wp_reg ?_
  refine ol_box 1 rfl rfl rfl fun b1 => ?_
  refine ol_r (r_assign rfl) rfl ?_
  refine ol_nil (to_k0 (fun _ _ h => h) (hK1 _ _ _ _ _ ?_))
  clear hK1
  refine wp_seq' fun K2 hK2 => ?_
  refine wp_reg ?_
  refine ol_r (r_lda (id := 1) (n := 4) rfl rfl rfl ag27) rfl ?_
  refine ol_call rfl rfl cb6 rfl (fun w1 hb1 hs1 hB1 => Calls.mono (gear_Pieces G _ (hG.at hb1 hB1)) ?_)
  rintro e w2 ⟨a23, n23, c23, rfl, hf23⟩
  refine After.fresh (id := 23) rfl hb1 hs1 hB1 hf23 ?_
  have hl23 := hf23.len; clear hf23 hB1 hs1 hb1 w2 w1
  refine ol_r (r_move rfl) rfl ?_
  refine ol_r (r_extract rfl rfl) rfl ?_
  refine ol_r (r_extract rfl rfl) rfl ?_
  refine ol_r (r_assign rfl) rfl ?_
  refine ol_r (r_assign rfl) rfl ?_
  refine ol_nil (to_k0 (fun _ _ h => h) (hK2 _ _ _ _ _ ?_))
  clear hK2
  refine wp_seq' fun K3 hK3 => ?_
  refine wp_seq' fun K4 hK4 => ?_
  refine wp_reg ?_
  refine ol_r (r_move rfl) rfl ?_
  refine ol_r (r_neq rfl rfl) rfl ?_
  refine ol_nil (to_k0 (fun _ _ h => h) (hK4 _ _ _ _ _ ?_))
  clear hK4
  first | refine wp_condD rfl (fun hc27 => ?_) (fun hc27 => ?_) | refine wp_condN rfl (fun hc27 => ?_) (fun hc27 => ?_) | refine wp_condNB rfl (fun hc27 => ?_) (fun hc27 => ?_) | refine wp_cond' rfl (fun hc27 => ?_) (fun hc27 => ?_)
  ·refine wp_seq' fun K5 hK5 => ?_
   refine wp_reg ?_
   refine ol_call rfl rfl cb7 rfl (fun w1 hb1 hs1 hB1 => Calls.mono (top_told _) ?_)
   rintro e w2 ⟨rfl, hb2⟩
   refine After.below rfl hb1 hs1 hB1 hb2 ?_
   clear hb2 hB1 hs1 hb1 w2 w1
   refine ol_r (r_assign rfl) rfl ?_
   refine ol_nil (to_k0 (fun _ _ h => h) (hK5 _ _ _ _ _ ?_))
   clear hK5
   refine hQ.ret (rvs1 (rv_t rfl)) (fun _ _ h => h) fun w hb hs hB hkd => ?_
   exact ⟨rfl, hb⟩
  ·refine wp_skip' (to_k0 (fun _ _ h => h) (hK3 _ _ _ _ _ ?_))
   clear hK3
   refine wp_seq' fun K6 hK6 => ?_
   refine wp_seq' fun K7 hK7 => ?_
   refine wp_reg ?_
   have hc0 : gchkG G.toGarD = 0 := Decidable.not_not.1 hc27
   have hg := garOk hc0
   obtain ⟨l, hl⟩ : ∃ l, l = (allP G.toGarD).map (·.2) := ⟨_, rfl⟩
   rw [piecesG_0 hc0, ← hl] at hl23 ⊢
   have hlb : l.length ≤ 2000500000 := by
     rw [hl, List.length_map]
     have := allP_len hg G.us.length
     rwa [List.take_length] at this
   have hpk : ∀ p ∈ l, PcOk' p := fun p hp => by
     rw [hl] at hp
     obtain ⟨x, hx, rfl⟩ := List.mem_map.1 hp
     exact ⟨(allP_each hg x hx).sec, (allP_each hg x hx).way⟩
   have hl1 := hg.s
   have hl2 := hg.p
   refine ol_r (r_fa (o' := 1) rfl fl27_1 rfl) rfl ?_
   refine ol_r (r_ld (id := 1) rfl rfl rfl sc23) rfl ?_
   refine ol_r (r_len rfl sl23) rfl ?_
   refine ol_r (r_move rfl) rfl ?_
   refine ol_nil (to_k0 (fun _ _ h => h) (hK7 _ _ _ _ _ ?_))
   clear hK7
   refine wp_block' ?_
   apply wp_loopM (σ := Nat) (fun s => s ≤ G.sn) (fun s => [(32, .int .i64 s)]) [(1, _), (3, _), (30, _), (31, _)] (fun s => []) [(1, _), (23, _)] (fun s => G.sn - s) (0)
   ·try dsimp only
    exact Nat.zero_le _
   ·exact (sub_cons rfl sub_nil)
   ·exact (sub_cons rfl (sub_cons rfl (sub_cons rfl (sub_cons rfl sub_nil))))
   ·exact subH_nil
   ·exact (subH_same rfl (subH_same rfl subH_nil))
   ·rintro i hi
    intro K8 hK8
    refine wp_seq' fun K9 hK9 => ?_
    refine wp_reg ?_
    refine ol_r (r_lss rfl rfl) rfl ?_
    refine ol_nil (to_k0 (fun _ _ h => h) (hK9 _ _ _ _ _ ?_))
    clear hK9
    refine wp_seq' fun K10 hK10 => ?_
    first | refine wp_condD rfl (fun hc33 => ?_) (fun hc33 => ?_) | refine wp_condN rfl (fun hc33 => ?_) (fun hc33 => ?_) | refine wp_condNB rfl (fun hc33 => ?_) (fun hc33 => ?_) | refine wp_cond' rfl (fun hc33 => ?_) (fun hc33 => ?_)
    ·refine wp_skip' (to_k0 (fun _ _ h => h) (hK10 _ _ _ _ _ ?_))
     clear hK10
     refine wp_seq' fun K11 hK11 => ?_
     refine wp_block' ?_
     refine wp_seq' fun K12 hK12 => ?_
     refine wp_reg ?_
     refine ol_ixr hG.s rfl rfl sl23 (by omega) rfl fun x34 hx34 => ?_
     try simp only [Int.toNat_natCast] at hx34
     refine ol_r (r_ldw rfl (fun w1 hb1 hs1 hB1 => Rd.loads hG.s ty34 hx34 hb1)) rfl ?_
     refine ol_alloc 6 z34 rfl fun b6 => ?_
     refine ol_store (id := 6) rfl rfl rfl rfl sz34 rfl rfl (by first | decide | exact Nat.zero_lt_succ _ | simp) ?_
     refine ol_nil (to_k0 (fun _ _ h => h) (hK12 _ _ _ _ _ ?_))
     clear hK12
     refine wp_seq' fun K13 hK13 => ?_
     refine wp_reg ?_
     refine ol_r (r_assign rfl) rfl ?_
     refine ol_r (r_assign rfl) rfl ?_
     refine ol_nil (to_k0 (fun _ _ h => h) (hK13 _ _ _ _ _ ?_))
     clear hK13
     refine wp_seq' fun K14 hK14 => ?_
     refine wp_seq' fun K15 hK15 => ?_
     refine wp_reg ?_
     refine ol_r (r_move rfl) rfl ?_
     refine ol_r (r_len rfl sl28) rfl ?_
     refine ol_r (r_move rfl) rfl ?_
     refine ol_nil (to_k0 (fun _ _ h => h) (hK15 _ _ _ _ _ ?_))
     clear hK15
     refine wp_block' ?_
     apply wp_loopM (σ := Nat × Int × Int) (fun s => s.1 ≤ n23 ∧ s.2.1 = selS (·.sec) (inSl x34.name) (l.take s.1) ∧ s.2.2 = selS (·.way) (inSl x34.name) (l.take s.1)) (fun s => [(38, .int .i64 s.1), (7, .int .i64 s.2.1), (8, .int .i64 s.2.2)]) [(1, _), (3, _), (6, _), (30, _), (31, _), (32, _), (36, _), (37, _)] (fun s => []) [(1, _), (6, _), (23, _)] (fun s => n23 - s.1) ((0, 0, 0))
     ·try dsimp only
      exact ⟨Nat.zero_le _, rfl, rfl⟩
     ·exact (sub_cons rfl (sub_cons rfl (sub_cons rfl sub_nil)))
     ·exact (sub_cons rfl (sub_cons rfl (sub_cons rfl (sub_cons rfl (sub_cons rfl (sub_cons rfl (sub_cons rfl (sub_cons rfl sub_nil))))))))
     ·exact subH_nil
     ·exact (subH_same rfl (subH_same rfl (subH_same rfl subH_nil)))
     ·rintro ⟨k, S, W⟩ ⟨hk, hS, hW⟩
      dsimp only at hk hS hW ⊢
      have hS1 := selS_bd (f := (·.sec)) (c := inSl x34.name) (b := 1000000) (by omega) (l := l.take k) fun p hp => (hpk p (List.mem_of_mem_take hp)).sec
      have hW1 := selS_bd (f := (·.way)) (c := inSl x34.name) (b := 1000000000) (by omega) (l := l.take k) fun p hp => (hpk p (List.mem_of_mem_take hp)).way
      rw [← hS, List.length_take] at hS1
      rw [← hW, List.length_take] at hW1
      intro K16 hK16
      refine wp_seq' fun K17 hK17 => ?_
      refine wp_reg ?_
      refine ol_r (r_lss rfl rfl) rfl ?_
      refine ol_nil (to_k0 (fun _ _ h => h) (hK17 _ _ _ _ _ ?_))
      clear hK17
      refine wp_seq' fun K18 hK18 => ?_
      first | refine wp_condD rfl (fun hc39 => ?_) (fun hc39 => ?_) | refine wp_condN rfl (fun hc39 => ?_) (fun hc39 => ?_) | refine wp_condNB rfl (fun hc39 => ?_) (fun hc39 => ?_) | refine wp_cond' rfl (fun hc39 => ?_) (fun hc39 => ?_)
      ·refine wp_skip' (to_k0 (fun _ _ h => h) (hK18 _ _ _ _ _ ?_))
       clear hK18
       refine wp_seq' fun K19 hK19 => ?_
       refine wp_block' ?_
       refine wp_seq' fun K20 hK20 => ?_
       refine wp_reg ?_
       refine ol_ixo (id := 23) encGPiece _ rfl rfl rfl rfl sl28 (by omega) rfl fun x40 hx40 => ?_
       try simp only [Int.toNat_natCast] at hx40
       try simp only [Int.toNat_natCast] at hx40
       refine ol_r (r_ldw rfl (fun w1 hb1 hs1 hB1 => ld_own (id := 23) hs1 rfl rfl ty36 hx40)) rfl ?_
       refine ol_alloc 10 z36 rfl fun b10 => ?_
       refine ol_store (id := 10) rfl rfl rfl rfl sz36 rfl rfl (by first | decide | exact Nat.zero_lt_succ _ | simp) ?_
       refine ol_nil (to_k0 (fun _ _ h => h) (hK20 _ _ _ _ _ ?_))
       clear hK20
       refine wp_seq' fun K21 hK21 => ?_
       refine wp_reg ?_
       refine ol_r (r_fa (o' := 1) rfl fl36_1 rfl) rfl ?_
       refine ol_r (r_ld (id := 10) rfl rfl rfl sc9) rfl ?_
       refine ol_r (r_fa (o' := 0) rfl fl34_0 rfl) rfl ?_
       refine ol_r (r_ld (id := 6) rfl rfl rfl sc9) rfl ?_
       refine ol_r (r_seql rfl rfl) rfl ?_
       refine ol_nil (to_k0 (fun _ _ h => h) (hK21 _ _ _ _ _ ?_))
       clear hK21
       first | refine wp_condD rfl (fun hc46 => ?_) (fun hc46 => ?_) | refine wp_condN rfl (fun hc46 => ?_) (fun hc46 => ?_) | refine wp_condNB rfl (fun hc46 => ?_) (fun hc46 => ?_) | refine wp_cond' rfl (fun hc46 => ?_) (fun hc46 => ?_)
       ·refine wp_seq' fun K22 hK22 => ?_
        refine wp_reg ?_
        have hpx := hpk x40 (List.mem_of_getElem? hx40)
        have hpx1 := hpx.sec
        have hpx2 := hpx.way
        refine ol_r (r_move rfl) rfl ?_
        refine ol_r (r_fa (o' := 3) rfl fl36_3 rfl) rfl ?_
        refine ol_r (r_ld (id := 10) rfl rfl rfl sc3) rfl ?_
        refine ol_r (r_add rfl rfl (by omega)) rfl ?_
        refine ol_r (r_assign rfl) rfl ?_
        refine ol_nil (to_k0 (fun _ _ h => h) (hK22 _ _ _ _ _ ?_))
        clear hK22
        refine wp_reg ?_
        refine ol_r (r_move rfl) rfl ?_
        refine ol_r (r_fa (o' := 4) rfl fl36_4 rfl) rfl ?_
        refine ol_r (r_ld (id := 10) rfl rfl rfl sc3) rfl ?_
        refine ol_r (r_add rfl rfl (by omega)) rfl ?_
        refine ol_r (r_assign rfl) rfl ?_
        refine ol_nil (to_k0 (fun _ _ h => h) (hK19 _ _ _ _ _ ?_))
        clear hK19
        refine wp_reg ?_
        refine ol_r (r_add rfl rfl (by omega)) rfl ?_
        refine ol_r (r_move rfl) rfl ?_
        refine ol_nil (to_k0 (fun _ _ h => h) (hK16 ((k + 1, _, _)) _ _ ?_ ?_ (sub_cons rfl (sub_cons rfl (sub_cons rfl sub_nil))) (sub_cons rfl (sub_cons rfl (sub_cons rfl (sub_cons rfl (sub_cons rfl (sub_cons rfl (sub_cons rfl (sub_cons rfl sub_nil)))))))) (by exact subH_nil) (subH_same rfl (subH_same rfl (subH_same rfl subH_nil)))))
        ·try dsimp only
         exact ⟨by omega, by rw [selS_if hx40 hS, if_pos hc46], by rw [selS_if hx40 hW, if_pos hc46]⟩
        ·try dsimp only
         omega
       ·refine wp_skip' (to_k0 (fun _ _ h => h) (hK19 _ _ _ _ _ ?_))
        clear hK19
        refine wp_reg ?_
        refine ol_r (r_add rfl rfl (by omega)) rfl ?_
        refine ol_r (r_move rfl) rfl ?_
        refine ol_nil (to_k0 (fun _ _ h => h) (hK16 ((k + 1, _, _)) _ _ ?_ ?_ (sub_cons rfl (sub_cons rfl (sub_cons rfl sub_nil))) (sub_cons rfl (sub_cons rfl (sub_cons rfl (sub_cons rfl (sub_cons rfl (sub_cons rfl (sub_cons rfl (sub_cons rfl sub_nil)))))))) (by exact subH_nil) (subH_same rfl (subH_same rfl (subH_same rfl subH_nil)))))
        ·try dsimp only
         exact ⟨by omega, by rw [selS_if hx40 hS, if_neg (fun h => tf_no h hc46), Int.add_zero], by rw [selS_if hx40 hW, if_neg (fun h => tf_no h hc46), Int.add_zero]⟩
        ·try dsimp only
         omega
      ·refine wp_exit' (to_k0 (fun _ _ h => h) (hK14 _ _ _ _ _ ?_))
       clear hK14
       refine wp_seq' fun K23 hK23 => ?_
       refine wp_reg ?_
       refine ol_r (r_lda (id := 1) (n := 4) rfl rfl rfl ag27) rfl ?_
       refine ol_r (r_fa (o' := 1) rfl fl34_1 rfl) rfl ?_
       refine ol_r (r_ld (id := 6) rfl rfl rfl sc9) rfl ?_
       refine ol_call rfl rfl cb8 rfl (fun w1 hb1 hs1 hB1 => ?_)
       refine Calls.mono (gear_Total G x34.rig _ (hG.at hb1 hB1) hc0 (hg.rig x34 (List.mem_of_getElem? hx34)) (hG.zs x34 (List.mem_of_getElem? hx34)).2) ?_
       rintro e w2 ⟨N, rfl, hb2⟩
       refine After.below rfl hb1 hs1 hB1 hb2 ?_
       clear hb2 hB1 hs1 hb1 w2 w1
       refine ol_r (r_move rfl) rfl ?_
       refine ol_r (r_extract rfl rfl) rfl ?_
       refine ol_r (r_extract rfl rfl) rfl ?_
       refine ol_alloc 11 z38 rfl fun b11 => ?_
       refine ol_store (id := 11) rfl rfl rfl rfl sz38 rfl rfl (by first | decide | exact Nat.zero_lt_succ _ | simp) ?_
       refine ol_r (r_assign rfl) rfl ?_
       refine ol_nil (to_k0 (fun _ _ h => h) (hK23 _ _ _ _ _ ?_))
       clear hK23
       refine wp_seq' fun K24 hK24 => ?_
       refine wp_reg ?_
       rw [List.take_of_length_le (by omega)] at hS hW
       have hS2 : totS (·.sec) x34.rig G.us = S := by rw [hS, hl]; exact (slot_total hg (List.mem_of_getElem? hx34) (f := (·.sec)) (t := (·.sec)) fun u hu slot ms => (pieces_sums (hg.use u hu)).1).symm
       have hW2 : totS (·.way) x34.rig G.us = W := by rw [hW, hl]; exact (slot_total hg (List.mem_of_getElem? hx34) (f := (·.way)) (t := (·.way)) fun u hu slot ms => (pieces_sums (hg.use u hu)).2).symm
       refine ol_r (r_move rfl) rfl ?_
       refine ol_r (r_neq rfl rfl) rfl ?_
       refine ol_r (r_move rfl) rfl ?_
       refine ol_split (d := 65) rfl (fun hs65 => ?_) (fun hs65 => ?_)
       ·have phs65 := hs65; try simp only [decide_eq_true_eq, decide_eq_false_iff_not, Bool.not_eq_true', Bool.not_eq_false', Bool.not_true, Bool.not_false] at phs65
        exfalso
        exact phs65 rfl
       ·have phs65 := hs65; try simp only [decide_eq_true_eq, decide_eq_false_iff_not, Bool.not_eq_true', Bool.not_eq_false', Bool.not_true, Bool.not_false] at phs65
        refine ol_g rfl rfl hs65 ?_
        refine ol_r (r_fa (o' := 0) rfl fl38_0 rfl) rfl ?_
        refine ol_g rfl rfl hs65 ?_
        refine ol_r (r_ld (id := 11) rfl rfl rfl sc3) rfl ?_
        refine ol_g rfl rfl hs65 ?_
        refine ol_r (r_move rfl) rfl ?_
        refine ol_g rfl rfl hs65 ?_
        refine ol_r (r_neq rfl rfl) rfl ?_
        refine ol_r (r_pickF rfl hs65 rfl) rfl ?_
        refine ol_r (r_move rfl) rfl ?_
        refine ol_split (d := 71) rfl (fun hs71 => ?_) (fun hs71 => ?_)
        ·have phs71 := hs71; try simp only [decide_eq_true_eq, decide_eq_false_iff_not, Bool.not_eq_true', Bool.not_eq_false', Bool.not_true, Bool.not_false] at phs71
         exfalso
         exact phs71 hS2
        ·have phs71 := hs71; try simp only [decide_eq_true_eq, decide_eq_false_iff_not, Bool.not_eq_true', Bool.not_eq_false', Bool.not_true, Bool.not_false] at phs71
         refine ol_g rfl rfl hs71 ?_
         refine ol_r (r_fa (o' := 1) rfl fl38_1 rfl) rfl ?_
         refine ol_g rfl rfl hs71 ?_
         refine ol_r (r_ld (id := 11) rfl rfl rfl sc3) rfl ?_
         refine ol_g rfl rfl hs71 ?_
         refine ol_r (r_move rfl) rfl ?_
         refine ol_g rfl rfl hs71 ?_
         refine ol_r (r_neq rfl rfl) rfl ?_
         refine ol_r (r_pickF rfl hs71 rfl) rfl ?_
         refine ol_nil (to_k0 (fun _ _ h => h) (hK24 _ _ _ _ _ ?_))
         clear hK24
         first | refine wp_condD rfl (fun hc76 => ?_) (fun hc76 => ?_) | refine wp_condN rfl (fun hc76 => ?_) (fun hc76 => ?_) | refine wp_condNB rfl (fun hc76 => ?_) (fun hc76 => ?_) | refine wp_cond' rfl (fun hc76 => ?_) (fun hc76 => ?_)
         ·exfalso
          exact hc76 hW2
         ·refine wp_skip' (to_k0 (fun _ _ h => h) (hK11 _ _ _ _ _ ?_))
          clear hK11
          refine wp_reg ?_
          refine ol_r (r_add rfl rfl (by omega)) rfl ?_
          refine ol_r (r_move rfl) rfl ?_
          refine ol_nil (to_k0 (fun _ _ h => h) (hK8 (i + 1) _ _ ?_ ?_ (sub_cons rfl sub_nil) (sub_cons rfl (sub_cons rfl (sub_cons rfl (sub_cons rfl sub_nil)))) (by exact subH_nil) (subH_same rfl (subH_same rfl subH_nil))))
          ·try dsimp only
           omega
          ·try dsimp only
           omega
    ·refine wp_exit' (to_k0 (fun _ _ h => h) (hK6 _ _ _ _ _ ?_))
     clear hK6
     refine wp_seq' fun K25 hK25 => ?_
     refine wp_seq' fun K26 hK26 => ?_
     refine wp_reg ?_
     refine ol_r (r_fa (o' := 0) rfl fl27_0 rfl) rfl ?_
     refine ol_r (r_ld (id := 1) rfl rfl rfl sc22) rfl ?_
     refine ol_r (r_len rfl sl22) rfl ?_
     refine ol_r (r_move rfl) rfl ?_
     refine ol_nil (to_k0 (fun _ _ h => h) (hK26 _ _ _ _ _ ?_))
     clear hK26
     refine wp_block' ?_
     apply wp_loopM (σ := Nat) (fun s => s ≤ G.pn) (fun s => [(81, .int .i64 s)]) [(1, _), (3, _), (79, _), (80, _)] (fun s => []) [(1, _), (23, _)] (fun s => G.pn - s) (0)
     ·try dsimp only
      exact Nat.zero_le _
     ·exact (sub_cons rfl sub_nil)
     ·exact (sub_cons rfl (sub_cons rfl (sub_cons rfl (sub_cons rfl sub_nil))))
     ·exact subH_nil
     ·exact (subH_same rfl (subH_same rfl subH_nil))
     ·rintro j hj
      intro K27 hK27
      refine wp_seq' fun K28 hK28 => ?_
      refine wp_reg ?_
      refine ol_r (r_lss rfl rfl) rfl ?_
      refine ol_nil (to_k0 (fun _ _ h => h) (hK28 _ _ _ _ _ ?_))
      clear hK28
      refine wp_seq' fun K29 hK29 => ?_
      first | refine wp_condD rfl (fun hc82 => ?_) (fun hc82 => ?_) | refine wp_condN rfl (fun hc82 => ?_) (fun hc82 => ?_) | refine wp_condNB rfl (fun hc82 => ?_) (fun hc82 => ?_) | refine wp_cond' rfl (fun hc82 => ?_) (fun hc82 => ?_)
      ·refine wp_skip' (to_k0 (fun _ _ h => h) (hK29 _ _ _ _ _ ?_))
       clear hK29
       refine wp_seq' fun K30 hK30 => ?_
       refine wp_block' ?_
       refine wp_seq' fun K31 hK31 => ?_
       refine wp_reg ?_
       refine ol_ixr hG.p rfl rfl sl22 (by omega) rfl fun x83 hx83 => ?_
       try simp only [Int.toNat_natCast] at hx83
       refine ol_r (r_ldw rfl (fun w1 hb1 hs1 hB1 => Rd.loads hG.p ty42 hx83 hb1)) rfl ?_
       refine ol_alloc 14 z42 rfl fun b14 => ?_
       refine ol_store (id := 14) rfl rfl rfl rfl sz42 rfl rfl (by first | decide | exact Nat.zero_lt_succ _ | simp) ?_
       refine ol_nil (to_k0 (fun _ _ h => h) (hK31 _ _ _ _ _ ?_))
       clear hK31
       refine wp_seq' fun K32 hK32 => ?_
       refine wp_reg ?_
       refine ol_r (r_build rfl (fun _ => bd38 _)) rfl ?_
       refine ol_mkmapE (Value.string) (Value.bool) 86 rfl fun b86 => ?_
       refine ol_alloc 15 z38 rfl fun b15 => ?_
       refine ol_store (id := 15) rfl rfl rfl rfl sz38 rfl rfl (by first | decide | exact Nat.zero_lt_succ _ | simp) ?_
       refine ol_r (r_assign rfl) rfl ?_
       refine ol_nil (to_k0 (fun _ _ h => h) (hK32 _ _ _ _ _ ?_))
       clear hK32
       refine wp_seq' fun K33 hK33 => ?_
       refine wp_seq' fun K34 hK34 => ?_
       refine wp_reg ?_
       refine ol_r (r_move rfl) rfl ?_
       refine ol_r (r_len rfl sl28) rfl ?_
       refine ol_r (r_move rfl) rfl ?_
       refine ol_nil (to_k0 (fun _ _ h => h) (hK34 _ _ _ _ _ ?_))
       clear hK34
       refine wp_block' ?_
       apply wp_loopM (σ := Nat × Int × Int × KB) (fun s => s.1 ≤ n23 ∧ s.2 = wtF x83.name (l.take s.1)) (fun s => [(89, .int .i64 s.1)]) [(1, _), (3, _), (14, _), (15, _), (16, _), (79, _), (80, _), (81, _), (87, _), (88, _)] (fun s => [(15, .blk b15 [(0, .int .i64 s.2.1), (1, .int .i64 s.2.2.1), (2, .int .i64 0)] 38), (86, .ob b86 (MapO (pEnc Value.string Value.bool s.2.2.2)))]) [(1, _), (14, _), (23, _)] (fun s => n23 - s.1) ((0, 0, 0, []))
       ·try dsimp only
        exact ⟨Nat.zero_le _, rfl⟩
       ·exact (sub_cons rfl sub_nil)
       ·exact (sub_cons rfl (sub_cons rfl (sub_cons rfl (sub_cons rfl (sub_cons rfl (sub_cons rfl (sub_cons rfl (sub_cons rfl (sub_cons rfl (sub_cons rfl sub_nil))))))))))
       ·exact (subH_blk rfl (sub_cons rfl (sub_cons rfl (sub_cons rfl sub_nil))) (subH_same rfl subH_nil))
       ·exact (subH_same rfl (subH_same rfl (subH_same rfl subH_nil)))
       ·rintro ⟨q, S, W, D⟩ ⟨hq, hT⟩
        dsimp only at hq hT ⊢
        have hTb := wtF_bd hpk q (nm := x83.name)
        have hTl := wtF_len (nm := x83.name) (l := l) q
        rw [← hT] at hTb hTl
        obtain ⟨⟨t1, t2⟩, t3, t4⟩ := hTb
        dsimp only at t1 t2 t3 t4 hTl
        intro K35 hK35
        refine wp_seq' fun K36 hK36 => ?_
        refine wp_reg ?_
        refine ol_r (r_lss rfl rfl) rfl ?_
        refine ol_nil (to_k0 (fun _ _ h => h) (hK36 _ _ _ _ _ ?_))
        clear hK36
        refine wp_seq' fun K37 hK37 => ?_
        first | refine wp_condD rfl (fun hc90 => ?_) (fun hc90 => ?_) | refine wp_condN rfl (fun hc90 => ?_) (fun hc90 => ?_) | refine wp_condNB rfl (fun hc90 => ?_) (fun hc90 => ?_) | refine wp_cond' rfl (fun hc90 => ?_) (fun hc90 => ?_)
        ·refine wp_skip' (to_k0 (fun _ _ h => h) (hK37 _ _ _ _ _ ?_))
         clear hK37
         refine wp_seq' fun K38 hK38 => ?_
         refine wp_block' ?_
         refine wp_seq' fun K39 hK39 => ?_
         refine wp_reg ?_
         refine ol_ixo (id := 23) encGPiece _ rfl rfl rfl rfl sl28 (by omega) rfl fun x91 hx91 => ?_
         try simp only [Int.toNat_natCast] at hx91
         try simp only [Int.toNat_natCast] at hx91
         refine ol_r (r_ldw rfl (fun w1 hb1 hs1 hB1 => ld_own (id := 23) hs1 rfl rfl ty36 hx91)) rfl ?_
         refine ol_alloc 18 z36 rfl fun b18 => ?_
         refine ol_store (id := 18) rfl rfl rfl rfl sz36 rfl rfl (by first | decide | exact Nat.zero_lt_succ _ | simp) ?_
         refine ol_nil (to_k0 (fun _ _ h => h) (hK39 _ _ _ _ _ ?_))
         clear hK39
         refine wp_seq' fun K40 hK40 => ?_
         refine wp_reg ?_
         refine ol_r (r_fa (o' := 2) rfl fl36_2 rfl) rfl ?_
         refine ol_r (r_ld (id := 18) rfl rfl rfl sc9) rfl ?_
         refine ol_r (r_fa (o' := 0) rfl fl42_0 rfl) rfl ?_
         refine ol_r (r_ld (id := 14) rfl rfl rfl sc9) rfl ?_
         refine ol_r (r_seql rfl rfl) rfl ?_
         refine ol_nil (to_k0 (fun _ _ h => h) (hK40 _ _ _ _ _ ?_))
         clear hK40
         first | refine wp_condD rfl (fun hc97 => ?_) (fun hc97 => ?_) | refine wp_condN rfl (fun hc97 => ?_) (fun hc97 => ?_) | refine wp_condNB rfl (fun hc97 => ?_) (fun hc97 => ?_) | refine wp_cond' rfl (fun hc97 => ?_) (fun hc97 => ?_)
         ·refine wp_seq' fun K41 hK41 => ?_
          refine wp_reg ?_
          have hpy := hpk x91 (List.mem_of_getElem? hx91)
          have hpy1 := hpy.sec
          have hpy2 := hpy.way
          refine ol_r (r_fa (o' := 0) rfl fl38_0 rfl) rfl ?_
          refine ol_r (r_ld (id := 15) rfl rfl rfl sc3) rfl ?_
          refine ol_r (r_fa (o' := 3) rfl fl36_3 rfl) rfl ?_
          refine ol_r (r_ld (id := 18) rfl rfl rfl sc3) rfl ?_
          refine ol_r (r_add rfl rfl (by omega)) rfl ?_
          refine ol_r (r_fa (o' := 0) rfl fl38_0 rfl) rfl ?_
          refine ol_store (id := 15) rfl rfl rfl rfl sz3 rfl rfl (by first | decide | exact Nat.zero_lt_succ _ | simp) ?_
          refine ol_nil (to_k0 (fun _ _ h => h) (hK41 _ _ _ _ _ ?_))
          clear hK41
          refine wp_seq' fun K42 hK42 => ?_
          refine wp_reg ?_
          refine ol_r (r_fa (o' := 1) rfl fl38_1 rfl) rfl ?_
          refine ol_r (r_ld (id := 15) rfl rfl rfl sc3) rfl ?_
          refine ol_r (r_fa (o' := 4) rfl fl36_4 rfl) rfl ?_
          refine ol_r (r_ld (id := 18) rfl rfl rfl sc3) rfl ?_
          refine ol_r (r_add rfl rfl (by omega)) rfl ?_
          refine ol_r (r_fa (o' := 1) rfl fl38_1 rfl) rfl ?_
          refine ol_store (id := 15) rfl rfl rfl rfl sz3 rfl rfl (by first | decide | exact Nat.zero_lt_succ _ | simp) ?_
          refine ol_nil (to_k0 (fun _ _ h => h) (hK42 _ _ _ _ _ ?_))
          clear hK42
          refine wp_reg ?_
          refine ol_r (r_move rfl) rfl ?_
          refine ol_r (r_fa (o' := 0) rfl fl36_0 rfl) rfl ?_
          refine ol_r (r_ld (id := 18) rfl rfl rfl sc9) rfl ?_
          refine ol_mapset (K := Value.string) (V := Value.bool) (z := false) (id := 86) rfl rfl rfl rfl mk43 trivial ?_
          refine ol_nil (to_k0 (fun _ _ h => h) (hK38 _ _ _ _ _ ?_))
          clear hK38
          refine wp_reg ?_
          refine ol_r (r_add rfl rfl (by omega)) rfl ?_
          refine ol_r (r_move rfl) rfl ?_
          refine ol_nil (to_k0 (fun _ _ h => h) (hK35 ((q + 1, _, _, _)) _ _ ?_ ?_ (sub_cons rfl sub_nil) (sub_cons rfl (sub_cons rfl (sub_cons rfl (sub_cons rfl (sub_cons rfl (sub_cons rfl (sub_cons rfl (sub_cons rfl (sub_cons rfl (sub_cons rfl sub_nil)))))))))) (by exact (subH_blk rfl (sub_cons rfl (sub_cons rfl (sub_cons rfl sub_nil))) (subH_same rfl subH_nil))) (subH_same rfl (subH_same rfl (subH_same rfl subH_nil)))))
          ·try dsimp only
           exact ⟨by omega, by rw [wtF_succ hx91, ← hT, wtS_y hc97]⟩
          ·try dsimp only
           omega
         ·refine wp_skip' (to_k0 (fun _ _ h => h) (hK38 _ _ _ _ _ ?_))
          clear hK38
          refine wp_reg ?_
          refine ol_r (r_add rfl rfl (by omega)) rfl ?_
          refine ol_r (r_move rfl) rfl ?_
          refine ol_nil (to_k0 (fun _ _ h => h) (hK35 ((q + 1, _, _, _)) _ _ ?_ ?_ (sub_cons rfl sub_nil) (sub_cons rfl (sub_cons rfl (sub_cons rfl (sub_cons rfl (sub_cons rfl (sub_cons rfl (sub_cons rfl (sub_cons rfl (sub_cons rfl (sub_cons rfl sub_nil)))))))))) (by exact (subH_blk rfl (sub_cons rfl (sub_cons rfl (sub_cons rfl sub_nil))) (subH_same rfl subH_nil))) (subH_same rfl (subH_same rfl (subH_same rfl subH_nil)))))
          ·try dsimp only
           exact ⟨by omega, by rw [wtF_succ hx91, ← hT, wtS_n hc97]⟩
          ·try dsimp only
           omega
        ·refine wp_exit' (to_k0 (fun _ _ h => h) (hK33 _ _ _ _ _ ?_))
         clear hK33
         refine wp_seq' fun K43 hK43 => ?_
         refine wp_reg ?_
         refine ol_r (r_move rfl) rfl ?_
         refine ol_r (r_mlen (K := Value.string) (V := Value.bool) (z := false) (id := 86) rfl rfl mk43) rfl ?_
         refine ol_r (r_fa (o' := 2) rfl fl38_2 rfl) rfl ?_
         refine ol_store (id := 15) rfl rfl rfl rfl sz3 rfl rfl (by first | decide | exact Nat.zero_lt_succ _ | simp) ?_
         refine ol_nil (to_k0 (fun _ _ h => h) (hK43 _ _ _ _ _ ?_))
         clear hK43
         refine wp_seq' fun K44 hK44 => ?_
         refine wp_seq' fun K45 hK45 => ?_
         refine wp_reg ?_
         refine ol_r (r_fa (o' := 3) rfl fl27_3 rfl) rfl ?_
         refine ol_r (r_ld (id := 1) rfl rfl rfl sc25) rfl ?_
         refine ol_call rfl rfl cb9 rfl (fun w1 hb1 hs1 hB1 => Calls.mono (containsFunc_gu _ _ _ G.us _ [] (fun u => decide (u.fr = 86399999999)) _ (hG.u.at hb1 hB1) cb10 (fun x w' _ _ _ => top_use x w')) ?_)
         rintro e w2 ⟨rfl, hb2⟩
         refine After.below rfl hb1 hs1 hB1 hb2 ?_
         clear hb2 hB1 hs1 hb1 w2 w1
         refine ol_nil (to_k0 (fun _ _ h => h) (hK45 _ _ _ _ _ ?_))
         clear hK45
         first | refine wp_condD rfl (fun hc119 => ?_) (fun hc119 => ?_) | refine wp_condN rfl (fun hc119 => ?_) (fun hc119 => ?_) | refine wp_condNB rfl (fun hc119 => ?_) (fun hc119 => ?_) | refine wp_cond' rfl (fun hc119 => ?_) (fun hc119 => ?_)
         ·refine wp_exit' (to_k0 (fun _ _ h => h) (hK30 _ _ _ _ _ ?_))
          clear hK30
          refine wp_reg ?_
          refine ol_r (r_add rfl rfl (by omega)) rfl ?_
          refine ol_r (r_move rfl) rfl ?_
          refine ol_nil (to_k0 (fun _ _ h => h) (hK27 (j + 1) _ _ ?_ ?_ (sub_cons rfl sub_nil) (sub_cons rfl (sub_cons rfl (sub_cons rfl (sub_cons rfl sub_nil)))) (by exact subH_nil) (subH_same rfl (subH_same rfl subH_nil))))
          ·try dsimp only
           omega
          ·try dsimp only
           omega
         ·refine wp_skip' (to_k0 (fun _ _ h => h) (hK44 _ _ _ _ _ ?_))
          clear hK44
          refine wp_seq' fun K46 hK46 => ?_
          refine wp_reg ?_
          refine ol_r (r_lda (id := 1) (n := 4) rfl rfl rfl ag27) rfl ?_
          refine ol_r (r_fa (o' := 0) rfl fl42_0 rfl) rfl ?_
          refine ol_r (r_ld (id := 14) rfl rfl rfl sc9) rfl ?_
          refine ol_call rfl rfl cb11 rfl (fun w1 hb1 hs1 hB1 => Calls.mono (gear_WearOf G x83.name _ (hG.at hb1 hB1) hc0 (List.any_eq_true.2 ⟨x83, List.mem_of_getElem? hx83, sEq_iff.2 rfl⟩)) ?_)
          rintro e w2 ⟨rfl, hb2⟩
          refine After.below rfl hb1 hs1 hB1 hb2 ?_
          clear hb2 hB1 hs1 hb1 w2 w1
          refine ol_r (r_move rfl) rfl ?_
          refine ol_r (r_extract rfl rfl) rfl ?_
          refine ol_r (r_extract rfl rfl) rfl ?_
          refine ol_alloc 19 z38 rfl fun b19 => ?_
          refine ol_store (id := 19) rfl rfl rfl rfl sz38 rfl rfl (by first | decide | exact Nat.zero_lt_succ _ | simp) ?_
          refine ol_r (r_assign rfl) rfl ?_
          refine ol_nil (to_k0 (fun _ _ h => h) (hK46 _ _ _ _ _ ?_))
          clear hK46
          refine wp_seq' fun K47 hK47 => ?_
          refine wp_reg ?_
          rw [List.take_of_length_le (by omega)] at hT
          have hno : ∀ u ∈ G.us, u.fr ≠ 86399999999 := fun u hu he => by
            have := List.any_eq_false.1 hc119 u hu
            exact this (decide_eq_true he)
          have hws := wear_same hg hno x83.name
          rw [← hl, ← hT] at hws
          refine ol_r (r_move rfl) rfl ?_
          refine ol_r (r_neq rfl rfl) rfl ?_
          refine ol_r (r_move rfl) rfl ?_
          refine ol_split (d := 129) rfl (fun hs129 => ?_) (fun hs129 => ?_)
          ·have phs129 := hs129; try simp only [decide_eq_true_eq, decide_eq_false_iff_not, Bool.not_eq_true', Bool.not_eq_false', Bool.not_true, Bool.not_false] at phs129
           exfalso
           exact phs129 rfl
          ·have phs129 := hs129; try simp only [decide_eq_true_eq, decide_eq_false_iff_not, Bool.not_eq_true', Bool.not_eq_false', Bool.not_true, Bool.not_false] at phs129
           refine ol_g rfl rfl hs129 ?_
           refine ol_r (r_lda (id := 19) (n := 3) rfl rfl rfl ag38) rfl ?_
           refine ol_g rfl rfl hs129 ?_
           refine ol_r (r_lda (id := 15) (n := 3) rfl rfl rfl ag38) rfl ?_
           refine ol_g rfl rfl hs129 ?_
           refine ol_r (r_nes rfl rfl (by kernel_rfl) (fun w => run_eqs (by kernel_rfl) (by kernel_rfl) w)) rfl ?_
           refine ol_r (r_pickF rfl hs129 rfl) rfl ?_
           refine ol_nil (to_k0 (fun _ _ h => h) (hK47 _ _ _ _ _ ?_))
           clear hK47
           first | refine wp_condD rfl (fun hc133 => ?_) (fun hc133 => ?_) | refine wp_condN rfl (fun hc133 => ?_) (fun hc133 => ?_) | refine wp_condNB rfl (fun hc133 => ?_) (fun hc133 => ?_) | refine wp_cond' rfl (fun hc133 => ?_) (fun hc133 => ?_)
           ·exfalso
            rw [hws.1, hws.2.1, hws.2.2] at hc133; simp [eqs, eqV] at hc133
           ·refine wp_skip' (to_k0 (fun _ _ h => h) (hK30 _ _ _ _ _ ?_))
            clear hK30
            refine wp_reg ?_
            refine ol_r (r_add rfl rfl (by omega)) rfl ?_
            refine ol_r (r_move rfl) rfl ?_
            refine ol_nil (to_k0 (fun _ _ h => h) (hK27 (j + 1) _ _ ?_ ?_ (sub_cons rfl sub_nil) (sub_cons rfl (sub_cons rfl (sub_cons rfl (sub_cons rfl sub_nil)))) (by exact subH_nil) (subH_same rfl (subH_same rfl subH_nil))))
            ·try dsimp only
             omega
            ·try dsimp only
             omega
      ·refine wp_exit' (to_k0 (fun _ _ h => h) (hK25 _ _ _ _ _ ?_))
       clear hK25
       refine wp_seq' fun K48 hK48 => ?_
       refine wp_reg ?_
       refine ol_call rfl rfl cb7 rfl (fun w1 hb1 hs1 hB1 => Calls.mono (top_told _) ?_)
       rintro e w2 ⟨rfl, hb2⟩
       refine After.below rfl hb1 hs1 hB1 hb2 ?_
       clear hb2 hB1 hs1 hb1 w2 w1
       refine ol_r (r_assign rfl) rfl ?_
       refine ol_nil (to_k0 (fun _ _ h => h) (hK48 _ _ _ _ _ ?_))
       clear hK48
       refine hQ.ret (rvs1 (rv_t rfl)) (fun _ _ h => h) fun w hb hs hB hkd => ?_
       exact ⟨rfl, hb⟩
end Go.Proofs.Ytfbmkepogcimlaa
