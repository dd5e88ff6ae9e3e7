/-
  Garages: Check.
-/
import Derived.Test.YtfbmkepogcimlaaXmA
import Derived.Test.YtfbmkepogcimlaaXmB


namespace Go.Proofs.Ytfbmkepogcimlaa
open Go Go.RowKit Hx
set_option linter.unusedVariables false
set_option linter.unusedSimpArgs false
set_option maxRecDepth 8000
theorem gchkM_bad {g : GarD} {c : Int} (h : chkE (fMo (keysM (g.ps.map (·.name))) (keysM (g.ss.map (·.name)))) none g.ms = c) (hc : c ≠ 0) : gchkM g = c := by
  subst h; exact gchkM_1 hc
section
variable {P S : KB} {p : Option GMount} {x y : GMount} {xs : List GMount} {k : Nat}
theorem fMo_4 (h : hasK S x.slot = false ∨ hasK P x.part = false) : fMo P S p x = 4 := if_pos h
theorem fMo_9 (h : ¬(hasK S x.slot = false ∨ hasK P x.part = false)) (h2 : momB x.fr = false ∨ (x.to_ ≠ -1 ∧ momB x.to_ = false)) : fMo P S p x = 9 := by rw [fMo, if_neg h, if_pos h2]
theorem fMo_10 (h : ¬(hasK S x.slot = false ∨ hasK P x.part = false)) (h2 : ¬(momB x.fr = false ∨ (x.to_ ≠ -1 ∧ momB x.to_ = false))) (h3 : (x.to_ ≠ -1 ∧ x.to_ ≤ x.fr) ∨ ordMo p x = true) : fMo P S p x = 10 := by rw [fMo, if_neg h, if_neg h2, if_pos h3]
theorem fMo_0 (h : ¬(hasK S x.slot = false ∨ hasK P x.part = false)) (h2 : ¬(momB x.fr = false ∨ (x.to_ ≠ -1 ∧ momB x.to_ = false))) (h3 : ¬(x.to_ ≠ -1 ∧ x.to_ ≤ x.fr)) (h4 : ordMo p x = false) : fMo P S p x = 0 := by rw [fMo, if_neg h, if_neg h2, if_neg (not_or.2 ⟨h3, by rw [h4]; simp⟩)]
theorem ordMo_z (h : ¬(k : Int) > 0) : ordMo (ahead xs k) x = false := by rw [ahead_none (by omega)]; rfl
theorem ordMo_t (hk : (k : Int) > 0) (hy : xs[((k : Int) - 1).toNat]? = some y) (h : mcf y x ≥ 0) : ordMo (ahead xs k) x = true := by rw [ahead_pred hk hy]; exact decide_eq_true h
theorem ordMo_f (hk : (k : Int) > 0) (hy : xs[((k : Int) - 1).toNat]? = some y) (h : ¬mcf y x ≥ 0) : ordMo (ahead xs k) x = false := by rw [ahead_pred hk hy]; exact decide_eq_false h
theorem tf_no {b : Bool} (h : b = true) (h2 : b = false) : False := by rw [h] at h2; cases h2
end
theorem gear_checkMounts (G : GarV) (w : World) (hG : G.Ok w.heap.size w) : Calls Try.prog 59 #[.agg #[.slice G.pa G.pn G.pc, .slice G.sa G.sn G.sc, .slice G.ma G.mn G.mc, .slice G.ua G.un G.uc]] w fun e w' => e = .returned (.int .i64 (gchkM G.toGarD)) ∧ Below w.heap.size w w' := by
  have hpn := hG.p.len
  have hpf := hG.p.fit
  have hsn := hG.s.len
  have hsf := hG.s.fit
  have hmn := hG.m.len
  have hmf := hG.m.fit
  refine enterQ (N := 139) (C := fun _ => True) (H := []) (B := w.heap.size) (args := [_]) Try.func59 rfl rfl rfl (Nat.le_refl _) (Sat.nil _ _) fun Q hQ => ?_
  refine wp_seq' fun K1 hK1 => ?_
  refine wp_reg ?_
  refine ol_box 1 rfl rfl rfl fun b1 => ?_
  refine ol_r (r_assign rfl) rfl ?_
  refine ol_nil (to_k0 (fun _ _ h => h) (hK1 _ _ _ _ _ ?_))
  clear hK1
  refine wp_seq' fun K2 hK2 => ?_
  refine wp_reg ?_
  refine ol_mkmapE (Value.string) (Value.bool) 15 rfl fun b15 => ?_
  refine ol_mkmapE (Value.string) (Value.bool) 16 rfl fun b16 => ?_
  refine ol_r (r_assign rfl) rfl ?_
  refine ol_r (r_assign rfl) rfl ?_
  refine ol_nil (to_k0 (fun _ _ h => h) (hK2 _ _ _ _ _ ?_))
  clear hK2
  refine wp_seq' fun K3 hK3 => ?_
  refine wp_seq' fun K4 hK4 => ?_
  refine wp_reg ?_
  refine ol_r (r_fa (o' := 0) rfl fl27_0 rfl) rfl ?_
  refine ol_r (r_ld (id := 1) rfl rfl rfl sc22) rfl ?_
  refine ol_r (r_len rfl sl22) rfl ?_
  refine ol_r (r_move rfl) rfl ?_
  refine ol_nil (to_k0 (fun _ _ h => h) (hK4 _ _ _ _ _ ?_))
  clear hK4
  refine wp_block' ?_
  apply wp_loopM (σ := Nat × KB) (fun s => s.1 ≤ G.pn ∧ s.2 = keysM ((G.ps.take s.1).map (·.name))) (fun s => [(20, .int .i64 s.1)]) [(1, _), (2, _), (3, _), (4, _), (18, _), (19, _)] (fun s => [(15, .ob b15 (MapO (pEnc Value.string Value.bool s.2)))]) [(1, _), (16, _)] (fun s => G.pn - s.1) ((0, []))
  ·try dsimp only
   exact ⟨Nat.zero_le _, rfl⟩
  ·exact (sub_cons rfl sub_nil)
  ·exact (sub_cons rfl (sub_cons rfl (sub_cons rfl (sub_cons rfl (sub_cons rfl (sub_cons rfl sub_nil))))))
  ·exact (subH_same rfl subH_nil)
  ·exact (subH_same rfl (subH_same rfl subH_nil))
  ·rintro ⟨k1, D1⟩ ⟨hk1, hD1⟩
   dsimp only at hk1 hD1 ⊢
   intro K5 hK5
   refine wp_seq' fun K6 hK6 => ?_
   refine wp_reg ?_
   refine ol_r (r_lss rfl rfl) rfl ?_
   refine ol_nil (to_k0 (fun _ _ h => h) (hK6 _ _ _ _ _ ?_))
   clear hK6
   refine wp_seq' fun K7 hK7 => ?_
   first | refine wp_condD rfl (fun hc21 => ?_) (fun hc21 => ?_) | refine wp_condN rfl (fun hc21 => ?_) (fun hc21 => ?_) | refine wp_condNB rfl (fun hc21 => ?_) (fun hc21 => ?_) | refine wp_cond' rfl (fun hc21 => ?_) (fun hc21 => ?_)
   ·refine wp_skip' (to_k0 (fun _ _ h => h) (hK7 _ _ _ _ _ ?_))
    clear hK7
    refine wp_seq' fun K8 hK8 => ?_
    refine wp_block' ?_
    refine wp_seq' fun K9 hK9 => ?_
    refine wp_reg ?_
    refine ol_ixr hG.p rfl rfl sl22 (by omega) rfl fun x22 hx22 => ?_
    try simp only [Int.toNat_natCast] at hx22
    refine ol_r (r_ldw rfl (fun w1 hb1 hs1 hB1 => Rd.loads hG.p ty42 hx22 hb1)) rfl ?_
    refine ol_alloc 6 z42 rfl fun b6 => ?_
    refine ol_store (id := 6) rfl rfl rfl rfl sz42 rfl rfl (by first | decide | exact Nat.zero_lt_succ _ | simp) ?_
    refine ol_nil (to_k0 (fun _ _ h => h) (hK9 _ _ _ _ _ ?_))
    clear hK9
    refine wp_reg ?_
    refine ol_r (r_move rfl) rfl ?_
    refine ol_r (r_fa (o' := 0) rfl fl42_0 rfl) rfl ?_
    refine ol_r (r_ld (id := 6) rfl rfl rfl sc9) rfl ?_
    refine ol_mapset (K := Value.string) (V := Value.bool) (z := false) (id := 15) rfl rfl rfl rfl mk43 trivial ?_
    refine ol_nil (to_k0 (fun _ _ h => h) (hK8 _ _ _ _ _ ?_))
    clear hK8
    refine wp_reg ?_
    refine ol_r (r_add rfl rfl (by omega)) rfl ?_
    refine ol_r (r_move rfl) rfl ?_
    refine ol_nil (to_k0 (fun _ _ h => h) (hK5 ((k1 + 1, _)) _ _ ?_ ?_ (sub_cons rfl sub_nil) (sub_cons rfl (sub_cons rfl (sub_cons rfl (sub_cons rfl (sub_cons rfl (sub_cons rfl sub_nil)))))) (by exact (subH_same rfl subH_nil)) (subH_same rfl (subH_same rfl subH_nil))))
    ·try dsimp only
     exact ⟨by omega, by rw [take_succ_get hx22, List.map_append, List.map_cons, List.map_nil, keysM_snoc, hD1]⟩
    ·try dsimp only
     omega
   ·refine wp_exit' (to_k0 (fun _ _ h => h) (hK3 _ _ _ _ _ ?_))
    clear hK3
    refine wp_seq' fun K10 hK10 => ?_
    refine wp_seq' fun K11 hK11 => ?_
    refine wp_reg ?_
    refine ol_r (r_fa (o' := 1) rfl fl27_1 rfl) rfl ?_
    refine ol_r (r_ld (id := 1) rfl rfl rfl sc23) rfl ?_
    refine ol_r (r_len rfl sl23) rfl ?_
    refine ol_r (r_move rfl) rfl ?_
    refine ol_nil (to_k0 (fun _ _ h => h) (hK11 _ _ _ _ _ ?_))
    clear hK11
    refine wp_block' ?_
    apply wp_loopM (σ := Nat × KB) (fun s => s.1 ≤ G.sn ∧ s.2 = keysM ((G.ss.take s.1).map (·.name))) (fun s => [(31, .int .i64 s.1)]) [(1, _), (2, _), (3, _), (4, _), (29, _), (30, _)] (fun s => [(16, .ob b16 (MapO (pEnc Value.string Value.bool s.2)))]) [(1, _), (15, _)] (fun s => G.sn - s.1) ((0, []))
    ·try dsimp only
     exact ⟨Nat.zero_le _, rfl⟩
    ·exact (sub_cons rfl sub_nil)
    ·exact (sub_cons rfl (sub_cons rfl (sub_cons rfl (sub_cons rfl (sub_cons rfl (sub_cons rfl sub_nil))))))
    ·exact (subH_same rfl subH_nil)
    ·exact (subH_same rfl (subH_same rfl subH_nil))
    ·rintro ⟨k2, D2⟩ ⟨hk2, hD2⟩
     dsimp only at hk2 hD2 ⊢
     intro K12 hK12
     refine wp_seq' fun K13 hK13 => ?_
     refine wp_reg ?_
     refine ol_r (r_lss rfl rfl) rfl ?_
     refine ol_nil (to_k0 (fun _ _ h => h) (hK13 _ _ _ _ _ ?_))
     clear hK13
     refine wp_seq' fun K14 hK14 => ?_
     first | refine wp_condD rfl (fun hc32 => ?_) (fun hc32 => ?_) | refine wp_condN rfl (fun hc32 => ?_) (fun hc32 => ?_) | refine wp_condNB rfl (fun hc32 => ?_) (fun hc32 => ?_) | refine wp_cond' rfl (fun hc32 => ?_) (fun hc32 => ?_)
     ·refine wp_skip' (to_k0 (fun _ _ h => h) (hK14 _ _ _ _ _ ?_))
      clear hK14
      refine wp_seq' fun K15 hK15 => ?_
      refine wp_block' ?_
      refine wp_seq' fun K16 hK16 => ?_
      refine wp_reg ?_
      refine ol_ixr hG.s rfl rfl sl23 (by omega) rfl fun x33 hx33 => ?_
      try simp only [Int.toNat_natCast] at hx33
      refine ol_r (r_ldw rfl (fun w1 hb1 hs1 hB1 => Rd.loads hG.s ty34 hx33 hb1)) rfl ?_
      refine ol_alloc 8 z34 rfl fun b8 => ?_
      refine ol_store (id := 8) rfl rfl rfl rfl sz34 rfl rfl (by first | decide | exact Nat.zero_lt_succ _ | simp) ?_
      refine ol_nil (to_k0 (fun _ _ h => h) (hK16 _ _ _ _ _ ?_))
      clear hK16
      refine wp_reg ?_
      refine ol_r (r_move rfl) rfl ?_
      refine ol_r (r_fa (o' := 0) rfl fl34_0 rfl) rfl ?_
      refine ol_r (r_ld (id := 8) rfl rfl rfl sc9) rfl ?_
      refine ol_mapset (K := Value.string) (V := Value.bool) (z := false) (id := 16) rfl rfl rfl rfl mk43 trivial ?_
      refine ol_nil (to_k0 (fun _ _ h => h) (hK15 _ _ _ _ _ ?_))
      clear hK15
      refine wp_reg ?_
      refine ol_r (r_add rfl rfl (by omega)) rfl ?_
      refine ol_r (r_move rfl) rfl ?_
      refine ol_nil (to_k0 (fun _ _ h => h) (hK12 ((k2 + 1, _)) _ _ ?_ ?_ (sub_cons rfl sub_nil) (sub_cons rfl (sub_cons rfl (sub_cons rfl (sub_cons rfl (sub_cons rfl (sub_cons rfl sub_nil)))))) (by exact (subH_same rfl subH_nil)) (subH_same rfl (subH_same rfl subH_nil))))
      ·try dsimp only
       exact ⟨by omega, by rw [take_succ_get hx33, List.map_append, List.map_cons, List.map_nil, keysM_snoc, hD2]⟩
      ·try dsimp only
       omega
     ·refine wp_exit' (to_k0 (fun _ _ h => h) (hK10 _ _ _ _ _ ?_))
      clear hK10
      refine wp_seq' fun K17 hK17 => ?_
      refine wp_seq' fun K18 hK18 => ?_
      refine wp_reg ?_
      rw [List.take_of_length_le (by omega)] at hD1 hD2
      subst hD1 hD2
      refine ol_r (r_fa (o' := 2) rfl fl27_2 rfl) rfl ?_
      refine ol_r (r_ld (id := 1) rfl rfl rfl sc24) rfl ?_
      refine ol_r (r_len rfl sl24) rfl ?_
      refine ol_r (r_move rfl) rfl ?_
      refine ol_nil (to_k0 (fun _ _ h => h) (hK18 _ _ _ _ _ ?_))
      clear hK18
      refine wp_block' ?_
      apply wp_loopM (σ := Nat) (fun s => s ≤ G.mn ∧ chkE (fMo (keysM (G.ps.map (·.name))) (keysM (G.ss.map (·.name)))) none G.ms = chkE (fMo (keysM (G.ps.map (·.name))) (keysM (G.ss.map (·.name)))) (ahead G.ms s) (G.ms.drop s)) (fun s => [(42, .int .i64 s)]) [(1, _), (3, _), (4, _), (40, _), (41, _)] (fun s => []) [(1, _), (15, _), (16, _)] (fun s => G.mn - s) (0)
      ·try dsimp only
       exact ⟨Nat.zero_le _, chkE_start _ _⟩
      ·exact (sub_cons rfl sub_nil)
      ·exact (sub_cons rfl (sub_cons rfl (sub_cons rfl (sub_cons rfl (sub_cons rfl sub_nil)))))
      ·exact subH_nil
      ·exact (subH_same rfl (subH_same rfl (subH_same rfl subH_nil)))
      ·rintro k ⟨hk, hP⟩
       intro K19 hK19
       refine wp_seq' fun K20 hK20 => ?_
       refine wp_reg ?_
       refine ol_r (r_lss rfl rfl) rfl ?_
       refine ol_nil (to_k0 (fun _ _ h => h) (hK20 _ _ _ _ _ ?_))
       clear hK20
       refine wp_seq' fun K21 hK21 => ?_
       first | refine wp_condD rfl (fun hc43 => ?_) (fun hc43 => ?_) | refine wp_condN rfl (fun hc43 => ?_) (fun hc43 => ?_) | refine wp_condNB rfl (fun hc43 => ?_) (fun hc43 => ?_) | refine wp_cond' rfl (fun hc43 => ?_) (fun hc43 => ?_)
       ·refine wp_skip' (to_k0 (fun _ _ h => h) (hK21 _ _ _ _ _ ?_))
        clear hK21
        refine wp_seq' fun K22 hK22 => ?_
        refine wp_block' ?_
        refine wp_seq' fun K23 hK23 => ?_
        refine wp_reg ?_
        refine ol_r (r_move rfl) rfl ?_
        refine ol_ixr hG.m rfl rfl sl24 (by omega) rfl fun x45 hx45 => ?_
        try simp only [Int.toNat_natCast] at hx45
        refine ol_r (r_ldw rfl (fun w1 hb1 hs1 hB1 => Rd.loads hG.m ty155 hx45 hb1)) rfl ?_
        refine ol_alloc 10 z155 rfl fun b10 => ?_
        refine ol_r (r_assign rfl) rfl ?_
        refine ol_store (id := 10) rfl rfl rfl rfl sz155 rfl rfl (by first | decide | exact Nat.zero_lt_succ _ | simp) ?_
        refine ol_nil (to_k0 (fun _ _ h => h) (hK23 _ _ _ _ _ ?_))
        clear hK23
        refine wp_block' ?_
        refine wp_seq' fun K24 hK24 => ?_
        refine wp_reg ?_
        refine ol_r (r_move rfl) rfl ?_
        refine ol_r (r_fa (o' := 0) rfl fl155_0 rfl) rfl ?_
        refine ol_r (r_ld (id := 10) rfl rfl rfl sc9) rfl ?_
        refine ol_r (r_look1 (K := Value.string) (V := Value.bool) (z := false) (id := 16) rfl rfl rfl mk43) rfl ?_
        refine ol_r (r_not rfl) rfl ?_
        refine ol_r (r_move rfl) rfl ?_
        refine ol_split (d := 53) rfl (fun hs53 => ?_) (fun hs53 => ?_)
        ·have phs53 := hs53; try simp only [decide_eq_true_eq, decide_eq_false_iff_not, Bool.not_eq_true', Bool.not_eq_false', Bool.not_true, Bool.not_false] at phs53
         refine ol_s rfl rfl hs53 rfl ?_
         refine ol_s rfl rfl hs53 rfl ?_
         refine ol_s rfl rfl hs53 rfl ?_
         refine ol_s rfl rfl hs53 rfl ?_
         refine ol_s rfl rfl hs53 rfl ?_
         refine ol_r (r_pickT rfl hs53 rfl) rfl ?_
         refine ol_r (r_assign rfl) rfl ?_
         refine ol_nil (to_k0 (fun _ _ h => h) (hK24 _ _ _ _ _ ?_))
         clear hK24
         refine wp_condT rfl ?_
         refine wp_seq' fun K25 hK25 => ?_
         refine wp_reg ?_
         refine ol_r (r_assign rfl) rfl ?_
         refine ol_nil (to_k0 (fun _ _ h => h) (hK25 _ _ _ _ _ ?_))
         clear hK25
         refine hQ.ret (rvs1 (rv_t rfl)) (fun _ _ h => h) fun w hb hs hB hkd => ?_
         first
           | (refine ⟨?_, hb⟩; rw [gchkM_bad (chkE_bad hP hx45 (fMo_4 (.inl phs53)) (by decide)) (by decide)]; done)
           | (refine ⟨?_, hb⟩; rw [gchkM_bad (chkE_bad hP hx45 (fMo_4 (.inr hc47)) (by decide)) (by decide)]; done)
           | (refine ⟨?_, hb⟩; rw [gchkM_bad (chkE_bad hP hx45 (fMo_9 hA (.inl phs65)) (by decide)) (by decide)]; done)
           | (refine ⟨?_, hb⟩; rw [gchkM_bad (chkE_bad hP hx45 (fMo_9 hA (.inr ⟨phs69, hc60⟩)) (by decide)) (by decide)]; done)
           | (refine ⟨?_, hb⟩; rw [gchkM_bad (chkE_bad hP hx45 (fMo_10 hA hBd (.inl ⟨phs80, hc76⟩)) (by decide)) (by decide)]; done)
           | (refine ⟨?_, hb⟩; rw [gchkM_bad (chkE_bad hP hx45 (fMo_10 hA hBd (.inr (ordMo_t phs89 hx94 hc76))) (by decide)) (by decide)]; done)
           | (refine ⟨?_, hb⟩; rw [gchkM_2 hz, hM, drop_cons_get hx108, mo2, if_pos (.inl phs117)]; done)
           | (refine ⟨?_, hb⟩; rw [gchkM_2 hz, hM, drop_cons_get hx108, mo2, if_pos (.inr hc125)]; done)
           | (refine ⟨?_, hb⟩; rw [gchkM_2 hz, hM, List.drop_eq_nil_of_le (by omega)]; rfl)
           | (exfalso; contradiction)
        ·have phs53 := hs53; try simp only [decide_eq_true_eq, decide_eq_false_iff_not, Bool.not_eq_true', Bool.not_eq_false', Bool.not_true, Bool.not_false] at phs53
         refine ol_g rfl rfl hs53 ?_
         refine ol_r (r_move rfl) rfl ?_
         refine ol_g rfl rfl hs53 ?_
         refine ol_r (r_fa (o' := 1) rfl fl155_1 rfl) rfl ?_
         refine ol_g rfl rfl hs53 ?_
         refine ol_r (r_ld (id := 10) rfl rfl rfl sc9) rfl ?_
         refine ol_g rfl rfl hs53 ?_
         refine ol_r (r_look1 (K := Value.string) (V := Value.bool) (z := false) (id := 15) rfl rfl rfl mk43) rfl ?_
         refine ol_g rfl rfl hs53 ?_
         refine ol_r (r_not rfl) rfl ?_
         refine ol_r (r_pickF rfl hs53 rfl) rfl ?_
         refine ol_r (r_assign rfl) rfl ?_
         refine ol_nil (to_k0 (fun _ _ h => h) (hK24 _ _ _ _ _ ?_))
         clear hK24
         first | refine wp_condD rfl (fun hc47 => ?_) (fun hc47 => ?_) | refine wp_condN rfl (fun hc47 => ?_) (fun hc47 => ?_) | refine wp_condNB rfl (fun hc47 => ?_) (fun hc47 => ?_) | refine wp_cond' rfl (fun hc47 => ?_) (fun hc47 => ?_)
         ·refine wp_seq' fun K26 hK26 => ?_
          refine wp_reg ?_
          refine ol_r (r_assign rfl) rfl ?_
          refine ol_nil (to_k0 (fun _ _ h => h) (hK26 _ _ _ _ _ ?_))
          clear hK26
          refine hQ.ret (rvs1 (rv_t rfl)) (fun _ _ h => h) fun w hb hs hB hkd => ?_
          first
            | (refine ⟨?_, hb⟩; rw [gchkM_bad (chkE_bad hP hx45 (fMo_4 (.inl phs53)) (by decide)) (by decide)]; done)
            | (refine ⟨?_, hb⟩; rw [gchkM_bad (chkE_bad hP hx45 (fMo_4 (.inr hc47)) (by decide)) (by decide)]; done)
            | (refine ⟨?_, hb⟩; rw [gchkM_bad (chkE_bad hP hx45 (fMo_9 hA (.inl phs65)) (by decide)) (by decide)]; done)
            | (refine ⟨?_, hb⟩; rw [gchkM_bad (chkE_bad hP hx45 (fMo_9 hA (.inr ⟨phs69, hc60⟩)) (by decide)) (by decide)]; done)
            | (refine ⟨?_, hb⟩; rw [gchkM_bad (chkE_bad hP hx45 (fMo_10 hA hBd (.inl ⟨phs80, hc76⟩)) (by decide)) (by decide)]; done)
            | (refine ⟨?_, hb⟩; rw [gchkM_bad (chkE_bad hP hx45 (fMo_10 hA hBd (.inr (ordMo_t phs89 hx94 hc76))) (by decide)) (by decide)]; done)
            | (refine ⟨?_, hb⟩; rw [gchkM_2 hz, hM, drop_cons_get hx108, mo2, if_pos (.inl phs117)]; done)
            | (refine ⟨?_, hb⟩; rw [gchkM_2 hz, hM, drop_cons_get hx108, mo2, if_pos (.inr hc125)]; done)
            | (refine ⟨?_, hb⟩; rw [gchkM_2 hz, hM, List.drop_eq_nil_of_le (by omega)]; rfl)
            | (exfalso; contradiction)
         ·refine wp_seq' fun K27 hK27 => ?_
          refine wp_reg ?_
          refine ol_r (r_fa (o' := 2) rfl fl155_2 rfl) rfl ?_
          have hA := not_or.2 ⟨fun h => tf_no phs53 h, fun h => tf_no hc47 h⟩
          refine ol_r (r_ld (id := 10) rfl rfl rfl sc3) rfl ?_
          refine ol_call rfl rfl cb35 rfl (fun w1 hb1 hs1 hB1 => Calls.mono (gear_isMoment _ _) ?_)
          rintro e w2 ⟨rfl, hb2⟩
          refine After.below rfl hb1 hs1 hB1 hb2 ?_
          clear hb2 hB1 hs1 hb1 w2 w1
          refine ol_r (r_not rfl) rfl ?_
          refine ol_r (r_move rfl) rfl ?_
          refine ol_split (d := 65) rfl (fun hs65 => ?_) (fun hs65 => ?_)
          ·have phs65 := hs65; try simp only [decide_eq_true_eq, decide_eq_false_iff_not, Bool.not_eq_true', Bool.not_eq_false', Bool.not_true, Bool.not_false] at phs65
           refine ol_s rfl rfl hs65 rfl ?_
           refine ol_s rfl rfl hs65 rfl ?_
           refine ol_s rfl rfl hs65 rfl ?_
           refine ol_s rfl rfl hs65 rfl ?_
           refine ol_u rfl rfl rfl ?_
           refine ol_u rfl rfl rfl ?_
           refine ol_u rfl rfl rfl ?_
           refine ol_u rfl rfl rfl ?_
           refine ol_s rfl rfl hs65 rfl ?_
           refine ol_r (r_pickT rfl hs65 rfl) rfl ?_
           refine ol_r (r_assign rfl) rfl ?_
           refine ol_nil (to_k0 (fun _ _ h => h) (hK27 _ _ _ _ _ ?_))
           clear hK27
           refine wp_condT rfl ?_
           refine wp_seq' fun K28 hK28 => ?_
           refine wp_reg ?_
           refine ol_r (r_assign rfl) rfl ?_
           refine ol_nil (to_k0 (fun _ _ h => h) (hK28 _ _ _ _ _ ?_))
           clear hK28
           refine hQ.ret (rvs1 (rv_t rfl)) (fun _ _ h => h) fun w hb hs hB hkd => ?_
           first
             | (refine ⟨?_, hb⟩; rw [gchkM_bad (chkE_bad hP hx45 (fMo_4 (.inl phs53)) (by decide)) (by decide)]; done)
             | (refine ⟨?_, hb⟩; rw [gchkM_bad (chkE_bad hP hx45 (fMo_4 (.inr hc47)) (by decide)) (by decide)]; done)
             | (refine ⟨?_, hb⟩; rw [gchkM_bad (chkE_bad hP hx45 (fMo_9 hA (.inl phs65)) (by decide)) (by decide)]; done)
             | (refine ⟨?_, hb⟩; rw [gchkM_bad (chkE_bad hP hx45 (fMo_9 hA (.inr ⟨phs69, hc60⟩)) (by decide)) (by decide)]; done)
             | (refine ⟨?_, hb⟩; rw [gchkM_bad (chkE_bad hP hx45 (fMo_10 hA hBd (.inl ⟨phs80, hc76⟩)) (by decide)) (by decide)]; done)
             | (refine ⟨?_, hb⟩; rw [gchkM_bad (chkE_bad hP hx45 (fMo_10 hA hBd (.inr (ordMo_t phs89 hx94 hc76))) (by decide)) (by decide)]; done)
             | (refine ⟨?_, hb⟩; rw [gchkM_2 hz, hM, drop_cons_get hx108, mo2, if_pos (.inl phs117)]; done)
             | (refine ⟨?_, hb⟩; rw [gchkM_2 hz, hM, drop_cons_get hx108, mo2, if_pos (.inr hc125)]; done)
             | (refine ⟨?_, hb⟩; rw [gchkM_2 hz, hM, List.drop_eq_nil_of_le (by omega)]; rfl)
             | (exfalso; contradiction)
          ·have phs65 := hs65; try simp only [decide_eq_true_eq, decide_eq_false_iff_not, Bool.not_eq_true', Bool.not_eq_false', Bool.not_true, Bool.not_false] at phs65
           refine ol_g rfl rfl hs65 ?_
           refine ol_r (r_fa (o' := 3) rfl fl155_3 rfl) rfl ?_
           refine ol_g rfl rfl hs65 ?_
           refine ol_r (r_ld (id := 10) rfl rfl rfl sc3) rfl ?_
           refine ol_g rfl rfl hs65 ?_
           refine ol_r (r_neq rfl rfl) rfl ?_
           refine ol_g rfl rfl hs65 ?_
           refine ol_r (r_move rfl) rfl ?_
           refine ol_split (d := 69) rfl (fun hs69 => ?_) (fun hs69 => ?_)
           ·have phs69 := hs69; try simp only [decide_eq_true_eq, decide_eq_false_iff_not, Bool.not_eq_true', Bool.not_eq_false', Bool.not_true, Bool.not_false] at phs69
            refine ol_g rfl rfl hs69 ?_
            refine ol_r (r_fa (o' := 3) rfl fl155_3 rfl) rfl ?_
            refine ol_g rfl rfl hs69 ?_
            refine ol_r (r_ld (id := 10) rfl rfl rfl sc3) rfl ?_
            refine ol_g rfl rfl hs69 ?_
            refine ol_call rfl rfl cb35 rfl (fun w1 hb1 hs1 hB1 => Calls.mono (gear_isMoment _ _) ?_)
            rintro e w2 ⟨rfl, hb2⟩
            refine After.below rfl hb1 hs1 hB1 hb2 ?_
            clear hb2 hB1 hs1 hb1 w2 w1
            refine ol_g rfl rfl hs69 ?_
            refine ol_r (r_not rfl) rfl ?_
            refine ol_g rfl rfl hs65 ?_
            refine ol_r (r_pickT rfl hs69 rfl) rfl ?_
            refine ol_r (r_pickF rfl hs65 rfl) rfl ?_
            refine ol_r (r_assign rfl) rfl ?_
            refine ol_nil (to_k0 (fun _ _ h => h) (hK27 _ _ _ _ _ ?_))
            clear hK27
            first | refine wp_condD rfl (fun hc60 => ?_) (fun hc60 => ?_) | refine wp_condN rfl (fun hc60 => ?_) (fun hc60 => ?_) | refine wp_condNB rfl (fun hc60 => ?_) (fun hc60 => ?_) | refine wp_cond' rfl (fun hc60 => ?_) (fun hc60 => ?_)
            ·refine wp_seq' fun K29 hK29 => ?_
             refine wp_reg ?_
             refine ol_r (r_assign rfl) rfl ?_
             refine ol_nil (to_k0 (fun _ _ h => h) (hK29 _ _ _ _ _ ?_))
             clear hK29
             refine hQ.ret (rvs1 (rv_t rfl)) (fun _ _ h => h) fun w hb hs hB hkd => ?_
             first
               | (refine ⟨?_, hb⟩; rw [gchkM_bad (chkE_bad hP hx45 (fMo_4 (.inl phs53)) (by decide)) (by decide)]; done)
               | (refine ⟨?_, hb⟩; rw [gchkM_bad (chkE_bad hP hx45 (fMo_4 (.inr hc47)) (by decide)) (by decide)]; done)
               | (refine ⟨?_, hb⟩; rw [gchkM_bad (chkE_bad hP hx45 (fMo_9 hA (.inl phs65)) (by decide)) (by decide)]; done)
               | (refine ⟨?_, hb⟩; rw [gchkM_bad (chkE_bad hP hx45 (fMo_9 hA (.inr ⟨phs69, hc60⟩)) (by decide)) (by decide)]; done)
               | (refine ⟨?_, hb⟩; rw [gchkM_bad (chkE_bad hP hx45 (fMo_10 hA hBd (.inl ⟨phs80, hc76⟩)) (by decide)) (by decide)]; done)
               | (refine ⟨?_, hb⟩; rw [gchkM_bad (chkE_bad hP hx45 (fMo_10 hA hBd (.inr (ordMo_t phs89 hx94 hc76))) (by decide)) (by decide)]; done)
               | (refine ⟨?_, hb⟩; rw [gchkM_2 hz, hM, drop_cons_get hx108, mo2, if_pos (.inl phs117)]; done)
               | (refine ⟨?_, hb⟩; rw [gchkM_2 hz, hM, drop_cons_get hx108, mo2, if_pos (.inr hc125)]; done)
               | (refine ⟨?_, hb⟩; rw [gchkM_2 hz, hM, List.drop_eq_nil_of_le (by omega)]; rfl)
               | (exfalso; contradiction)
            ·refine wp_seq' fun K30 hK30 => ?_
             refine wp_seq' fun K31 hK31 => ?_
             refine wp_reg ?_
             refine ol_r (r_fa (o' := 3) rfl fl155_3 rfl) rfl ?_
             have hBd : ¬(momB x45.fr = false ∨ (x45.to_ ≠ -1 ∧ momB x45.to_ = false)) := by
               first
               | exact not_or.2 ⟨fun h => tf_no phs65 h, fun h => tf_no hc60 h.2⟩
               | exact not_or.2 ⟨fun h => tf_no phs65 h, fun h => h.1 phs69⟩
               | exact not_or.2 ⟨fun h => tf_no phs65 h, fun h => phs69 h.1⟩
             refine ol_r (r_ld (id := 10) rfl rfl rfl sc3) rfl ?_
             refine ol_r (r_neq rfl rfl) rfl ?_
             refine ol_r (r_move rfl) rfl ?_
             refine ol_split (d := 80) rfl (fun hs80 => ?_) (fun hs80 => ?_)
             ·have phs80 := hs80; try simp only [decide_eq_true_eq, decide_eq_false_iff_not, Bool.not_eq_true', Bool.not_eq_false', Bool.not_true, Bool.not_false] at phs80
              refine ol_g rfl rfl hs80 ?_
              refine ol_r (r_fa (o' := 3) rfl fl155_3 rfl) rfl ?_
              refine ol_g rfl rfl hs80 ?_
              refine ol_r (r_ld (id := 10) rfl rfl rfl sc3) rfl ?_
              refine ol_g rfl rfl hs80 ?_
              refine ol_r (r_fa (o' := 2) rfl fl155_2 rfl) rfl ?_
              refine ol_g rfl rfl hs80 ?_
              refine ol_r (r_ld (id := 10) rfl rfl rfl sc3) rfl ?_
              refine ol_g rfl rfl hs80 ?_
              refine ol_r (r_leq rfl rfl) rfl ?_
              refine ol_r (r_pickT rfl hs80 rfl) rfl ?_
              refine ol_r (r_assign rfl) rfl ?_
              refine ol_nil (to_k0 (fun _ _ h => h) (hK31 _ _ _ _ _ ?_))
              clear hK31
              first | refine wp_condD rfl (fun hc76 => ?_) (fun hc76 => ?_) | refine wp_condN rfl (fun hc76 => ?_) (fun hc76 => ?_) | refine wp_condNB rfl (fun hc76 => ?_) (fun hc76 => ?_) | refine wp_cond' rfl (fun hc76 => ?_) (fun hc76 => ?_)
              ·refine wp_skip' (to_k0 (fun _ _ h => h) (hK30 _ _ _ _ _ ?_))
               clear hK30
               first | refine wp_condD rfl (fun hc76 => ?_) (fun hc76 => ?_) | refine wp_condN rfl (fun hc76 => ?_) (fun hc76 => ?_) | refine wp_condNB rfl (fun hc76 => ?_) (fun hc76 => ?_) | refine wp_cond' rfl (fun hc76 => ?_) (fun hc76 => ?_)
               ·refine wp_seq' fun K32 hK32 => ?_
                refine wp_reg ?_
                refine ol_r (r_assign rfl) rfl ?_
                refine ol_nil (to_k0 (fun _ _ h => h) (hK32 _ _ _ _ _ ?_))
                clear hK32
                refine hQ.ret (rvs1 (rv_t rfl)) (fun _ _ h => h) fun w hb hs hB hkd => ?_
                first
                  | (refine ⟨?_, hb⟩; rw [gchkM_bad (chkE_bad hP hx45 (fMo_4 (.inl phs53)) (by decide)) (by decide)]; done)
                  | (refine ⟨?_, hb⟩; rw [gchkM_bad (chkE_bad hP hx45 (fMo_4 (.inr hc47)) (by decide)) (by decide)]; done)
                  | (refine ⟨?_, hb⟩; rw [gchkM_bad (chkE_bad hP hx45 (fMo_9 hA (.inl phs65)) (by decide)) (by decide)]; done)
                  | (refine ⟨?_, hb⟩; rw [gchkM_bad (chkE_bad hP hx45 (fMo_9 hA (.inr ⟨phs69, hc60⟩)) (by decide)) (by decide)]; done)
                  | (refine ⟨?_, hb⟩; rw [gchkM_bad (chkE_bad hP hx45 (fMo_10 hA hBd (.inl ⟨phs80, hc76⟩)) (by decide)) (by decide)]; done)
                  | (refine ⟨?_, hb⟩; rw [gchkM_bad (chkE_bad hP hx45 (fMo_10 hA hBd (.inr (ordMo_t phs89 hx94 hc76))) (by decide)) (by decide)]; done)
                  | (refine ⟨?_, hb⟩; rw [gchkM_2 hz, hM, drop_cons_get hx108, mo2, if_pos (.inl phs117)]; done)
                  | (refine ⟨?_, hb⟩; rw [gchkM_2 hz, hM, drop_cons_get hx108, mo2, if_pos (.inr hc125)]; done)
                  | (refine ⟨?_, hb⟩; rw [gchkM_2 hz, hM, List.drop_eq_nil_of_le (by omega)]; rfl)
                  | (exfalso; contradiction)
               ·refine wp_skip' (to_k0 (fun _ _ h => h) (hK22 _ _ _ _ _ ?_))
                clear hK22
                refine wp_reg ?_
                refine ol_r (r_add rfl rfl (by omega)) rfl ?_
                refine ol_r (r_move rfl) rfl ?_
                refine ol_nil (to_k0 (fun _ _ h => h) (hK19 (k + 1) _ _ ?_ ?_ (sub_cons rfl sub_nil) (sub_cons rfl (sub_cons rfl (sub_cons rfl (sub_cons rfl (sub_cons rfl sub_nil))))) (by exact subH_nil) (subH_same rfl (subH_same rfl (subH_same rfl subH_nil)))))
                ·try dsimp only
                 first
                 | exact ⟨by omega, chkE_next hP hx45 (fMo_0 hA hBd hL (ordMo_z phs89))⟩
                 | exact ⟨by omega, chkE_next hP hx45 (fMo_0 hA hBd hL (ordMo_f phs89 hx94 hc76))⟩
                 | (exfalso; contradiction)
                ·try dsimp only
                 omega
              ·refine wp_regq (by kernel_rfl) (by kernel_rfl) ?_
               have hL : ¬(x45.to_ ≠ -1 ∧ x45.to_ ≤ x45.fr) := by
                 first
                 | exact fun h => hc76 h.2
                 | exact fun h => h.1 phs80
                 | exact fun h => phs80 h.1
               refine ql_r (r_move rfl) rfl ?_
               refine ql_r (r_gtr rfl rfl) rfl ?_
               refine ql_r (r_move rfl) rfl ?_
               refine ql_split (d := 89) rfl (fun hs89 => ?_) (fun hs89 => ?_)
               ·have phs89 := hs89; try simp only [decide_eq_true_eq, decide_eq_false_iff_not, Bool.not_eq_true', Bool.not_eq_false', Bool.not_true, Bool.not_false] at phs89
                refine ql_g rfl rfl hs89 ?_
                refine ql_r (r_fa (o' := 2) rfl fl27_2 rfl) rfl ?_
                refine ql_g rfl rfl hs89 ?_
                refine ql_r (r_ld (id := 1) rfl rfl rfl sc24) rfl ?_
                refine ql_g rfl rfl hs89 ?_
                refine ql_r (r_move rfl) rfl ?_
                refine ql_g rfl rfl hs89 ?_
                refine ql_r (r_sub rfl rfl (by omega)) rfl ?_
                refine ql_g rfl rfl hs89 ?_
                refine ql_ixr hG.m rfl rfl sl24 (by omega) rfl fun x94 hx94 => ?_
                try simp only [Int.toNat_natCast] at hx94
                refine ql_g rfl rfl hs89 ?_
                refine ql_r (r_ldw rfl (fun w1 hb1 hs1 hB1 => Rd.loads hG.m ty155 hx94 hb1)) rfl ?_
                refine ql_g rfl rfl hs89 ?_
                refine ql_r (r_lda (id := 10) (n := 4) rfl rfl rfl ag155) rfl ?_
                refine ql_g rfl rfl hs89 ?_
                refine ql_call rfl rfl cb85 rfl (fun w1 hb1 hs1 hB1 => gear_mountOrder x94 x45 _) ?_
                refine ql_g rfl rfl hs89 ?_
                refine ql_r (r_geq rfl rfl) rfl ?_
                refine ql_r (r_pickT rfl hs89 rfl) rfl ?_
                refine ql_r (r_assign rfl) rfl ?_
                refine ql_nil (to_k0 (fun _ _ h => h) (hK30 _ _ _ _ _ ?_))
                clear hK30
                first | refine wp_condD rfl (fun hc76 => ?_) (fun hc76 => ?_) | refine wp_condN rfl (fun hc76 => ?_) (fun hc76 => ?_) | refine wp_condNB rfl (fun hc76 => ?_) (fun hc76 => ?_) | refine wp_cond' rfl (fun hc76 => ?_) (fun hc76 => ?_)
                ·refine wp_seq' fun K33 hK33 => ?_
                 refine wp_reg ?_
                 refine ol_r (r_assign rfl) rfl ?_
                 refine ol_nil (to_k0 (fun _ _ h => h) (hK33 _ _ _ _ _ ?_))
                 clear hK33
                 refine hQ.ret (rvs1 (rv_t rfl)) (fun _ _ h => h) fun w hb hs hB hkd => ?_
                 first
                   | (refine ⟨?_, hb⟩; rw [gchkM_bad (chkE_bad hP hx45 (fMo_4 (.inl phs53)) (by decide)) (by decide)]; done)
                   | (refine ⟨?_, hb⟩; rw [gchkM_bad (chkE_bad hP hx45 (fMo_4 (.inr hc47)) (by decide)) (by decide)]; done)
                   | (refine ⟨?_, hb⟩; rw [gchkM_bad (chkE_bad hP hx45 (fMo_9 hA (.inl phs65)) (by decide)) (by decide)]; done)
                   | (refine ⟨?_, hb⟩; rw [gchkM_bad (chkE_bad hP hx45 (fMo_9 hA (.inr ⟨phs69, hc60⟩)) (by decide)) (by decide)]; done)
                   | (refine ⟨?_, hb⟩; rw [gchkM_bad (chkE_bad hP hx45 (fMo_10 hA hBd (.inl ⟨phs80, hc76⟩)) (by decide)) (by decide)]; done)
                   | (refine ⟨?_, hb⟩; rw [gchkM_bad (chkE_bad hP hx45 (fMo_10 hA hBd (.inr (ordMo_t phs89 hx94 hc76))) (by decide)) (by decide)]; done)
                   | (refine ⟨?_, hb⟩; rw [gchkM_2 hz, hM, drop_cons_get hx108, mo2, if_pos (.inl phs117)]; done)
                   | (refine ⟨?_, hb⟩; rw [gchkM_2 hz, hM, drop_cons_get hx108, mo2, if_pos (.inr hc125)]; done)
                   | (refine ⟨?_, hb⟩; rw [gchkM_2 hz, hM, List.drop_eq_nil_of_le (by omega)]; rfl)
                   | (exfalso; contradiction)
                ·refine wp_skip' (to_k0 (fun _ _ h => h) (hK22 _ _ _ _ _ ?_))
                 clear hK22
                 refine wp_reg ?_
                 refine ol_r (r_add rfl rfl (by omega)) rfl ?_
                 refine ol_r (r_move rfl) rfl ?_
                 refine ol_nil (to_k0 (fun _ _ h => h) (hK19 (k + 1) _ _ ?_ ?_ (sub_cons rfl sub_nil) (sub_cons rfl (sub_cons rfl (sub_cons rfl (sub_cons rfl (sub_cons rfl sub_nil))))) (by exact subH_nil) (subH_same rfl (subH_same rfl (subH_same rfl subH_nil)))))
                 ·try dsimp only
                  first
                  | exact ⟨by omega, chkE_next hP hx45 (fMo_0 hA hBd hL (ordMo_z phs89))⟩
                  | exact ⟨by omega, chkE_next hP hx45 (fMo_0 hA hBd hL (ordMo_f phs89 hx94 hc76))⟩
                  | (exfalso; contradiction)
                 ·try dsimp only
                  omega
               ·have phs89 := hs89; try simp only [decide_eq_true_eq, decide_eq_false_iff_not, Bool.not_eq_true', Bool.not_eq_false', Bool.not_true, Bool.not_false] at phs89
                refine ql_s rfl rfl hs89 rfl ?_
                refine ql_s rfl rfl hs89 rfl ?_
                refine ql_s rfl rfl hs89 rfl ?_
                refine ql_s rfl rfl hs89 rfl ?_
                refine ql_s rfl rfl hs89 rfl ?_
                refine ql_s rfl rfl hs89 rfl ?_
                refine ql_s rfl rfl hs89 rfl ?_
                refine ql_s rfl rfl hs89 rfl ?_
                refine ql_s rfl rfl hs89 rfl ?_
                refine ql_r (r_pickF rfl hs89 rfl) rfl ?_
                refine ql_r (r_assign rfl) rfl ?_
                refine ql_nil (to_k0 (fun _ _ h => h) (hK30 _ _ _ _ _ ?_))
                clear hK30
                refine wp_condF rfl ?_
                refine wp_skip' (to_k0 (fun _ _ h => h) (hK22 _ _ _ _ _ ?_))
                clear hK22
                refine wp_reg ?_
                refine ol_r (r_add rfl rfl (by omega)) rfl ?_
                refine ol_r (r_move rfl) rfl ?_
                refine ol_nil (to_k0 (fun _ _ h => h) (hK19 (k + 1) _ _ ?_ ?_ (sub_cons rfl sub_nil) (sub_cons rfl (sub_cons rfl (sub_cons rfl (sub_cons rfl (sub_cons rfl sub_nil))))) (by exact subH_nil) (subH_same rfl (subH_same rfl (subH_same rfl subH_nil)))))
                ·try dsimp only
                 first
                 | exact ⟨by omega, chkE_next hP hx45 (fMo_0 hA hBd hL (ordMo_z phs89))⟩
                 | exact ⟨by omega, chkE_next hP hx45 (fMo_0 hA hBd hL (ordMo_f phs89 hx94 hc76))⟩
                 | (exfalso; contradiction)
                ·try dsimp only
                 omega
             ·have phs80 := hs80; try simp only [decide_eq_true_eq, decide_eq_false_iff_not, Bool.not_eq_true', Bool.not_eq_false', Bool.not_true, Bool.not_false] at phs80
              refine ol_s rfl rfl hs80 rfl ?_
              refine ol_s rfl rfl hs80 rfl ?_
              refine ol_s rfl rfl hs80 rfl ?_
              refine ol_s rfl rfl hs80 rfl ?_
              refine ol_s rfl rfl hs80 rfl ?_
              refine ol_r (r_pickF rfl hs80 rfl) rfl ?_
              refine ol_r (r_assign rfl) rfl ?_
              refine ol_nil (to_k0 (fun _ _ h => h) (hK31 _ _ _ _ _ ?_))
              clear hK31
              refine wp_condF rfl ?_
              refine wp_regq (by kernel_rfl) (by kernel_rfl) ?_
              have hL : ¬(x45.to_ ≠ -1 ∧ x45.to_ ≤ x45.fr) := by
                first
                | exact fun h => hc76 h.2
                | exact fun h => h.1 phs80
                | exact fun h => phs80 h.1
              refine ql_r (r_move rfl) rfl ?_
              refine ql_r (r_gtr rfl rfl) rfl ?_
              refine ql_r (r_move rfl) rfl ?_
              refine ql_split (d := 89) rfl (fun hs89 => ?_) (fun hs89 => ?_)
              ·have phs89 := hs89; try simp only [decide_eq_true_eq, decide_eq_false_iff_not, Bool.not_eq_true', Bool.not_eq_false', Bool.not_true, Bool.not_false] at phs89
               refine ql_g rfl rfl hs89 ?_
               refine ql_r (r_fa (o' := 2) rfl fl27_2 rfl) rfl ?_
               refine ql_g rfl rfl hs89 ?_
               refine ql_r (r_ld (id := 1) rfl rfl rfl sc24) rfl ?_
               refine ql_g rfl rfl hs89 ?_
               refine ql_r (r_move rfl) rfl ?_
               refine ql_g rfl rfl hs89 ?_
               refine ql_r (r_sub rfl rfl (by omega)) rfl ?_
               refine ql_g rfl rfl hs89 ?_
               refine ql_ixr hG.m rfl rfl sl24 (by omega) rfl fun x94 hx94 => ?_
               try simp only [Int.toNat_natCast] at hx94
               refine ql_g rfl rfl hs89 ?_
               refine ql_r (r_ldw rfl (fun w1 hb1 hs1 hB1 => Rd.loads hG.m ty155 hx94 hb1)) rfl ?_
               refine ql_g rfl rfl hs89 ?_
               refine ql_r (r_lda (id := 10) (n := 4) rfl rfl rfl ag155) rfl ?_
               refine ql_g rfl rfl hs89 ?_
               refine ql_call rfl rfl cb85 rfl (fun w1 hb1 hs1 hB1 => gear_mountOrder x94 x45 _) ?_
               refine ql_g rfl rfl hs89 ?_
               refine ql_r (r_geq rfl rfl) rfl ?_
               refine ql_r (r_pickT rfl hs89 rfl) rfl ?_
               refine ql_r (r_assign rfl) rfl ?_
               refine ql_nil (to_k0 (fun _ _ h => h) (hK30 _ _ _ _ _ ?_))
               clear hK30
               first | refine wp_condD rfl (fun hc76 => ?_) (fun hc76 => ?_) | refine wp_condN rfl (fun hc76 => ?_) (fun hc76 => ?_) | refine wp_condNB rfl (fun hc76 => ?_) (fun hc76 => ?_) | refine wp_cond' rfl (fun hc76 => ?_) (fun hc76 => ?_)
               ·refine wp_seq' fun K34 hK34 => ?_
                refine wp_reg ?_
                refine ol_r (r_assign rfl) rfl ?_
                refine ol_nil (to_k0 (fun _ _ h => h) (hK34 _ _ _ _ _ ?_))
                clear hK34
                refine hQ.ret (rvs1 (rv_t rfl)) (fun _ _ h => h) fun w hb hs hB hkd => ?_
                first
                  | (refine ⟨?_, hb⟩; rw [gchkM_bad (chkE_bad hP hx45 (fMo_4 (.inl phs53)) (by decide)) (by decide)]; done)
                  | (refine ⟨?_, hb⟩; rw [gchkM_bad (chkE_bad hP hx45 (fMo_4 (.inr hc47)) (by decide)) (by decide)]; done)
                  | (refine ⟨?_, hb⟩; rw [gchkM_bad (chkE_bad hP hx45 (fMo_9 hA (.inl phs65)) (by decide)) (by decide)]; done)
                  | (refine ⟨?_, hb⟩; rw [gchkM_bad (chkE_bad hP hx45 (fMo_9 hA (.inr ⟨phs69, hc60⟩)) (by decide)) (by decide)]; done)
                  | (refine ⟨?_, hb⟩; rw [gchkM_bad (chkE_bad hP hx45 (fMo_10 hA hBd (.inl ⟨phs80, hc76⟩)) (by decide)) (by decide)]; done)
                  | (refine ⟨?_, hb⟩; rw [gchkM_bad (chkE_bad hP hx45 (fMo_10 hA hBd (.inr (ordMo_t phs89 hx94 hc76))) (by decide)) (by decide)]; done)
                  | (refine ⟨?_, hb⟩; rw [gchkM_2 hz, hM, drop_cons_get hx108, mo2, if_pos (.inl phs117)]; done)
                  | (refine ⟨?_, hb⟩; rw [gchkM_2 hz, hM, drop_cons_get hx108, mo2, if_pos (.inr hc125)]; done)
                  | (refine ⟨?_, hb⟩; rw [gchkM_2 hz, hM, List.drop_eq_nil_of_le (by omega)]; rfl)
                  | (exfalso; contradiction)
               ·refine wp_skip' (to_k0 (fun _ _ h => h) (hK22 _ _ _ _ _ ?_))
                clear hK22
                refine wp_reg ?_
                refine ol_r (r_add rfl rfl (by omega)) rfl ?_
                refine ol_r (r_move rfl) rfl ?_
                refine ol_nil (to_k0 (fun _ _ h => h) (hK19 (k + 1) _ _ ?_ ?_ (sub_cons rfl sub_nil) (sub_cons rfl (sub_cons rfl (sub_cons rfl (sub_cons rfl (sub_cons rfl sub_nil))))) (by exact subH_nil) (subH_same rfl (subH_same rfl (subH_same rfl subH_nil)))))
                ·try dsimp only
                 first
                 | exact ⟨by omega, chkE_next hP hx45 (fMo_0 hA hBd hL (ordMo_z phs89))⟩
                 | exact ⟨by omega, chkE_next hP hx45 (fMo_0 hA hBd hL (ordMo_f phs89 hx94 hc76))⟩
                 | (exfalso; contradiction)
                ·try dsimp only
                 omega
              ·have phs89 := hs89; try simp only [decide_eq_true_eq, decide_eq_false_iff_not, Bool.not_eq_true', Bool.not_eq_false', Bool.not_true, Bool.not_false] at phs89
               refine ql_s rfl rfl hs89 rfl ?_
               refine ql_s rfl rfl hs89 rfl ?_
               refine ql_s rfl rfl hs89 rfl ?_
               refine ql_s rfl rfl hs89 rfl ?_
               refine ql_s rfl rfl hs89 rfl ?_
               refine ql_s rfl rfl hs89 rfl ?_
               refine ql_s rfl rfl hs89 rfl ?_
               refine ql_s rfl rfl hs89 rfl ?_
               refine ql_s rfl rfl hs89 rfl ?_
               refine ql_r (r_pickF rfl hs89 rfl) rfl ?_
               refine ql_r (r_assign rfl) rfl ?_
               refine ql_nil (to_k0 (fun _ _ h => h) (hK30 _ _ _ _ _ ?_))
               clear hK30
               refine wp_condF rfl ?_
               refine wp_skip' (to_k0 (fun _ _ h => h) (hK22 _ _ _ _ _ ?_))
               clear hK22
               refine wp_reg ?_
               refine ol_r (r_add rfl rfl (by omega)) rfl ?_
               refine ol_r (r_move rfl) rfl ?_
               refine ol_nil (to_k0 (fun _ _ h => h) (hK19 (k + 1) _ _ ?_ ?_ (sub_cons rfl sub_nil) (sub_cons rfl (sub_cons rfl (sub_cons rfl (sub_cons rfl (sub_cons rfl sub_nil))))) (by exact subH_nil) (subH_same rfl (subH_same rfl (subH_same rfl subH_nil)))))
               ·try dsimp only
                first
                | exact ⟨by omega, chkE_next hP hx45 (fMo_0 hA hBd hL (ordMo_z phs89))⟩
                | exact ⟨by omega, chkE_next hP hx45 (fMo_0 hA hBd hL (ordMo_f phs89 hx94 hc76))⟩
                | (exfalso; contradiction)
               ·try dsimp only
                omega
           ·have phs69 := hs69; try simp only [decide_eq_true_eq, decide_eq_false_iff_not, Bool.not_eq_true', Bool.not_eq_false', Bool.not_true, Bool.not_false] at phs69
            refine ol_s rfl rfl hs69 rfl ?_
            refine ol_s rfl rfl hs69 rfl ?_
            refine ol_s rfl rfl hs69 rfl ?_
            refine ol_s rfl rfl hs69 rfl ?_
            refine ol_g rfl rfl hs65 ?_
            refine ol_r (r_pickF rfl hs69 rfl) rfl ?_
            refine ol_r (r_pickF rfl hs65 rfl) rfl ?_
            refine ol_r (r_assign rfl) rfl ?_
            refine ol_nil (to_k0 (fun _ _ h => h) (hK27 _ _ _ _ _ ?_))
            clear hK27
            refine wp_condF rfl ?_
            refine wp_seq' fun K35 hK35 => ?_
            refine wp_seq' fun K36 hK36 => ?_
            refine wp_reg ?_
            refine ol_r (r_fa (o' := 3) rfl fl155_3 rfl) rfl ?_
            have hBd : ¬(momB x45.fr = false ∨ (x45.to_ ≠ -1 ∧ momB x45.to_ = false)) := by
              first
              | exact not_or.2 ⟨fun h => tf_no phs65 h, fun h => tf_no hc60 h.2⟩
              | exact not_or.2 ⟨fun h => tf_no phs65 h, fun h => h.1 phs69⟩
              | exact not_or.2 ⟨fun h => tf_no phs65 h, fun h => phs69 h.1⟩
            refine ol_r (r_ld (id := 10) rfl rfl rfl sc3) rfl ?_
            refine ol_r (r_neq rfl rfl) rfl ?_
            refine ol_r (r_move rfl) rfl ?_
            refine ol_split (d := 80) rfl (fun hs80 => ?_) (fun hs80 => ?_)
            ·have phs80 := hs80; try simp only [decide_eq_true_eq, decide_eq_false_iff_not, Bool.not_eq_true', Bool.not_eq_false', Bool.not_true, Bool.not_false] at phs80
             refine ol_g rfl rfl hs80 ?_
             refine ol_r (r_fa (o' := 3) rfl fl155_3 rfl) rfl ?_
             refine ol_g rfl rfl hs80 ?_
             refine ol_r (r_ld (id := 10) rfl rfl rfl sc3) rfl ?_
             refine ol_g rfl rfl hs80 ?_
             refine ol_r (r_fa (o' := 2) rfl fl155_2 rfl) rfl ?_
             refine ol_g rfl rfl hs80 ?_
             refine ol_r (r_ld (id := 10) rfl rfl rfl sc3) rfl ?_
             refine ol_g rfl rfl hs80 ?_
             refine ol_r (r_leq rfl rfl) rfl ?_
             refine ol_r (r_pickT rfl hs80 rfl) rfl ?_
             refine ol_r (r_assign rfl) rfl ?_
             refine ol_nil (to_k0 (fun _ _ h => h) (hK36 _ _ _ _ _ ?_))
             clear hK36
             first | refine wp_condD rfl (fun hc76 => ?_) (fun hc76 => ?_) | refine wp_condN rfl (fun hc76 => ?_) (fun hc76 => ?_) | refine wp_condNB rfl (fun hc76 => ?_) (fun hc76 => ?_) | refine wp_cond' rfl (fun hc76 => ?_) (fun hc76 => ?_)
             ·refine wp_skip' (to_k0 (fun _ _ h => h) (hK35 _ _ _ _ _ ?_))
              clear hK35
              first | refine wp_condD rfl (fun hc76 => ?_) (fun hc76 => ?_) | refine wp_condN rfl (fun hc76 => ?_) (fun hc76 => ?_) | refine wp_condNB rfl (fun hc76 => ?_) (fun hc76 => ?_) | refine wp_cond' rfl (fun hc76 => ?_) (fun hc76 => ?_)
              ·refine wp_seq' fun K37 hK37 => ?_
               refine wp_reg ?_
               refine ol_r (r_assign rfl) rfl ?_
               refine ol_nil (to_k0 (fun _ _ h => h) (hK37 _ _ _ _ _ ?_))
               clear hK37
               refine hQ.ret (rvs1 (rv_t rfl)) (fun _ _ h => h) fun w hb hs hB hkd => ?_
               first
                 | (refine ⟨?_, hb⟩; rw [gchkM_bad (chkE_bad hP hx45 (fMo_4 (.inl phs53)) (by decide)) (by decide)]; done)
                 | (refine ⟨?_, hb⟩; rw [gchkM_bad (chkE_bad hP hx45 (fMo_4 (.inr hc47)) (by decide)) (by decide)]; done)
                 | (refine ⟨?_, hb⟩; rw [gchkM_bad (chkE_bad hP hx45 (fMo_9 hA (.inl phs65)) (by decide)) (by decide)]; done)
                 | (refine ⟨?_, hb⟩; rw [gchkM_bad (chkE_bad hP hx45 (fMo_9 hA (.inr ⟨phs69, hc60⟩)) (by decide)) (by decide)]; done)
                 | (refine ⟨?_, hb⟩; rw [gchkM_bad (chkE_bad hP hx45 (fMo_10 hA hBd (.inl ⟨phs80, hc76⟩)) (by decide)) (by decide)]; done)
                 | (refine ⟨?_, hb⟩; rw [gchkM_bad (chkE_bad hP hx45 (fMo_10 hA hBd (.inr (ordMo_t phs89 hx94 hc76))) (by decide)) (by decide)]; done)
                 | (refine ⟨?_, hb⟩; rw [gchkM_2 hz, hM, drop_cons_get hx108, mo2, if_pos (.inl phs117)]; done)
                 | (refine ⟨?_, hb⟩; rw [gchkM_2 hz, hM, drop_cons_get hx108, mo2, if_pos (.inr hc125)]; done)
                 | (refine ⟨?_, hb⟩; rw [gchkM_2 hz, hM, List.drop_eq_nil_of_le (by omega)]; rfl)
                 | (exfalso; contradiction)
              ·refine wp_skip' (to_k0 (fun _ _ h => h) (hK22 _ _ _ _ _ ?_))
               clear hK22
               refine wp_reg ?_
               refine ol_r (r_add rfl rfl (by omega)) rfl ?_
               refine ol_r (r_move rfl) rfl ?_
               refine ol_nil (to_k0 (fun _ _ h => h) (hK19 (k + 1) _ _ ?_ ?_ (sub_cons rfl sub_nil) (sub_cons rfl (sub_cons rfl (sub_cons rfl (sub_cons rfl (sub_cons rfl sub_nil))))) (by exact subH_nil) (subH_same rfl (subH_same rfl (subH_same rfl subH_nil)))))
               ·try dsimp only
                first
                | exact ⟨by omega, chkE_next hP hx45 (fMo_0 hA hBd hL (ordMo_z phs89))⟩
                | exact ⟨by omega, chkE_next hP hx45 (fMo_0 hA hBd hL (ordMo_f phs89 hx94 hc76))⟩
                | (exfalso; contradiction)
               ·try dsimp only
                omega
             ·refine wp_regq (by kernel_rfl) (by kernel_rfl) ?_
              have hL : ¬(x45.to_ ≠ -1 ∧ x45.to_ ≤ x45.fr) := by
                first
                | exact fun h => hc76 h.2
                | exact fun h => h.1 phs80
                | exact fun h => phs80 h.1
              refine ql_r (r_move rfl) rfl ?_
              refine ql_r (r_gtr rfl rfl) rfl ?_
              refine ql_r (r_move rfl) rfl ?_
              refine ql_split (d := 89) rfl (fun hs89 => ?_) (fun hs89 => ?_)
              ·have phs89 := hs89; try simp only [decide_eq_true_eq, decide_eq_false_iff_not, Bool.not_eq_true', Bool.not_eq_false', Bool.not_true, Bool.not_false] at phs89
               refine ql_g rfl rfl hs89 ?_
               refine ql_r (r_fa (o' := 2) rfl fl27_2 rfl) rfl ?_
               refine ql_g rfl rfl hs89 ?_
               refine ql_r (r_ld (id := 1) rfl rfl rfl sc24) rfl ?_
               refine ql_g rfl rfl hs89 ?_
               refine ql_r (r_move rfl) rfl ?_
               refine ql_g rfl rfl hs89 ?_
               refine ql_r (r_sub rfl rfl (by omega)) rfl ?_
               refine ql_g rfl rfl hs89 ?_
               refine ql_ixr hG.m rfl rfl sl24 (by omega) rfl fun x94 hx94 => ?_
               try simp only [Int.toNat_natCast] at hx94
               refine ql_g rfl rfl hs89 ?_
               refine ql_r (r_ldw rfl (fun w1 hb1 hs1 hB1 => Rd.loads hG.m ty155 hx94 hb1)) rfl ?_
               refine ql_g rfl rfl hs89 ?_
               refine ql_r (r_lda (id := 10) (n := 4) rfl rfl rfl ag155) rfl ?_
               refine ql_g rfl rfl hs89 ?_
               refine ql_call rfl rfl cb85 rfl (fun w1 hb1 hs1 hB1 => gear_mountOrder x94 x45 _) ?_
               refine ql_g rfl rfl hs89 ?_
               refine ql_r (r_geq rfl rfl) rfl ?_
               refine ql_r (r_pickT rfl hs89 rfl) rfl ?_
               refine ql_r (r_assign rfl) rfl ?_
               refine ql_nil (to_k0 (fun _ _ h => h) (hK35 _ _ _ _ _ ?_))
               clear hK35
               first | refine wp_condD rfl (fun hc76 => ?_) (fun hc76 => ?_) | refine wp_condN rfl (fun hc76 => ?_) (fun hc76 => ?_) | refine wp_condNB rfl (fun hc76 => ?_) (fun hc76 => ?_) | refine wp_cond' rfl (fun hc76 => ?_) (fun hc76 => ?_)
               ·refine wp_seq' fun K38 hK38 => ?_
                refine wp_reg ?_
                refine ol_r (r_assign rfl) rfl ?_
                refine ol_nil (to_k0 (fun _ _ h => h) (hK38 _ _ _ _ _ ?_))
                clear hK38
                refine hQ.ret (rvs1 (rv_t rfl)) (fun _ _ h => h) fun w hb hs hB hkd => ?_
                first
                  | (refine ⟨?_, hb⟩; rw [gchkM_bad (chkE_bad hP hx45 (fMo_4 (.inl phs53)) (by decide)) (by decide)]; done)
                  | (refine ⟨?_, hb⟩; rw [gchkM_bad (chkE_bad hP hx45 (fMo_4 (.inr hc47)) (by decide)) (by decide)]; done)
                  | (refine ⟨?_, hb⟩; rw [gchkM_bad (chkE_bad hP hx45 (fMo_9 hA (.inl phs65)) (by decide)) (by decide)]; done)
                  | (refine ⟨?_, hb⟩; rw [gchkM_bad (chkE_bad hP hx45 (fMo_9 hA (.inr ⟨phs69, hc60⟩)) (by decide)) (by decide)]; done)
                  | (refine ⟨?_, hb⟩; rw [gchkM_bad (chkE_bad hP hx45 (fMo_10 hA hBd (.inl ⟨phs80, hc76⟩)) (by decide)) (by decide)]; done)
                  | (refine ⟨?_, hb⟩; rw [gchkM_bad (chkE_bad hP hx45 (fMo_10 hA hBd (.inr (ordMo_t phs89 hx94 hc76))) (by decide)) (by decide)]; done)
                  | (refine ⟨?_, hb⟩; rw [gchkM_2 hz, hM, drop_cons_get hx108, mo2, if_pos (.inl phs117)]; done)
                  | (refine ⟨?_, hb⟩; rw [gchkM_2 hz, hM, drop_cons_get hx108, mo2, if_pos (.inr hc125)]; done)
                  | (refine ⟨?_, hb⟩; rw [gchkM_2 hz, hM, List.drop_eq_nil_of_le (by omega)]; rfl)
                  | (exfalso; contradiction)
               ·refine wp_skip' (to_k0 (fun _ _ h => h) (hK22 _ _ _ _ _ ?_))
                clear hK22
                refine wp_reg ?_
                refine ol_r (r_add rfl rfl (by omega)) rfl ?_
                refine ol_r (r_move rfl) rfl ?_
                refine ol_nil (to_k0 (fun _ _ h => h) (hK19 (k + 1) _ _ ?_ ?_ (sub_cons rfl sub_nil) (sub_cons rfl (sub_cons rfl (sub_cons rfl (sub_cons rfl (sub_cons rfl sub_nil))))) (by exact subH_nil) (subH_same rfl (subH_same rfl (subH_same rfl subH_nil)))))
                ·try dsimp only
                 first
                 | exact ⟨by omega, chkE_next hP hx45 (fMo_0 hA hBd hL (ordMo_z phs89))⟩
                 | exact ⟨by omega, chkE_next hP hx45 (fMo_0 hA hBd hL (ordMo_f phs89 hx94 hc76))⟩
                 | (exfalso; contradiction)
                ·try dsimp only
                 omega
              ·have phs89 := hs89; try simp only [decide_eq_true_eq, decide_eq_false_iff_not, Bool.not_eq_true', Bool.not_eq_false', Bool.not_true, Bool.not_false] at phs89
               refine ql_s rfl rfl hs89 rfl ?_
               refine ql_s rfl rfl hs89 rfl ?_
               refine ql_s rfl rfl hs89 rfl ?_
               refine ql_s rfl rfl hs89 rfl ?_
               refine ql_s rfl rfl hs89 rfl ?_
               refine ql_s rfl rfl hs89 rfl ?_
               refine ql_s rfl rfl hs89 rfl ?_
               refine ql_s rfl rfl hs89 rfl ?_
               refine ql_s rfl rfl hs89 rfl ?_
               refine ql_r (r_pickF rfl hs89 rfl) rfl ?_
               refine ql_r (r_assign rfl) rfl ?_
               refine ql_nil (to_k0 (fun _ _ h => h) (hK35 _ _ _ _ _ ?_))
               clear hK35
               refine wp_condF rfl ?_
               refine wp_skip' (to_k0 (fun _ _ h => h) (hK22 _ _ _ _ _ ?_))
               clear hK22
               refine wp_reg ?_
               refine ol_r (r_add rfl rfl (by omega)) rfl ?_
               refine ol_r (r_move rfl) rfl ?_
               refine ol_nil (to_k0 (fun _ _ h => h) (hK19 (k + 1) _ _ ?_ ?_ (sub_cons rfl sub_nil) (sub_cons rfl (sub_cons rfl (sub_cons rfl (sub_cons rfl (sub_cons rfl sub_nil))))) (by exact subH_nil) (subH_same rfl (subH_same rfl (subH_same rfl subH_nil)))))
               ·try dsimp only
                first
                | exact ⟨by omega, chkE_next hP hx45 (fMo_0 hA hBd hL (ordMo_z phs89))⟩
                | exact ⟨by omega, chkE_next hP hx45 (fMo_0 hA hBd hL (ordMo_f phs89 hx94 hc76))⟩
                | (exfalso; contradiction)
               ·try dsimp only
                omega
            ·have phs80 := hs80; try simp only [decide_eq_true_eq, decide_eq_false_iff_not, Bool.not_eq_true', Bool.not_eq_false', Bool.not_true, Bool.not_false] at phs80
             refine ol_s rfl rfl hs80 rfl ?_
             refine ol_s rfl rfl hs80 rfl ?_
             refine ol_s rfl rfl hs80 rfl ?_
             refine ol_s rfl rfl hs80 rfl ?_
             refine ol_s rfl rfl hs80 rfl ?_
             refine ol_r (r_pickF rfl hs80 rfl) rfl ?_
             refine ol_r (r_assign rfl) rfl ?_
             refine ol_nil (to_k0 (fun _ _ h => h) (hK36 _ _ _ _ _ ?_))
             clear hK36
             refine wp_condF rfl ?_
             refine wp_regq (by kernel_rfl) (by kernel_rfl) ?_
             have hL : ¬(x45.to_ ≠ -1 ∧ x45.to_ ≤ x45.fr) := by
               first
               | exact fun h => hc76 h.2
               | exact fun h => h.1 phs80
               | exact fun h => phs80 h.1
             refine ql_r (r_move rfl) rfl ?_
             refine ql_r (r_gtr rfl rfl) rfl ?_
             refine ql_r (r_move rfl) rfl ?_
             refine ql_split (d := 89) rfl (fun hs89 => ?_) (fun hs89 => ?_)
             ·have phs89 := hs89; try simp only [decide_eq_true_eq, decide_eq_false_iff_not, Bool.not_eq_true', Bool.not_eq_false', Bool.not_true, Bool.not_false] at phs89
              refine ql_g rfl rfl hs89 ?_
              refine ql_r (r_fa (o' := 2) rfl fl27_2 rfl) rfl ?_
              refine ql_g rfl rfl hs89 ?_
              refine ql_r (r_ld (id := 1) rfl rfl rfl sc24) rfl ?_
              refine ql_g rfl rfl hs89 ?_
              refine ql_r (r_move rfl) rfl ?_
              refine ql_g rfl rfl hs89 ?_
              refine ql_r (r_sub rfl rfl (by omega)) rfl ?_
              refine ql_g rfl rfl hs89 ?_
              refine ql_ixr hG.m rfl rfl sl24 (by omega) rfl fun x94 hx94 => ?_
              try simp only [Int.toNat_natCast] at hx94
              refine ql_g rfl rfl hs89 ?_
              refine ql_r (r_ldw rfl (fun w1 hb1 hs1 hB1 => Rd.loads hG.m ty155 hx94 hb1)) rfl ?_
              refine ql_g rfl rfl hs89 ?_
              refine ql_r (r_lda (id := 10) (n := 4) rfl rfl rfl ag155) rfl ?_
              refine ql_g rfl rfl hs89 ?_
              refine ql_call rfl rfl cb85 rfl (fun w1 hb1 hs1 hB1 => gear_mountOrder x94 x45 _) ?_
              refine ql_g rfl rfl hs89 ?_
              refine ql_r (r_geq rfl rfl) rfl ?_
              refine ql_r (r_pickT rfl hs89 rfl) rfl ?_
              refine ql_r (r_assign rfl) rfl ?_
              refine ql_nil (to_k0 (fun _ _ h => h) (hK35 _ _ _ _ _ ?_))
              clear hK35
              first | refine wp_condD rfl (fun hc76 => ?_) (fun hc76 => ?_) | refine wp_condN rfl (fun hc76 => ?_) (fun hc76 => ?_) | refine wp_condNB rfl (fun hc76 => ?_) (fun hc76 => ?_) | refine wp_cond' rfl (fun hc76 => ?_) (fun hc76 => ?_)
              ·refine wp_seq' fun K39 hK39 => ?_
               refine wp_reg ?_
               refine ol_r (r_assign rfl) rfl ?_
               refine ol_nil (to_k0 (fun _ _ h => h) (hK39 _ _ _ _ _ ?_))
               clear hK39
               refine hQ.ret (rvs1 (rv_t rfl)) (fun _ _ h => h) fun w hb hs hB hkd => ?_
               first
                 | (refine ⟨?_, hb⟩; rw [gchkM_bad (chkE_bad hP hx45 (fMo_4 (.inl phs53)) (by decide)) (by decide)]; done)
                 | (refine ⟨?_, hb⟩; rw [gchkM_bad (chkE_bad hP hx45 (fMo_4 (.inr hc47)) (by decide)) (by decide)]; done)
                 | (refine ⟨?_, hb⟩; rw [gchkM_bad (chkE_bad hP hx45 (fMo_9 hA (.inl phs65)) (by decide)) (by decide)]; done)
                 | (refine ⟨?_, hb⟩; rw [gchkM_bad (chkE_bad hP hx45 (fMo_9 hA (.inr ⟨phs69, hc60⟩)) (by decide)) (by decide)]; done)
                 | (refine ⟨?_, hb⟩; rw [gchkM_bad (chkE_bad hP hx45 (fMo_10 hA hBd (.inl ⟨phs80, hc76⟩)) (by decide)) (by decide)]; done)
                 | (refine ⟨?_, hb⟩; rw [gchkM_bad (chkE_bad hP hx45 (fMo_10 hA hBd (.inr (ordMo_t phs89 hx94 hc76))) (by decide)) (by decide)]; done)
                 | (refine ⟨?_, hb⟩; rw [gchkM_2 hz, hM, drop_cons_get hx108, mo2, if_pos (.inl phs117)]; done)
                 | (refine ⟨?_, hb⟩; rw [gchkM_2 hz, hM, drop_cons_get hx108, mo2, if_pos (.inr hc125)]; done)
                 | (refine ⟨?_, hb⟩; rw [gchkM_2 hz, hM, List.drop_eq_nil_of_le (by omega)]; rfl)
                 | (exfalso; contradiction)
              ·refine wp_skip' (to_k0 (fun _ _ h => h) (hK22 _ _ _ _ _ ?_))
               clear hK22
               refine wp_reg ?_
               refine ol_r (r_add rfl rfl (by omega)) rfl ?_
               refine ol_r (r_move rfl) rfl ?_
               refine ol_nil (to_k0 (fun _ _ h => h) (hK19 (k + 1) _ _ ?_ ?_ (sub_cons rfl sub_nil) (sub_cons rfl (sub_cons rfl (sub_cons rfl (sub_cons rfl (sub_cons rfl sub_nil))))) (by exact subH_nil) (subH_same rfl (subH_same rfl (subH_same rfl subH_nil)))))
               ·try dsimp only
                first
                | exact ⟨by omega, chkE_next hP hx45 (fMo_0 hA hBd hL (ordMo_z phs89))⟩
                | exact ⟨by omega, chkE_next hP hx45 (fMo_0 hA hBd hL (ordMo_f phs89 hx94 hc76))⟩
                | (exfalso; contradiction)
               ·try dsimp only
                omega
             ·have phs89 := hs89; try simp only [decide_eq_true_eq, decide_eq_false_iff_not, Bool.not_eq_true', Bool.not_eq_false', Bool.not_true, Bool.not_false] at phs89
              refine ql_s rfl rfl hs89 rfl ?_
              refine ql_s rfl rfl hs89 rfl ?_
              refine ql_s rfl rfl hs89 rfl ?_
              refine ql_s rfl rfl hs89 rfl ?_
              refine ql_s rfl rfl hs89 rfl ?_
              refine ql_s rfl rfl hs89 rfl ?_
              refine ql_s rfl rfl hs89 rfl ?_
              refine ql_s rfl rfl hs89 rfl ?_
              refine ql_s rfl rfl hs89 rfl ?_
              refine ql_r (r_pickF rfl hs89 rfl) rfl ?_
              refine ql_r (r_assign rfl) rfl ?_
              refine ql_nil (to_k0 (fun _ _ h => h) (hK35 _ _ _ _ _ ?_))
              clear hK35
              refine wp_condF rfl ?_
              refine wp_skip' (to_k0 (fun _ _ h => h) (hK22 _ _ _ _ _ ?_))
              clear hK22
              refine wp_reg ?_
              refine ol_r (r_add rfl rfl (by omega)) rfl ?_
              refine ol_r (r_move rfl) rfl ?_
              refine ol_nil (to_k0 (fun _ _ h => h) (hK19 (k + 1) _ _ ?_ ?_ (sub_cons rfl sub_nil) (sub_cons rfl (sub_cons rfl (sub_cons rfl (sub_cons rfl (sub_cons rfl sub_nil))))) (by exact subH_nil) (subH_same rfl (subH_same rfl (subH_same rfl subH_nil)))))
              ·try dsimp only
               first
               | exact ⟨by omega, chkE_next hP hx45 (fMo_0 hA hBd hL (ordMo_z phs89))⟩
               | exact ⟨by omega, chkE_next hP hx45 (fMo_0 hA hBd hL (ordMo_f phs89 hx94 hc76))⟩
               | (exfalso; contradiction)
              ·try dsimp only
               omega
       ·refine wp_exit' (to_k0 (fun _ _ h => h) (hK17 _ _ _ _ _ ?_))
        clear hK17
        refine wp_seq' fun K40 hK40 => ?_
        refine wp_reg ?_
        have hz := chkE_end hP (by omega)
        refine ol_mkmapE (Value.string) (Value.int .i64) 101 rfl fun b101 => ?_
        refine ol_mkmapE (Value.string) (Value.int .i64) 102 rfl fun b102 => ?_
        refine ol_r (r_assign rfl) rfl ?_
        refine ol_r (r_assign rfl) rfl ?_
        refine ol_nil (to_k0 (fun _ _ h => h) (hK40 _ _ _ _ _ ?_))
        clear hK40
        refine wp_seq' fun K41 hK41 => ?_
        refine wp_seq' fun K42 hK42 => ?_
        refine wp_reg ?_
        refine ol_r (r_fa (o' := 2) rfl fl27_2 rfl) rfl ?_
        refine ol_r (r_ld (id := 1) rfl rfl rfl sc24) rfl ?_
        refine ol_r (r_len rfl sl24) rfl ?_
        refine ol_r (r_move rfl) rfl ?_
        refine ol_nil (to_k0 (fun _ _ h => h) (hK42 _ _ _ _ _ ?_))
        clear hK42
        refine wp_block' ?_
        apply wp_loopM (σ := Nat × KI × KI) (fun s => s.1 ≤ G.mn ∧ mo2 [] [] G.ms = mo2 s.2.1 s.2.2 (G.ms.drop s.1)) (fun s => [(106, .int .i64 s.1)]) [(11, _), (12, _), (104, _), (105, _)] (fun s => [(101, .ob b101 (MapO (pEnc Value.string (Value.int .i64) s.2.1))), (102, .ob b102 (MapO (pEnc Value.string (Value.int .i64) s.2.2)))]) [(1, _), (15, _), (16, _)] (fun s => G.mn - s.1) ((0, [], []))
        ·try dsimp only
         exact ⟨Nat.zero_le _, rfl⟩
        ·exact (sub_cons rfl sub_nil)
        ·exact (sub_cons rfl (sub_cons rfl (sub_cons rfl (sub_cons rfl sub_nil))))
        ·exact (subH_same rfl (subH_same rfl subH_nil))
        ·exact (subH_same rfl (subH_same rfl (subH_same rfl subH_nil)))
        ·rintro ⟨q, D, E⟩ ⟨hq, hM⟩
         dsimp only at hq hM ⊢
         intro K43 hK43
         refine wp_seq' fun K44 hK44 => ?_
         refine wp_reg ?_
         refine ol_r (r_lss rfl rfl) rfl ?_
         refine ol_nil (to_k0 (fun _ _ h => h) (hK44 _ _ _ _ _ ?_))
         clear hK44
         refine wp_seq' fun K45 hK45 => ?_
         first | refine wp_condD rfl (fun hc107 => ?_) (fun hc107 => ?_) | refine wp_condN rfl (fun hc107 => ?_) (fun hc107 => ?_) | refine wp_condNB rfl (fun hc107 => ?_) (fun hc107 => ?_) | refine wp_cond' rfl (fun hc107 => ?_) (fun hc107 => ?_)
         ·refine wp_skip' (to_k0 (fun _ _ h => h) (hK45 _ _ _ _ _ ?_))
          clear hK45
          refine wp_seq' fun K46 hK46 => ?_
          refine wp_block' ?_
          refine wp_seq' fun K47 hK47 => ?_
          refine wp_reg ?_
          refine ol_ixr hG.m rfl rfl sl24 (by omega) rfl fun x108 hx108 => ?_
          try simp only [Int.toNat_natCast] at hx108
          refine ol_r (r_ldw rfl (fun w1 hb1 hs1 hB1 => Rd.loads hG.m ty155 hx108 hb1)) rfl ?_
          refine ol_alloc 14 z155 rfl fun b14 => ?_
          refine ol_store (id := 14) rfl rfl rfl rfl sz155 rfl rfl (by first | decide | exact Nat.zero_lt_succ _ | simp) ?_
          refine ol_nil (to_k0 (fun _ _ h => h) (hK47 _ _ _ _ _ ?_))
          clear hK47
          refine wp_seq' fun K48 hK48 => ?_
          refine wp_seq' fun K49 hK49 => ?_
          refine wp_reg ?_
          refine ol_r (r_fa (o' := 2) rfl fl155_2 rfl) rfl ?_
          refine ol_r (r_ld (id := 14) rfl rfl rfl sc3) rfl ?_
          refine ol_r (r_move rfl) rfl ?_
          refine ol_r (r_fa (o' := 0) rfl fl155_0 rfl) rfl ?_
          refine ol_r (r_ld (id := 14) rfl rfl rfl sc9) rfl ?_
          refine ol_r (r_look1 (K := Value.string) (V := Value.int .i64) (z := 0) (id := 101) rfl rfl rfl mk157) rfl ?_
          refine ol_r (r_lss rfl rfl) rfl ?_
          refine ol_r (r_move rfl) rfl ?_
          refine ol_split (d := 117) rfl (fun hs117 => ?_) (fun hs117 => ?_)
          ·have phs117 := hs117; try simp only [decide_eq_true_eq, decide_eq_false_iff_not, Bool.not_eq_true', Bool.not_eq_false', Bool.not_true, Bool.not_false] at phs117
           refine ol_s rfl rfl hs117 rfl ?_
           refine ol_s rfl rfl hs117 rfl ?_
           refine ol_s rfl rfl hs117 rfl ?_
           refine ol_s rfl rfl hs117 rfl ?_
           refine ol_s rfl rfl hs117 rfl ?_
           refine ol_s rfl rfl hs117 rfl ?_
           refine ol_s rfl rfl hs117 rfl ?_
           refine ol_r (r_pickT rfl hs117 rfl) rfl ?_
           refine ol_nil (to_k0 (fun _ _ h => h) (hK49 _ _ _ _ _ ?_))
           clear hK49
           refine wp_condT rfl ?_
           refine wp_seq' fun K50 hK50 => ?_
           refine wp_reg ?_
           refine ol_r (r_assign rfl) rfl ?_
           refine ol_nil (to_k0 (fun _ _ h => h) (hK50 _ _ _ _ _ ?_))
           clear hK50
           refine hQ.ret (rvs1 (rv_t rfl)) (fun _ _ h => h) fun w hb hs hB hkd => ?_
           first
             | (refine ⟨?_, hb⟩; rw [gchkM_bad (chkE_bad hP hx45 (fMo_4 (.inl phs53)) (by decide)) (by decide)]; done)
             | (refine ⟨?_, hb⟩; rw [gchkM_bad (chkE_bad hP hx45 (fMo_4 (.inr hc47)) (by decide)) (by decide)]; done)
             | (refine ⟨?_, hb⟩; rw [gchkM_bad (chkE_bad hP hx45 (fMo_9 hA (.inl phs65)) (by decide)) (by decide)]; done)
             | (refine ⟨?_, hb⟩; rw [gchkM_bad (chkE_bad hP hx45 (fMo_9 hA (.inr ⟨phs69, hc60⟩)) (by decide)) (by decide)]; done)
             | (refine ⟨?_, hb⟩; rw [gchkM_bad (chkE_bad hP hx45 (fMo_10 hA hBd (.inl ⟨phs80, hc76⟩)) (by decide)) (by decide)]; done)
             | (refine ⟨?_, hb⟩; rw [gchkM_bad (chkE_bad hP hx45 (fMo_10 hA hBd (.inr (ordMo_t phs89 hx94 hc76))) (by decide)) (by decide)]; done)
             | (refine ⟨?_, hb⟩; rw [gchkM_2 hz, hM, drop_cons_get hx108, mo2, if_pos (.inl phs117)]; done)
             | (refine ⟨?_, hb⟩; rw [gchkM_2 hz, hM, drop_cons_get hx108, mo2, if_pos (.inr hc125)]; done)
             | (refine ⟨?_, hb⟩; rw [gchkM_2 hz, hM, List.drop_eq_nil_of_le (by omega)]; rfl)
             | (exfalso; contradiction)
          ·have phs117 := hs117; try simp only [decide_eq_true_eq, decide_eq_false_iff_not, Bool.not_eq_true', Bool.not_eq_false', Bool.not_true, Bool.not_false] at phs117
           refine ol_g rfl rfl hs117 ?_
           refine ol_r (r_fa (o' := 2) rfl fl155_2 rfl) rfl ?_
           refine ol_g rfl rfl hs117 ?_
           refine ol_r (r_ld (id := 14) rfl rfl rfl sc3) rfl ?_
           refine ol_g rfl rfl hs117 ?_
           refine ol_r (r_move rfl) rfl ?_
           refine ol_g rfl rfl hs117 ?_
           refine ol_r (r_fa (o' := 1) rfl fl155_1 rfl) rfl ?_
           refine ol_g rfl rfl hs117 ?_
           refine ol_r (r_ld (id := 14) rfl rfl rfl sc9) rfl ?_
           refine ol_g rfl rfl hs117 ?_
           refine ol_r (r_look1 (K := Value.string) (V := Value.int .i64) (z := 0) (id := 102) rfl rfl rfl mk157) rfl ?_
           refine ol_g rfl rfl hs117 ?_
           refine ol_r (r_lss rfl rfl) rfl ?_
           refine ol_r (r_pickF rfl hs117 rfl) rfl ?_
           refine ol_nil (to_k0 (fun _ _ h => h) (hK49 _ _ _ _ _ ?_))
           clear hK49
           first | refine wp_condD rfl (fun hc125 => ?_) (fun hc125 => ?_) | refine wp_condN rfl (fun hc125 => ?_) (fun hc125 => ?_) | refine wp_condNB rfl (fun hc125 => ?_) (fun hc125 => ?_) | refine wp_cond' rfl (fun hc125 => ?_) (fun hc125 => ?_)
           ·refine wp_seq' fun K51 hK51 => ?_
            refine wp_reg ?_
            refine ol_r (r_assign rfl) rfl ?_
            refine ol_nil (to_k0 (fun _ _ h => h) (hK51 _ _ _ _ _ ?_))
            clear hK51
            refine hQ.ret (rvs1 (rv_t rfl)) (fun _ _ h => h) fun w hb hs hB hkd => ?_
            first
              | (refine ⟨?_, hb⟩; rw [gchkM_bad (chkE_bad hP hx45 (fMo_4 (.inl phs53)) (by decide)) (by decide)]; done)
              | (refine ⟨?_, hb⟩; rw [gchkM_bad (chkE_bad hP hx45 (fMo_4 (.inr hc47)) (by decide)) (by decide)]; done)
              | (refine ⟨?_, hb⟩; rw [gchkM_bad (chkE_bad hP hx45 (fMo_9 hA (.inl phs65)) (by decide)) (by decide)]; done)
              | (refine ⟨?_, hb⟩; rw [gchkM_bad (chkE_bad hP hx45 (fMo_9 hA (.inr ⟨phs69, hc60⟩)) (by decide)) (by decide)]; done)
              | (refine ⟨?_, hb⟩; rw [gchkM_bad (chkE_bad hP hx45 (fMo_10 hA hBd (.inl ⟨phs80, hc76⟩)) (by decide)) (by decide)]; done)
              | (refine ⟨?_, hb⟩; rw [gchkM_bad (chkE_bad hP hx45 (fMo_10 hA hBd (.inr (ordMo_t phs89 hx94 hc76))) (by decide)) (by decide)]; done)
              | (refine ⟨?_, hb⟩; rw [gchkM_2 hz, hM, drop_cons_get hx108, mo2, if_pos (.inl phs117)]; done)
              | (refine ⟨?_, hb⟩; rw [gchkM_2 hz, hM, drop_cons_get hx108, mo2, if_pos (.inr hc125)]; done)
              | (refine ⟨?_, hb⟩; rw [gchkM_2 hz, hM, List.drop_eq_nil_of_le (by omega)]; rfl)
              | (exfalso; contradiction)
           ·refine wp_skip' (to_k0 (fun _ _ h => h) (hK48 _ _ _ _ _ ?_))
            clear hK48
            refine wp_rega [(999, [(1, _), (14, _), (15, _), (16, _)]), (10, [(101, _)]), (13, [(102, _)])] (by kernel_rfl) ⟨.inr (subH_same rfl (subH_same rfl (subH_same rfl (subH_same rfl subH_nil)))), ⟨.inr (subH_same rfl subH_nil), ⟨.inr (subH_same rfl subH_nil), trivial⟩⟩⟩ ?_
            refine aq_r 0 999 rfl (by kernel_rfl) (by kernel_rfl) (by kernel_rfl) (.head _) (by kernel_rfl) (by kernel_rfl) rfl (r_move rfl) ?_
            refine aq_r 1 999 rfl (by kernel_rfl) (by kernel_rfl) (by kernel_rfl) (.head _) (by kernel_rfl) (by kernel_rfl) rfl (r_fa (o' := 0) rfl fl155_0 rfl) ?_
            refine aq_r 2 999 rfl (by kernel_rfl) (by kernel_rfl) (by kernel_rfl) (.head _) (by kernel_rfl) (by kernel_rfl) rfl (r_ld (id := 14) rfl rfl rfl sc9) ?_
            refine aq_r 3 999 rfl (by kernel_rfl) (by kernel_rfl) (by kernel_rfl) (.head _) (by kernel_rfl) (by kernel_rfl) rfl (r_move rfl) ?_
            refine aq_r 4 999 rfl (by kernel_rfl) (by kernel_rfl) (by kernel_rfl) (.head _) (by kernel_rfl) (by kernel_rfl) rfl (r_fa (o' := 1) rfl fl155_1 rfl) ?_
            refine aq_r 5 999 rfl (by kernel_rfl) (by kernel_rfl) (by kernel_rfl) (.head _) (by kernel_rfl) (by kernel_rfl) rfl (r_ld (id := 14) rfl rfl rfl sc9) ?_
            refine aq_r 6 999 rfl (by kernel_rfl) (by kernel_rfl) (by kernel_rfl) (.head _) (by kernel_rfl) (by kernel_rfl) rfl (r_lda (id := 14) (n := 4) rfl rfl rfl ag155) ?_
            refine aq_r 8 999 rfl (by kernel_rfl) (by kernel_rfl) (by kernel_rfl) (.head _) (by kernel_rfl) (by kernel_rfl) rfl (r_lda (id := 14) (n := 4) rfl rfl rfl ag155) ?_
            refine aq_one (i := 7) (by kernel_rfl) rfl fun K52 hK52 => ?_
            refine ol_call rfl rfl cb86 rfl (fun w1 hb1 hs1 hB1 => Calls.mono (gear_end x108 _) ?_)
            rintro e w2 ⟨rfl, hb2⟩
            refine After.below rfl hb1 hs1 hB1 hb2 ?_
            clear hb2 hB1 hs1 hb1 w2 w1
            refine ol_nil (to_k0 (fun _ _ h => h) (hK52 _ _ ⟨.inr (by repeat' first | exact subH_nil | refine subH_same rfl ?_ | (refine subH_blk rfl (by repeat' first | exact sub_nil | refine sub_cons rfl ?_) ?_)), ⟨.inr (by repeat' first | exact subH_nil | refine subH_same rfl ?_ | (refine subH_blk rfl (by repeat' first | exact sub_nil | refine sub_cons rfl ?_) ?_)), ⟨.inr (by repeat' first | exact subH_nil | refine subH_same rfl ?_ | (refine subH_blk rfl (by repeat' first | exact sub_nil | refine sub_cons rfl ?_) ?_)), trivial⟩⟩⟩ ?_))
            clear hK52
            refine aq_one (i := 9) (by kernel_rfl) rfl fun K53 hK53 => ?_
            refine ol_call rfl rfl cb86 rfl (fun w1 hb1 hs1 hB1 => Calls.mono (gear_end x108 _) ?_)
            rintro e w2 ⟨rfl, hb2⟩
            refine After.below rfl hb1 hs1 hB1 hb2 ?_
            clear hb2 hB1 hs1 hb1 w2 w1
            refine ol_nil (to_k0 (fun _ _ h => h) (hK53 _ _ ⟨.inr (by repeat' first | exact subH_nil | refine subH_same rfl ?_ | (refine subH_blk rfl (by repeat' first | exact sub_nil | refine sub_cons rfl ?_) ?_)), ⟨.inr (by repeat' first | exact subH_nil | refine subH_same rfl ?_ | (refine subH_blk rfl (by repeat' first | exact sub_nil | refine sub_cons rfl ?_) ?_)), ⟨.inr (by repeat' first | exact subH_nil | refine subH_same rfl ?_ | (refine subH_blk rfl (by repeat' first | exact sub_nil | refine sub_cons rfl ?_) ?_)), trivial⟩⟩⟩ ?_))
            clear hK53
            refine aq_one (i := 10) (by kernel_rfl) rfl fun K54 hK54 => ?_
            refine ol_mapentry (K := Value.string) (V := Value.int .i64) (z := 0) (id := 101) rfl rfl rfl mk157 trivial rfl fun st136 => ?_
            refine ol_nil (to_k0 (fun _ _ h => h) (hK54 _ _ ⟨.inr (by repeat' first | exact subH_nil | refine subH_same rfl ?_ | (refine subH_blk rfl (by repeat' first | exact sub_nil | refine sub_cons rfl ?_) ?_)), ⟨.inl (by kernel_rfl), ⟨.inr (by repeat' first | exact subH_nil | refine subH_same rfl ?_ | (refine subH_blk rfl (by repeat' first | exact sub_nil | refine sub_cons rfl ?_) ?_)), trivial⟩⟩⟩ ?_))
            clear hK54
            refine aq_r 11 999 rfl (by kernel_rfl) (by kernel_rfl) (by kernel_rfl) (.head _) (by kernel_rfl) (by kernel_rfl) rfl (r_extract rfl rfl) ?_
            refine aq_one (i := 12) (by kernel_rfl) rfl fun K55 hK55 => ?_
            refine ol_entrystore (K := Value.string) (V := Value.int .i64) (id := 101) rfl rfl rfl rfl trivial ?_
            refine ol_nil (to_k0 (fun _ _ h => h) (hK55 _ _ ⟨.inr (by repeat' first | exact subH_nil | refine subH_same rfl ?_ | (refine subH_blk rfl (by repeat' first | exact sub_nil | refine sub_cons rfl ?_) ?_)), ⟨.inl (by kernel_rfl), ⟨.inr (by repeat' first | exact subH_nil | refine subH_same rfl ?_ | (refine subH_blk rfl (by repeat' first | exact sub_nil | refine sub_cons rfl ?_) ?_)), trivial⟩⟩⟩ ?_))
            clear hK55
            refine aq_one (i := 13) (by kernel_rfl) rfl fun K56 hK56 => ?_
            refine ol_mapset (K := Value.string) (V := Value.int .i64) (z := 0) (id := 102) rfl rfl rfl rfl mk157 trivial ?_
            refine ol_nil (to_k0 (fun _ _ h => h) (hK56 _ _ ⟨.inr (by repeat' first | exact subH_nil | refine subH_same rfl ?_ | (refine subH_blk rfl (by repeat' first | exact sub_nil | refine sub_cons rfl ?_) ?_)), ⟨.inl (by kernel_rfl), ⟨.inl (by kernel_rfl), trivial⟩⟩⟩ ?_))
            clear hK56
            refine aq_done (by kernel_rfl) ?_
            refine (to_k0 (fun _ _ h => h) (hK46 _ _ _ _ _ ?_))
            clear hK46
            refine wp_reg ?_
            refine ol_r (r_add rfl rfl (by omega)) rfl ?_
            refine ol_r (r_move rfl) rfl ?_
            refine ol_nil (to_k0 (fun _ _ h => h) (hK43 ((q + 1, _, _)) _ _ ?_ ?_ (sub_cons rfl sub_nil) (sub_cons rfl (sub_cons rfl (sub_cons rfl (sub_cons rfl sub_nil)))) (by exact (subH_same rfl (subH_same rfl subH_nil))) (subH_same rfl (subH_same rfl (subH_same rfl subH_nil)))))
            ·try dsimp only
             exact ⟨by omega, by rw [hM, drop_cons_get hx108, mo2, if_neg (not_or.2 ⟨phs117, hc125⟩)]⟩
            ·try dsimp only
             omega
         ·refine wp_exit' (to_k0 (fun _ _ h => h) (hK41 _ _ _ _ _ ?_))
          clear hK41
          refine wp_seq' fun K57 hK57 => ?_
          refine wp_reg ?_
          refine ol_r (r_assign rfl) rfl ?_
          refine ol_nil (to_k0 (fun _ _ h => h) (hK57 _ _ _ _ _ ?_))
          clear hK57
          refine hQ.ret (rvs1 (rv_t rfl)) (fun _ _ h => h) fun w hb hs hB hkd => ?_
          first
            | (refine ⟨?_, hb⟩; rw [gchkM_bad (chkE_bad hP hx45 (fMo_4 (.inl phs53)) (by decide)) (by decide)]; done)
            | (refine ⟨?_, hb⟩; rw [gchkM_bad (chkE_bad hP hx45 (fMo_4 (.inr hc47)) (by decide)) (by decide)]; done)
            | (refine ⟨?_, hb⟩; rw [gchkM_bad (chkE_bad hP hx45 (fMo_9 hA (.inl phs65)) (by decide)) (by decide)]; done)
            | (refine ⟨?_, hb⟩; rw [gchkM_bad (chkE_bad hP hx45 (fMo_9 hA (.inr ⟨phs69, hc60⟩)) (by decide)) (by decide)]; done)
            | (refine ⟨?_, hb⟩; rw [gchkM_bad (chkE_bad hP hx45 (fMo_10 hA hBd (.inl ⟨phs80, hc76⟩)) (by decide)) (by decide)]; done)
            | (refine ⟨?_, hb⟩; rw [gchkM_bad (chkE_bad hP hx45 (fMo_10 hA hBd (.inr (ordMo_t phs89 hx94 hc76))) (by decide)) (by decide)]; done)
            | (refine ⟨?_, hb⟩; rw [gchkM_2 hz, hM, drop_cons_get hx108, mo2, if_pos (.inl phs117)]; done)
            | (refine ⟨?_, hb⟩; rw [gchkM_2 hz, hM, drop_cons_get hx108, mo2, if_pos (.inr hc125)]; done)
            | (refine ⟨?_, hb⟩; rw [gchkM_2 hz, hM, List.drop_eq_nil_of_le (by omega)]; rfl)
            | (exfalso; contradiction)
end Go.Proofs.Ytfbmkepogcimlaa

/-
  Garages: Check, whole.
-/

namespace Go.Proofs.Ytfbmkepogcimlaa
open Go Go.RowKit Hx
set_option linter.unusedVariables false
set_option linter.unusedSimpArgs false
set_option maxRecDepth 8000
section
variable {p : Option GPart} {x y : GPart} {xs : List GPart} {k : Nat}
theorem fPa_8 (h : nameB x.name = false) : fPa p x = 8 := if_pos h
theorem fPa_10 (h : nameB x.name = true) (h2 : ordPa p x = true) : fPa p x = 10 := by rw [fPa, if_neg (by rw [h]; simp), if_pos h2]
theorem fPa_9 (h : nameB x.name = true) (h2 : ordPa p x = false) (h3 : inB x.cost 0 1000000000 = false) : fPa p x = 9 := by rw [fPa, if_neg (by rw [h]; simp), if_neg (by rw [h2]; simp), if_pos h3]
theorem fPa_0 (h : nameB x.name = true) (h2 : ordPa p x = false) (h3 : inB x.cost 0 1000000000 = true) : fPa p x = 0 := by rw [fPa, if_neg (by rw [h]; simp), if_neg (by rw [h2]; simp), if_neg (by rw [h3]; simp)]
theorem ordPa_z (h : ¬(k : Int) > 0) : ordPa (ahead xs k) x = false := by rw [ahead_none (by omega)]; rfl
theorem ordPa_t {b : Bool} (hk : (k : Int) > 0) (hy : xs[((k : Int) - 1).toNat]? = some y) (h : (sLt x.name y.name || sEq x.name y.name) = b) : ordPa (ahead xs k) x = b := by rw [ahead_pred hk hy]; exact h
end
section
variable {p : Option GSlot} {x y : GSlot} {xs : List GSlot} {k : Nat}
theorem fSl_8 (h : nameB x.name = false) : fSl p x = 8 := if_pos h
theorem fSl_10 (h : nameB x.name = true) (h2 : ordSl p x = true) : fSl p x = 10 := by rw [fSl, if_neg (by rw [h]; simp), if_pos h2]
theorem fSl_8' (h : nameB x.name = true) (h2 : ordSl p x = false) (h3 : nameB x.rig = false) : fSl p x = 8 := by rw [fSl, if_neg (by rw [h]; simp), if_neg (by rw [h2]; simp), if_pos h3]
theorem fSl_0 (h : nameB x.name = true) (h2 : ordSl p x = false) (h3 : nameB x.rig = true) : fSl p x = 0 := by rw [fSl, if_neg (by rw [h]; simp), if_neg (by rw [h2]; simp), if_neg (by rw [h3]; simp)]
theorem ordSl_z (h : ¬(k : Int) > 0) : ordSl (ahead xs k) x = false := by rw [ahead_none (by omega)]; rfl
theorem ordSl_t {b : Bool} (hk : (k : Int) > 0) (hy : xs[((k : Int) - 1).toNat]? = some y) (h : (sLt x.name y.name || sEq x.name y.name) = b) : ordSl (ahead xs k) x = b := by rw [ahead_pred hk hy]; exact h
end
section
variable {x y : GUse} {xs : List GUse} {k : Nat}
theorem ordU_z (h : ¬(k : Int) > 0) : ¬ordU (ahead xs k) x = true := by rw [ahead_none (by omega)]; simp [ordU]
theorem ordU_t (hk : (k : Int) > 0) (hy : xs[((k : Int) - 1).toNat]? = some y) (h : ucf y x ≥ 0) : ordU (ahead xs k) x = true := by rw [ahead_pred hk hy]; exact decide_eq_true h
theorem ordU_f (hk : (k : Int) > 0) (hy : xs[((k : Int) - 1).toNat]? = some y) (h : ¬ucf y x ≥ 0) : ¬ordU (ahead xs k) x = true := by rw [ahead_pred hk hy]; simpa [ordU] using h
theorem usN_bad {K : KB} (hP : usN [] none xs = usN K (ahead xs k) (xs.drop k)) (hx : xs[k]? = some x) (h : gchkU x (hasK K x.name) ≠ 0) : usN [] none xs = gchkU x (hasK K x.name) := by
  rw [hP, drop_cons_get hx, usN, if_pos h]
theorem usN_ord {K : KB} (hP : usN [] none xs = usN K (ahead xs k) (xs.drop k)) (hx : xs[k]? = some x) (h : ¬gchkU x (hasK K x.name) ≠ 0) (h2 : ordU (ahead xs k) x = true) : usN [] none xs = 10 := by
  rw [hP, drop_cons_get hx, usN, if_neg h, if_pos h2]
theorem usN_next {K : KB} (hP : usN [] none xs = usN K (ahead xs k) (xs.drop k)) (hx : xs[k]? = some x) (h : ¬gchkU x (hasK K x.name) ≠ 0) (h2 : ¬ordU (ahead xs k) x = true) : usN [] none xs = usN (pS K x.name true) (ahead xs (k + 1)) (xs.drop (k + 1)) := by
  rw [hP, drop_cons_get hx, usN, if_neg h, if_neg h2, ahead_succ hx]
end
theorem gear_Check (G : GarV) (w : World) (hG : G.Ok w.heap.size w) : Calls Try.prog 28 #[.agg #[.slice G.pa G.pn G.pc, .slice G.sa G.sn G.sc, .slice G.ma G.mn G.mc, .slice G.ua G.un G.uc]] w fun e w' => e = .returned (.int .i64 (gchkG G.toGarD)) ∧ Below w.heap.size w w' := by
  have hpn := hG.p.len
  have hpf := hG.p.fit
  have hsn := hG.s.len
  have hsf := hG.s.fit
  have hmn := hG.m.len
  have hmf := hG.m.fit
  have hun := hG.u.len
  have huf := hG.u.fit
  refine enterQ (N := 142) (C := fun _ => True) (H := []) (B := w.heap.size) (args := [_]) Try.func28 rfl rfl rfl (Nat.le_refl _) (Sat.nil _ _) fun Q hQ => ?_
  refine wp_seq' fun K1 hK1 => ?_
  refine wp_reg ?_
  refine ol_box 1 rfl rfl rfl fun b1 => ?_
  refine ol_r (r_assign rfl) rfl ?_
  refine ol_nil (to_k0 (fun _ _ h => h) (hK1 _ _ _ _ _ ?_))
  clear hK1
  refine wp_seq' fun K2 hK2 => ?_
  refine wp_seq' fun K3 hK3 => ?_
  refine wp_reg ?_
  refine ol_r (r_fa (o' := 0) rfl fl27_0 rfl) rfl ?_
  refine ol_r (r_ld (id := 1) rfl rfl rfl sc22) rfl ?_
  refine ol_r (r_len rfl sl22) rfl ?_
  refine ol_r (r_gtr rfl rfl) rfl ?_
  refine ol_r (r_move rfl) rfl ?_
  refine ol_split (d := 16) rfl (fun hs16 => ?_) (fun hs16 => ?_)
  ·have phs16 := hs16; try simp only [decide_eq_true_eq, decide_eq_false_iff_not, Bool.not_eq_true', Bool.not_eq_false', Bool.not_true, Bool.not_false] at phs16
   refine ol_s rfl rfl hs16 rfl ?_
   refine ol_s rfl rfl hs16 rfl ?_
   refine ol_s rfl rfl hs16 rfl ?_
   refine ol_s rfl rfl hs16 rfl ?_
   refine ol_r (r_pickT rfl hs16 rfl) rfl ?_
   refine ol_r (r_move rfl) rfl ?_
   refine ol_s rfl rfl rfl rfl ?_
   refine ol_s rfl rfl rfl rfl ?_
   refine ol_s rfl rfl rfl rfl ?_
   refine ol_s rfl rfl rfl rfl ?_
   refine ol_r (r_pickT rfl rfl rfl) rfl ?_
   refine ol_r (r_move rfl) rfl ?_
   refine ol_s rfl rfl rfl rfl ?_
   refine ol_s rfl rfl rfl rfl ?_
   refine ol_s rfl rfl rfl rfl ?_
   refine ol_s rfl rfl rfl rfl ?_
   refine ol_r (r_pickT rfl rfl rfl) rfl ?_
   refine ol_nil (to_k0 (fun _ _ h => h) (hK3 _ _ _ _ _ ?_))
   clear hK3
   refine wp_condT rfl ?_
   refine wp_seq' fun K4 hK4 => ?_
   refine wp_reg ?_
   refine ol_r (r_assign rfl) rfl ?_
   refine ol_nil (to_k0 (fun _ _ h => h) (hK4 _ _ _ _ _ ?_))
   clear hK4
   refine hQ.ret (rvs1 (rv_t rfl)) (fun _ _ h => h) fun w hb hs hB hkd => ?_
   first
     | (refine ⟨?_, hb⟩; rw [gchkG_p hl (chkE_bad hP1 hx40 (fPa_8 hc42) (by decide)) (by decide)]; done)
     | (refine ⟨?_, hb⟩; rw [gchkG_p hl (chkE_bad hP1 hx40 (fPa_10 hc42 (ordPa_t phs50 hx57 hc47)) (by decide)) (by decide)]; done)
     | (refine ⟨?_, hb⟩; rw [gchkG_p hl (chkE_bad hP1 hx40 (fPa_9 hc42 (ordPa_z phs50) hc62) (by decide)) (by decide)]; done)
     | (refine ⟨?_, hb⟩; rw [gchkG_p hl (chkE_bad hP1 hx40 (fPa_9 hc42 (ordPa_t phs50 hx57 hc47) hc62) (by decide)) (by decide)]; done)
     | (refine ⟨?_, hb⟩; rw [gchkG_s hl hz1 (chkE_bad hP2 hx74 (fSl_8 hc76) (by decide)) (by decide)]; done)
     | (refine ⟨?_, hb⟩; rw [gchkG_s hl hz1 (chkE_bad hP2 hx74 (fSl_10 hc76 (ordSl_t phs84 hx91 hc81)) (by decide)) (by decide)]; done)
     | (refine ⟨?_, hb⟩; rw [gchkG_s hl hz1 (chkE_bad hP2 hx74 (fSl_8' hc76 (ordSl_z phs84) hc96) (by decide)) (by decide)]; done)
     | (refine ⟨?_, hb⟩; rw [gchkG_s hl hz1 (chkE_bad hP2 hx74 (fSl_8' hc76 (ordSl_t phs84 hx91 hc81) hc96) (by decide)) (by decide)]; done)
     | exact ⟨congrArg (fun v => Ending.returned (Value.int .i64 v)) (gchkG_u hl hz1 hz2 hz3 (usN_bad hP3 hx114 hc123)).symm, hb⟩
     | (refine ⟨?_, hb⟩; rw [gchkG_u hl hz1 hz2 hz3 (usN_ord hP3 hx114 hc123 (ordU_t phs130 hx135 hc140))]; done)
     | (refine ⟨?_, hb⟩; rw [gchkG_m hl hz1 hz2 hc105]; done)
     | (refine ⟨?_, hb⟩; rw [gchkG_u hl hz1 hz2 hz3 (hP3.trans (by rw [List.drop_eq_nil_of_le (by omega), usN]))]; done)
     | (refine ⟨?_, hb⟩; rw [gchkG_3 (by omega)]; done)
  ·have phs16 := hs16; try simp only [decide_eq_true_eq, decide_eq_false_iff_not, Bool.not_eq_true', Bool.not_eq_false', Bool.not_true, Bool.not_false] at phs16
   refine ol_g rfl rfl hs16 ?_
   refine ol_r (r_fa (o' := 1) rfl fl27_1 rfl) rfl ?_
   refine ol_g rfl rfl hs16 ?_
   refine ol_r (r_ld (id := 1) rfl rfl rfl sc23) rfl ?_
   refine ol_g rfl rfl hs16 ?_
   refine ol_r (r_len rfl sl23) rfl ?_
   refine ol_g rfl rfl hs16 ?_
   refine ol_r (r_gtr rfl rfl) rfl ?_
   refine ol_r (r_pickF rfl hs16 rfl) rfl ?_
   refine ol_r (r_move rfl) rfl ?_
   refine ol_split (d := 22) rfl (fun hs22 => ?_) (fun hs22 => ?_)
   ·have phs22 := hs22; try simp only [decide_eq_true_eq, decide_eq_false_iff_not, Bool.not_eq_true', Bool.not_eq_false', Bool.not_true, Bool.not_false] at phs22
    refine ol_s rfl rfl hs22 rfl ?_
    refine ol_s rfl rfl hs22 rfl ?_
    refine ol_s rfl rfl hs22 rfl ?_
    refine ol_s rfl rfl hs22 rfl ?_
    refine ol_r (r_pickT rfl hs22 rfl) rfl ?_
    refine ol_r (r_move rfl) rfl ?_
    refine ol_s rfl rfl rfl rfl ?_
    refine ol_s rfl rfl rfl rfl ?_
    refine ol_s rfl rfl rfl rfl ?_
    refine ol_s rfl rfl rfl rfl ?_
    refine ol_r (r_pickT rfl rfl rfl) rfl ?_
    refine ol_nil (to_k0 (fun _ _ h => h) (hK3 _ _ _ _ _ ?_))
    clear hK3
    refine wp_condT rfl ?_
    refine wp_seq' fun K5 hK5 => ?_
    refine wp_reg ?_
    refine ol_r (r_assign rfl) rfl ?_
    refine ol_nil (to_k0 (fun _ _ h => h) (hK5 _ _ _ _ _ ?_))
    clear hK5
    refine hQ.ret (rvs1 (rv_t rfl)) (fun _ _ h => h) fun w hb hs hB hkd => ?_
    first
      | (refine ⟨?_, hb⟩; rw [gchkG_p hl (chkE_bad hP1 hx40 (fPa_8 hc42) (by decide)) (by decide)]; done)
      | (refine ⟨?_, hb⟩; rw [gchkG_p hl (chkE_bad hP1 hx40 (fPa_10 hc42 (ordPa_t phs50 hx57 hc47)) (by decide)) (by decide)]; done)
      | (refine ⟨?_, hb⟩; rw [gchkG_p hl (chkE_bad hP1 hx40 (fPa_9 hc42 (ordPa_z phs50) hc62) (by decide)) (by decide)]; done)
      | (refine ⟨?_, hb⟩; rw [gchkG_p hl (chkE_bad hP1 hx40 (fPa_9 hc42 (ordPa_t phs50 hx57 hc47) hc62) (by decide)) (by decide)]; done)
      | (refine ⟨?_, hb⟩; rw [gchkG_s hl hz1 (chkE_bad hP2 hx74 (fSl_8 hc76) (by decide)) (by decide)]; done)
      | (refine ⟨?_, hb⟩; rw [gchkG_s hl hz1 (chkE_bad hP2 hx74 (fSl_10 hc76 (ordSl_t phs84 hx91 hc81)) (by decide)) (by decide)]; done)
      | (refine ⟨?_, hb⟩; rw [gchkG_s hl hz1 (chkE_bad hP2 hx74 (fSl_8' hc76 (ordSl_z phs84) hc96) (by decide)) (by decide)]; done)
      | (refine ⟨?_, hb⟩; rw [gchkG_s hl hz1 (chkE_bad hP2 hx74 (fSl_8' hc76 (ordSl_t phs84 hx91 hc81) hc96) (by decide)) (by decide)]; done)
      | exact ⟨congrArg (fun v => Ending.returned (Value.int .i64 v)) (gchkG_u hl hz1 hz2 hz3 (usN_bad hP3 hx114 hc123)).symm, hb⟩
      | (refine ⟨?_, hb⟩; rw [gchkG_u hl hz1 hz2 hz3 (usN_ord hP3 hx114 hc123 (ordU_t phs130 hx135 hc140))]; done)
      | (refine ⟨?_, hb⟩; rw [gchkG_m hl hz1 hz2 hc105]; done)
      | (refine ⟨?_, hb⟩; rw [gchkG_u hl hz1 hz2 hz3 (hP3.trans (by rw [List.drop_eq_nil_of_le (by omega), usN]))]; done)
      | (refine ⟨?_, hb⟩; rw [gchkG_3 (by omega)]; done)
   ·have phs22 := hs22; try simp only [decide_eq_true_eq, decide_eq_false_iff_not, Bool.not_eq_true', Bool.not_eq_false', Bool.not_true, Bool.not_false] at phs22
    refine ol_g rfl rfl hs22 ?_
    refine ol_r (r_fa (o' := 2) rfl fl27_2 rfl) rfl ?_
    refine ol_g rfl rfl hs22 ?_
    refine ol_r (r_ld (id := 1) rfl rfl rfl sc24) rfl ?_
    refine ol_g rfl rfl hs22 ?_
    refine ol_r (r_len rfl sl24) rfl ?_
    refine ol_g rfl rfl hs22 ?_
    refine ol_r (r_gtr rfl rfl) rfl ?_
    refine ol_r (r_pickF rfl hs22 rfl) rfl ?_
    refine ol_r (r_move rfl) rfl ?_
    refine ol_split (d := 28) rfl (fun hs28 => ?_) (fun hs28 => ?_)
    ·have phs28 := hs28; try simp only [decide_eq_true_eq, decide_eq_false_iff_not, Bool.not_eq_true', Bool.not_eq_false', Bool.not_true, Bool.not_false] at phs28
     refine ol_s rfl rfl hs28 rfl ?_
     refine ol_s rfl rfl hs28 rfl ?_
     refine ol_s rfl rfl hs28 rfl ?_
     refine ol_s rfl rfl hs28 rfl ?_
     refine ol_r (r_pickT rfl hs28 rfl) rfl ?_
     refine ol_nil (to_k0 (fun _ _ h => h) (hK3 _ _ _ _ _ ?_))
     clear hK3
     refine wp_condT rfl ?_
     refine wp_seq' fun K6 hK6 => ?_
     refine wp_reg ?_
     refine ol_r (r_assign rfl) rfl ?_
     refine ol_nil (to_k0 (fun _ _ h => h) (hK6 _ _ _ _ _ ?_))
     clear hK6
     refine hQ.ret (rvs1 (rv_t rfl)) (fun _ _ h => h) fun w hb hs hB hkd => ?_
     first
       | (refine ⟨?_, hb⟩; rw [gchkG_p hl (chkE_bad hP1 hx40 (fPa_8 hc42) (by decide)) (by decide)]; done)
       | (refine ⟨?_, hb⟩; rw [gchkG_p hl (chkE_bad hP1 hx40 (fPa_10 hc42 (ordPa_t phs50 hx57 hc47)) (by decide)) (by decide)]; done)
       | (refine ⟨?_, hb⟩; rw [gchkG_p hl (chkE_bad hP1 hx40 (fPa_9 hc42 (ordPa_z phs50) hc62) (by decide)) (by decide)]; done)
       | (refine ⟨?_, hb⟩; rw [gchkG_p hl (chkE_bad hP1 hx40 (fPa_9 hc42 (ordPa_t phs50 hx57 hc47) hc62) (by decide)) (by decide)]; done)
       | (refine ⟨?_, hb⟩; rw [gchkG_s hl hz1 (chkE_bad hP2 hx74 (fSl_8 hc76) (by decide)) (by decide)]; done)
       | (refine ⟨?_, hb⟩; rw [gchkG_s hl hz1 (chkE_bad hP2 hx74 (fSl_10 hc76 (ordSl_t phs84 hx91 hc81)) (by decide)) (by decide)]; done)
       | (refine ⟨?_, hb⟩; rw [gchkG_s hl hz1 (chkE_bad hP2 hx74 (fSl_8' hc76 (ordSl_z phs84) hc96) (by decide)) (by decide)]; done)
       | (refine ⟨?_, hb⟩; rw [gchkG_s hl hz1 (chkE_bad hP2 hx74 (fSl_8' hc76 (ordSl_t phs84 hx91 hc81) hc96) (by decide)) (by decide)]; done)
       | exact ⟨congrArg (fun v => Ending.returned (Value.int .i64 v)) (gchkG_u hl hz1 hz2 hz3 (usN_bad hP3 hx114 hc123)).symm, hb⟩
       | (refine ⟨?_, hb⟩; rw [gchkG_u hl hz1 hz2 hz3 (usN_ord hP3 hx114 hc123 (ordU_t phs130 hx135 hc140))]; done)
       | (refine ⟨?_, hb⟩; rw [gchkG_m hl hz1 hz2 hc105]; done)
       | (refine ⟨?_, hb⟩; rw [gchkG_u hl hz1 hz2 hz3 (hP3.trans (by rw [List.drop_eq_nil_of_le (by omega), usN]))]; done)
       | (refine ⟨?_, hb⟩; rw [gchkG_3 (by omega)]; done)
    ·have phs28 := hs28; try simp only [decide_eq_true_eq, decide_eq_false_iff_not, Bool.not_eq_true', Bool.not_eq_false', Bool.not_true, Bool.not_false] at phs28
     refine ol_g rfl rfl hs28 ?_
     refine ol_r (r_fa (o' := 3) rfl fl27_3 rfl) rfl ?_
     refine ol_g rfl rfl hs28 ?_
     refine ol_r (r_ld (id := 1) rfl rfl rfl sc25) rfl ?_
     refine ol_g rfl rfl hs28 ?_
     refine ol_r (r_len rfl sl25) rfl ?_
     refine ol_g rfl rfl hs28 ?_
     refine ol_r (r_gtr rfl rfl) rfl ?_
     refine ol_r (r_pickF rfl hs28 rfl) rfl ?_
     refine ol_nil (to_k0 (fun _ _ h => h) (hK3 _ _ _ _ _ ?_))
     clear hK3
     first | refine wp_condD rfl (fun hc33 => ?_) (fun hc33 => ?_) | refine wp_condN rfl (fun hc33 => ?_) (fun hc33 => ?_) | refine wp_condNB rfl (fun hc33 => ?_) (fun hc33 => ?_) | refine wp_cond' rfl (fun hc33 => ?_) (fun hc33 => ?_)
     ·refine wp_seq' fun K7 hK7 => ?_
      refine wp_reg ?_
      refine ol_r (r_assign rfl) rfl ?_
      refine ol_nil (to_k0 (fun _ _ h => h) (hK7 _ _ _ _ _ ?_))
      clear hK7
      refine hQ.ret (rvs1 (rv_t rfl)) (fun _ _ h => h) fun w hb hs hB hkd => ?_
      first
        | (refine ⟨?_, hb⟩; rw [gchkG_p hl (chkE_bad hP1 hx40 (fPa_8 hc42) (by decide)) (by decide)]; done)
        | (refine ⟨?_, hb⟩; rw [gchkG_p hl (chkE_bad hP1 hx40 (fPa_10 hc42 (ordPa_t phs50 hx57 hc47)) (by decide)) (by decide)]; done)
        | (refine ⟨?_, hb⟩; rw [gchkG_p hl (chkE_bad hP1 hx40 (fPa_9 hc42 (ordPa_z phs50) hc62) (by decide)) (by decide)]; done)
        | (refine ⟨?_, hb⟩; rw [gchkG_p hl (chkE_bad hP1 hx40 (fPa_9 hc42 (ordPa_t phs50 hx57 hc47) hc62) (by decide)) (by decide)]; done)
        | (refine ⟨?_, hb⟩; rw [gchkG_s hl hz1 (chkE_bad hP2 hx74 (fSl_8 hc76) (by decide)) (by decide)]; done)
        | (refine ⟨?_, hb⟩; rw [gchkG_s hl hz1 (chkE_bad hP2 hx74 (fSl_10 hc76 (ordSl_t phs84 hx91 hc81)) (by decide)) (by decide)]; done)
        | (refine ⟨?_, hb⟩; rw [gchkG_s hl hz1 (chkE_bad hP2 hx74 (fSl_8' hc76 (ordSl_z phs84) hc96) (by decide)) (by decide)]; done)
        | (refine ⟨?_, hb⟩; rw [gchkG_s hl hz1 (chkE_bad hP2 hx74 (fSl_8' hc76 (ordSl_t phs84 hx91 hc81) hc96) (by decide)) (by decide)]; done)
        | exact ⟨congrArg (fun v => Ending.returned (Value.int .i64 v)) (gchkG_u hl hz1 hz2 hz3 (usN_bad hP3 hx114 hc123)).symm, hb⟩
        | (refine ⟨?_, hb⟩; rw [gchkG_u hl hz1 hz2 hz3 (usN_ord hP3 hx114 hc123 (ordU_t phs130 hx135 hc140))]; done)
        | (refine ⟨?_, hb⟩; rw [gchkG_m hl hz1 hz2 hc105]; done)
        | (refine ⟨?_, hb⟩; rw [gchkG_u hl hz1 hz2 hz3 (hP3.trans (by rw [List.drop_eq_nil_of_le (by omega), usN]))]; done)
        | (refine ⟨?_, hb⟩; rw [gchkG_3 (by omega)]; done)
     ·refine wp_skip' (to_k0 (fun _ _ h => h) (hK2 _ _ _ _ _ ?_))
      clear hK2
      refine wp_seq' fun K8 hK8 => ?_
      refine wp_seq' fun K9 hK9 => ?_
      refine wp_reg ?_
      have hl := gchkG_l (g := G.toGarD) (by omega)
      refine ol_r (r_fa (o' := 0) rfl fl27_0 rfl) rfl ?_
      refine ol_r (r_ld (id := 1) rfl rfl rfl sc22) rfl ?_
      refine ol_r (r_len rfl sl22) rfl ?_
      refine ol_r (r_move rfl) rfl ?_
      refine ol_nil (to_k0 (fun _ _ h => h) (hK9 _ _ _ _ _ ?_))
      clear hK9
      refine wp_block' ?_
      apply wp_loopM (σ := Nat) (fun s => s ≤ G.pn ∧ chkE fPa none G.ps = chkE fPa (ahead G.ps s) (G.ps.drop s)) (fun s => [(37, .int .i64 s)]) [(1, _), (35, _), (36, _)] (fun s => []) [(1, _)] (fun s => G.pn - s) (0)
      ·try dsimp only
       exact ⟨Nat.zero_le _, chkE_start _ _⟩
      ·exact (sub_cons rfl sub_nil)
      ·exact (sub_cons rfl (sub_cons rfl (sub_cons rfl sub_nil)))
      ·exact subH_nil
      ·exact (subH_same rfl subH_nil)
      ·rintro k1 ⟨hk1, hP1⟩
       intro K10 hK10
       refine wp_seq' fun K11 hK11 => ?_
       refine wp_reg ?_
       refine ol_r (r_lss rfl rfl) rfl ?_
       refine ol_nil (to_k0 (fun _ _ h => h) (hK11 _ _ _ _ _ ?_))
       clear hK11
       refine wp_seq' fun K12 hK12 => ?_
       first | refine wp_condD rfl (fun hc38 => ?_) (fun hc38 => ?_) | refine wp_condN rfl (fun hc38 => ?_) (fun hc38 => ?_) | refine wp_condNB rfl (fun hc38 => ?_) (fun hc38 => ?_) | refine wp_cond' rfl (fun hc38 => ?_) (fun hc38 => ?_)
       ·refine wp_skip' (to_k0 (fun _ _ h => h) (hK12 _ _ _ _ _ ?_))
        clear hK12
        refine wp_seq' fun K13 hK13 => ?_
        refine wp_block' ?_
        refine wp_seq' fun K14 hK14 => ?_
        refine wp_reg ?_
        refine ol_r (r_move rfl) rfl ?_
        refine ol_ixr hG.p rfl rfl sl22 (by omega) rfl fun x40 hx40 => ?_
        try simp only [Int.toNat_natCast] at hx40
        refine ol_r (r_ldw rfl (fun w1 hb1 hs1 hB1 => Rd.loads hG.p ty42 hx40 hb1)) rfl ?_
        refine ol_alloc 4 z42 rfl fun b4 => ?_
        refine ol_r (r_assign rfl) rfl ?_
        refine ol_store (id := 4) rfl rfl rfl rfl sz42 rfl rfl (by first | decide | exact Nat.zero_lt_succ _ | simp) ?_
        refine ol_nil (to_k0 (fun _ _ h => h) (hK14 _ _ _ _ _ ?_))
        clear hK14
        refine wp_block' ?_
        refine wp_seq' fun K15 hK15 => ?_
        refine wp_reg ?_
        refine ol_r (r_fa (o' := 0) rfl fl42_0 rfl) rfl ?_
        refine ol_r (r_ld (id := 4) rfl rfl rfl sc9) rfl ?_
        refine ol_call rfl rfl cb32 rfl (fun w1 hb1 hs1 hB1 => Calls.mono (quant_IsName x40.name _ (hG.zp x40 (List.mem_of_getElem? hx40))) ?_)
        rintro e w2 ⟨rfl, hb2⟩
        refine After.below rfl hb1 hs1 hB1 hb2 ?_
        clear hb2 hB1 hs1 hb1 w2 w1
        refine ol_r (r_not rfl) rfl ?_
        refine ol_r (r_assign rfl) rfl ?_
        refine ol_nil (to_k0 (fun _ _ h => h) (hK15 _ _ _ _ _ ?_))
        clear hK15
        first | refine wp_condD rfl (fun hc42 => ?_) (fun hc42 => ?_) | refine wp_condN rfl (fun hc42 => ?_) (fun hc42 => ?_) | refine wp_condNB rfl (fun hc42 => ?_) (fun hc42 => ?_) | refine wp_cond' rfl (fun hc42 => ?_) (fun hc42 => ?_)
        ·refine wp_seq' fun K16 hK16 => ?_
         refine wp_reg ?_
         refine ol_r (r_assign rfl) rfl ?_
         refine ol_nil (to_k0 (fun _ _ h => h) (hK16 _ _ _ _ _ ?_))
         clear hK16
         refine hQ.ret (rvs1 (rv_t rfl)) (fun _ _ h => h) fun w hb hs hB hkd => ?_
         first
           | (refine ⟨?_, hb⟩; rw [gchkG_p hl (chkE_bad hP1 hx40 (fPa_8 hc42) (by decide)) (by decide)]; done)
           | (refine ⟨?_, hb⟩; rw [gchkG_p hl (chkE_bad hP1 hx40 (fPa_10 hc42 (ordPa_t phs50 hx57 hc47)) (by decide)) (by decide)]; done)
           | (refine ⟨?_, hb⟩; rw [gchkG_p hl (chkE_bad hP1 hx40 (fPa_9 hc42 (ordPa_z phs50) hc62) (by decide)) (by decide)]; done)
           | (refine ⟨?_, hb⟩; rw [gchkG_p hl (chkE_bad hP1 hx40 (fPa_9 hc42 (ordPa_t phs50 hx57 hc47) hc62) (by decide)) (by decide)]; done)
           | (refine ⟨?_, hb⟩; rw [gchkG_s hl hz1 (chkE_bad hP2 hx74 (fSl_8 hc76) (by decide)) (by decide)]; done)
           | (refine ⟨?_, hb⟩; rw [gchkG_s hl hz1 (chkE_bad hP2 hx74 (fSl_10 hc76 (ordSl_t phs84 hx91 hc81)) (by decide)) (by decide)]; done)
           | (refine ⟨?_, hb⟩; rw [gchkG_s hl hz1 (chkE_bad hP2 hx74 (fSl_8' hc76 (ordSl_z phs84) hc96) (by decide)) (by decide)]; done)
           | (refine ⟨?_, hb⟩; rw [gchkG_s hl hz1 (chkE_bad hP2 hx74 (fSl_8' hc76 (ordSl_t phs84 hx91 hc81) hc96) (by decide)) (by decide)]; done)
           | exact ⟨congrArg (fun v => Ending.returned (Value.int .i64 v)) (gchkG_u hl hz1 hz2 hz3 (usN_bad hP3 hx114 hc123)).symm, hb⟩
           | (refine ⟨?_, hb⟩; rw [gchkG_u hl hz1 hz2 hz3 (usN_ord hP3 hx114 hc123 (ordU_t phs130 hx135 hc140))]; done)
           | (refine ⟨?_, hb⟩; rw [gchkG_m hl hz1 hz2 hc105]; done)
           | (refine ⟨?_, hb⟩; rw [gchkG_u hl hz1 hz2 hz3 (hP3.trans (by rw [List.drop_eq_nil_of_le (by omega), usN]))]; done)
           | (refine ⟨?_, hb⟩; rw [gchkG_3 (by omega)]; done)
        ·refine wp_seq' fun K17 hK17 => ?_
         refine wp_regq (by kernel_rfl) (by kernel_rfl) ?_
         refine ql_r (r_move rfl) rfl ?_
         refine ql_r (r_gtr rfl rfl) rfl ?_
         refine ql_r (r_move rfl) rfl ?_
         refine ql_split (d := 50) rfl (fun hs50 => ?_) (fun hs50 => ?_)
         ·have phs50 := hs50; try simp only [decide_eq_true_eq, decide_eq_false_iff_not, Bool.not_eq_true', Bool.not_eq_false', Bool.not_true, Bool.not_false] at phs50
          refine ql_g rfl rfl hs50 ?_
          refine ql_r (r_fa (o' := 0) rfl fl42_0 rfl) rfl ?_
          refine ql_g rfl rfl hs50 ?_
          refine ql_r (r_ld (id := 4) rfl rfl rfl sc9) rfl ?_
          refine ql_g rfl rfl hs50 ?_
          refine ql_r (r_fa (o' := 0) rfl fl27_0 rfl) rfl ?_
          refine ql_g rfl rfl hs50 ?_
          refine ql_r (r_ld (id := 1) rfl rfl rfl sc22) rfl ?_
          refine ql_g rfl rfl hs50 ?_
          refine ql_r (r_move rfl) rfl ?_
          refine ql_g rfl rfl hs50 ?_
          refine ql_r (r_sub rfl rfl (by omega)) rfl ?_
          refine ql_g rfl rfl hs50 ?_
          refine ql_ixr hG.p rfl rfl sl22 (by omega) rfl fun x57 hx57 => ?_
          try simp only [Int.toNat_natCast] at hx57
          refine ql_g rfl rfl hs50 ?_
          refine ql_r (r_faw rfl (ix_some hG.p (by omega)) fl42_0) rfl ?_
          refine ql_g rfl rfl hs50 ?_
          refine ql_r (r_ldw rfl (fun w1 hb1 hs1 hB1 => Rd.loadsF (o := 0) hG.p sc9 hx57 hb1 rfl)) rfl ?_
          refine ql_g rfl rfl hs50 ?_
          refine ql_r (r_sleq rfl rfl) rfl ?_
          refine ql_r (r_pickT rfl hs50 rfl) rfl ?_
          refine ql_r (r_assign rfl) rfl ?_
          refine ql_nil (to_k0 (fun _ _ h => h) (hK17 _ _ _ _ _ ?_))
          clear hK17
          first | refine wp_condD rfl (fun hc47 => ?_) (fun hc47 => ?_) | refine wp_condN rfl (fun hc47 => ?_) (fun hc47 => ?_) | refine wp_condNB rfl (fun hc47 => ?_) (fun hc47 => ?_) | refine wp_cond' rfl (fun hc47 => ?_) (fun hc47 => ?_)
          ·refine wp_seq' fun K18 hK18 => ?_
           refine wp_reg ?_
           refine ol_r (r_assign rfl) rfl ?_
           refine ol_nil (to_k0 (fun _ _ h => h) (hK18 _ _ _ _ _ ?_))
           clear hK18
           refine hQ.ret (rvs1 (rv_t rfl)) (fun _ _ h => h) fun w hb hs hB hkd => ?_
           first
             | (refine ⟨?_, hb⟩; rw [gchkG_p hl (chkE_bad hP1 hx40 (fPa_8 hc42) (by decide)) (by decide)]; done)
             | (refine ⟨?_, hb⟩; rw [gchkG_p hl (chkE_bad hP1 hx40 (fPa_10 hc42 (ordPa_t phs50 hx57 hc47)) (by decide)) (by decide)]; done)
             | (refine ⟨?_, hb⟩; rw [gchkG_p hl (chkE_bad hP1 hx40 (fPa_9 hc42 (ordPa_z phs50) hc62) (by decide)) (by decide)]; done)
             | (refine ⟨?_, hb⟩; rw [gchkG_p hl (chkE_bad hP1 hx40 (fPa_9 hc42 (ordPa_t phs50 hx57 hc47) hc62) (by decide)) (by decide)]; done)
             | (refine ⟨?_, hb⟩; rw [gchkG_s hl hz1 (chkE_bad hP2 hx74 (fSl_8 hc76) (by decide)) (by decide)]; done)
             | (refine ⟨?_, hb⟩; rw [gchkG_s hl hz1 (chkE_bad hP2 hx74 (fSl_10 hc76 (ordSl_t phs84 hx91 hc81)) (by decide)) (by decide)]; done)
             | (refine ⟨?_, hb⟩; rw [gchkG_s hl hz1 (chkE_bad hP2 hx74 (fSl_8' hc76 (ordSl_z phs84) hc96) (by decide)) (by decide)]; done)
             | (refine ⟨?_, hb⟩; rw [gchkG_s hl hz1 (chkE_bad hP2 hx74 (fSl_8' hc76 (ordSl_t phs84 hx91 hc81) hc96) (by decide)) (by decide)]; done)
             | exact ⟨congrArg (fun v => Ending.returned (Value.int .i64 v)) (gchkG_u hl hz1 hz2 hz3 (usN_bad hP3 hx114 hc123)).symm, hb⟩
             | (refine ⟨?_, hb⟩; rw [gchkG_u hl hz1 hz2 hz3 (usN_ord hP3 hx114 hc123 (ordU_t phs130 hx135 hc140))]; done)
             | (refine ⟨?_, hb⟩; rw [gchkG_m hl hz1 hz2 hc105]; done)
             | (refine ⟨?_, hb⟩; rw [gchkG_u hl hz1 hz2 hz3 (hP3.trans (by rw [List.drop_eq_nil_of_le (by omega), usN]))]; done)
             | (refine ⟨?_, hb⟩; rw [gchkG_3 (by omega)]; done)
          ·refine wp_seq' fun K19 hK19 => ?_
           refine wp_reg ?_
           refine ol_r (r_fa (o' := 1) rfl fl42_1 rfl) rfl ?_
           refine ol_r (r_ld (id := 4) rfl rfl rfl sc3) rfl ?_
           refine ol_call rfl rfl cb58 rfl (fun w1 hb1 hs1 hB1 => Calls.mono (gear_in _ _ _ _) ?_)
           rintro e w2 ⟨rfl, hb2⟩
           refine After.below rfl hb1 hs1 hB1 hb2 ?_
           clear hb2 hB1 hs1 hb1 w2 w1
           refine ol_r (r_not rfl) rfl ?_
           refine ol_r (r_assign rfl) rfl ?_
           refine ol_nil (to_k0 (fun _ _ h => h) (hK19 _ _ _ _ _ ?_))
           clear hK19
           first | refine wp_condD rfl (fun hc62 => ?_) (fun hc62 => ?_) | refine wp_condN rfl (fun hc62 => ?_) (fun hc62 => ?_) | refine wp_condNB rfl (fun hc62 => ?_) (fun hc62 => ?_) | refine wp_cond' rfl (fun hc62 => ?_) (fun hc62 => ?_)
           ·refine wp_seq' fun K20 hK20 => ?_
            refine wp_reg ?_
            refine ol_r (r_assign rfl) rfl ?_
            refine ol_nil (to_k0 (fun _ _ h => h) (hK20 _ _ _ _ _ ?_))
            clear hK20
            refine hQ.ret (rvs1 (rv_t rfl)) (fun _ _ h => h) fun w hb hs hB hkd => ?_
            first
              | (refine ⟨?_, hb⟩; rw [gchkG_p hl (chkE_bad hP1 hx40 (fPa_8 hc42) (by decide)) (by decide)]; done)
              | (refine ⟨?_, hb⟩; rw [gchkG_p hl (chkE_bad hP1 hx40 (fPa_10 hc42 (ordPa_t phs50 hx57 hc47)) (by decide)) (by decide)]; done)
              | (refine ⟨?_, hb⟩; rw [gchkG_p hl (chkE_bad hP1 hx40 (fPa_9 hc42 (ordPa_z phs50) hc62) (by decide)) (by decide)]; done)
              | (refine ⟨?_, hb⟩; rw [gchkG_p hl (chkE_bad hP1 hx40 (fPa_9 hc42 (ordPa_t phs50 hx57 hc47) hc62) (by decide)) (by decide)]; done)
              | (refine ⟨?_, hb⟩; rw [gchkG_s hl hz1 (chkE_bad hP2 hx74 (fSl_8 hc76) (by decide)) (by decide)]; done)
              | (refine ⟨?_, hb⟩; rw [gchkG_s hl hz1 (chkE_bad hP2 hx74 (fSl_10 hc76 (ordSl_t phs84 hx91 hc81)) (by decide)) (by decide)]; done)
              | (refine ⟨?_, hb⟩; rw [gchkG_s hl hz1 (chkE_bad hP2 hx74 (fSl_8' hc76 (ordSl_z phs84) hc96) (by decide)) (by decide)]; done)
              | (refine ⟨?_, hb⟩; rw [gchkG_s hl hz1 (chkE_bad hP2 hx74 (fSl_8' hc76 (ordSl_t phs84 hx91 hc81) hc96) (by decide)) (by decide)]; done)
              | exact ⟨congrArg (fun v => Ending.returned (Value.int .i64 v)) (gchkG_u hl hz1 hz2 hz3 (usN_bad hP3 hx114 hc123)).symm, hb⟩
              | (refine ⟨?_, hb⟩; rw [gchkG_u hl hz1 hz2 hz3 (usN_ord hP3 hx114 hc123 (ordU_t phs130 hx135 hc140))]; done)
              | (refine ⟨?_, hb⟩; rw [gchkG_m hl hz1 hz2 hc105]; done)
              | (refine ⟨?_, hb⟩; rw [gchkG_u hl hz1 hz2 hz3 (hP3.trans (by rw [List.drop_eq_nil_of_le (by omega), usN]))]; done)
              | (refine ⟨?_, hb⟩; rw [gchkG_3 (by omega)]; done)
           ·refine wp_skip' (to_k0 (fun _ _ h => h) (hK13 _ _ _ _ _ ?_))
            clear hK13
            refine wp_reg ?_
            refine ol_r (r_add rfl rfl (by omega)) rfl ?_
            refine ol_r (r_move rfl) rfl ?_
            refine ol_nil (to_k0 (fun _ _ h => h) (hK10 (k1 + 1) _ _ ?_ ?_ (sub_cons rfl sub_nil) (sub_cons rfl (sub_cons rfl (sub_cons rfl sub_nil))) (by exact subH_nil) (subH_same rfl subH_nil)))
            ·try dsimp only
             first
             | exact ⟨by omega, chkE_next hP1 hx40 (fPa_0 hc42 (ordPa_z phs50) hc62)⟩
             | exact ⟨by omega, chkE_next hP1 hx40 (fPa_0 hc42 (ordPa_t phs50 hx57 hc47) hc62)⟩
            ·try dsimp only
             omega
         ·have phs50 := hs50; try simp only [decide_eq_true_eq, decide_eq_false_iff_not, Bool.not_eq_true', Bool.not_eq_false', Bool.not_true, Bool.not_false] at phs50
          refine ql_s rfl rfl hs50 rfl ?_
          refine ql_s rfl rfl hs50 rfl ?_
          refine ql_s rfl rfl hs50 rfl ?_
          refine ql_s rfl rfl hs50 rfl ?_
          refine ql_s rfl rfl hs50 rfl ?_
          refine ql_s rfl rfl hs50 rfl ?_
          refine ql_s rfl rfl hs50 rfl ?_
          refine ql_s rfl rfl hs50 rfl ?_
          refine ql_s rfl rfl hs50 rfl ?_
          refine ql_s rfl rfl hs50 rfl ?_
          refine ql_r (r_pickF rfl hs50 rfl) rfl ?_
          refine ql_r (r_assign rfl) rfl ?_
          refine ql_nil (to_k0 (fun _ _ h => h) (hK17 _ _ _ _ _ ?_))
          clear hK17
          refine wp_condF rfl ?_
          refine wp_seq' fun K21 hK21 => ?_
          refine wp_reg ?_
          refine ol_r (r_fa (o' := 1) rfl fl42_1 rfl) rfl ?_
          refine ol_r (r_ld (id := 4) rfl rfl rfl sc3) rfl ?_
          refine ol_call rfl rfl cb58 rfl (fun w1 hb1 hs1 hB1 => Calls.mono (gear_in _ _ _ _) ?_)
          rintro e w2 ⟨rfl, hb2⟩
          refine After.below rfl hb1 hs1 hB1 hb2 ?_
          clear hb2 hB1 hs1 hb1 w2 w1
          refine ol_r (r_not rfl) rfl ?_
          refine ol_r (r_assign rfl) rfl ?_
          refine ol_nil (to_k0 (fun _ _ h => h) (hK21 _ _ _ _ _ ?_))
          clear hK21
          first | refine wp_condD rfl (fun hc62 => ?_) (fun hc62 => ?_) | refine wp_condN rfl (fun hc62 => ?_) (fun hc62 => ?_) | refine wp_condNB rfl (fun hc62 => ?_) (fun hc62 => ?_) | refine wp_cond' rfl (fun hc62 => ?_) (fun hc62 => ?_)
          ·refine wp_seq' fun K22 hK22 => ?_
           refine wp_reg ?_
           refine ol_r (r_assign rfl) rfl ?_
           refine ol_nil (to_k0 (fun _ _ h => h) (hK22 _ _ _ _ _ ?_))
           clear hK22
           refine hQ.ret (rvs1 (rv_t rfl)) (fun _ _ h => h) fun w hb hs hB hkd => ?_
           first
             | (refine ⟨?_, hb⟩; rw [gchkG_p hl (chkE_bad hP1 hx40 (fPa_8 hc42) (by decide)) (by decide)]; done)
             | (refine ⟨?_, hb⟩; rw [gchkG_p hl (chkE_bad hP1 hx40 (fPa_10 hc42 (ordPa_t phs50 hx57 hc47)) (by decide)) (by decide)]; done)
             | (refine ⟨?_, hb⟩; rw [gchkG_p hl (chkE_bad hP1 hx40 (fPa_9 hc42 (ordPa_z phs50) hc62) (by decide)) (by decide)]; done)
             | (refine ⟨?_, hb⟩; rw [gchkG_p hl (chkE_bad hP1 hx40 (fPa_9 hc42 (ordPa_t phs50 hx57 hc47) hc62) (by decide)) (by decide)]; done)
             | (refine ⟨?_, hb⟩; rw [gchkG_s hl hz1 (chkE_bad hP2 hx74 (fSl_8 hc76) (by decide)) (by decide)]; done)
             | (refine ⟨?_, hb⟩; rw [gchkG_s hl hz1 (chkE_bad hP2 hx74 (fSl_10 hc76 (ordSl_t phs84 hx91 hc81)) (by decide)) (by decide)]; done)
             | (refine ⟨?_, hb⟩; rw [gchkG_s hl hz1 (chkE_bad hP2 hx74 (fSl_8' hc76 (ordSl_z phs84) hc96) (by decide)) (by decide)]; done)
             | (refine ⟨?_, hb⟩; rw [gchkG_s hl hz1 (chkE_bad hP2 hx74 (fSl_8' hc76 (ordSl_t phs84 hx91 hc81) hc96) (by decide)) (by decide)]; done)
             | exact ⟨congrArg (fun v => Ending.returned (Value.int .i64 v)) (gchkG_u hl hz1 hz2 hz3 (usN_bad hP3 hx114 hc123)).symm, hb⟩
             | (refine ⟨?_, hb⟩; rw [gchkG_u hl hz1 hz2 hz3 (usN_ord hP3 hx114 hc123 (ordU_t phs130 hx135 hc140))]; done)
             | (refine ⟨?_, hb⟩; rw [gchkG_m hl hz1 hz2 hc105]; done)
             | (refine ⟨?_, hb⟩; rw [gchkG_u hl hz1 hz2 hz3 (hP3.trans (by rw [List.drop_eq_nil_of_le (by omega), usN]))]; done)
             | (refine ⟨?_, hb⟩; rw [gchkG_3 (by omega)]; done)
          ·refine wp_skip' (to_k0 (fun _ _ h => h) (hK13 _ _ _ _ _ ?_))
           clear hK13
           refine wp_reg ?_
           refine ol_r (r_add rfl rfl (by omega)) rfl ?_
           refine ol_r (r_move rfl) rfl ?_
           refine ol_nil (to_k0 (fun _ _ h => h) (hK10 (k1 + 1) _ _ ?_ ?_ (sub_cons rfl sub_nil) (sub_cons rfl (sub_cons rfl (sub_cons rfl sub_nil))) (by exact subH_nil) (subH_same rfl subH_nil)))
           ·try dsimp only
            first
            | exact ⟨by omega, chkE_next hP1 hx40 (fPa_0 hc42 (ordPa_z phs50) hc62)⟩
            | exact ⟨by omega, chkE_next hP1 hx40 (fPa_0 hc42 (ordPa_t phs50 hx57 hc47) hc62)⟩
           ·try dsimp only
            omega
       ·refine wp_exit' (to_k0 (fun _ _ h => h) (hK8 _ _ _ _ _ ?_))
        clear hK8
        refine wp_seq' fun K23 hK23 => ?_
        refine wp_seq' fun K24 hK24 => ?_
        refine wp_reg ?_
        have hz1 := chkE_end hP1 (by omega)
        refine ol_r (r_fa (o' := 1) rfl fl27_1 rfl) rfl ?_
        refine ol_r (r_ld (id := 1) rfl rfl rfl sc23) rfl ?_
        refine ol_r (r_len rfl sl23) rfl ?_
        refine ol_r (r_move rfl) rfl ?_
        refine ol_nil (to_k0 (fun _ _ h => h) (hK24 _ _ _ _ _ ?_))
        clear hK24
        refine wp_block' ?_
        apply wp_loopM (σ := Nat) (fun s => s ≤ G.sn ∧ chkE fSl none G.ss = chkE fSl (ahead G.ss s) (G.ss.drop s)) (fun s => [(71, .int .i64 s)]) [(1, _), (69, _), (70, _)] (fun s => []) [(1, _)] (fun s => G.sn - s) (0)
        ·try dsimp only
         exact ⟨Nat.zero_le _, chkE_start _ _⟩
        ·exact (sub_cons rfl sub_nil)
        ·exact (sub_cons rfl (sub_cons rfl (sub_cons rfl sub_nil)))
        ·exact subH_nil
        ·exact (subH_same rfl subH_nil)
        ·rintro k2 ⟨hk2, hP2⟩
         intro K25 hK25
         refine wp_seq' fun K26 hK26 => ?_
         refine wp_reg ?_
         refine ol_r (r_lss rfl rfl) rfl ?_
         refine ol_nil (to_k0 (fun _ _ h => h) (hK26 _ _ _ _ _ ?_))
         clear hK26
         refine wp_seq' fun K27 hK27 => ?_
         first | refine wp_condD rfl (fun hc72 => ?_) (fun hc72 => ?_) | refine wp_condN rfl (fun hc72 => ?_) (fun hc72 => ?_) | refine wp_condNB rfl (fun hc72 => ?_) (fun hc72 => ?_) | refine wp_cond' rfl (fun hc72 => ?_) (fun hc72 => ?_)
         ·refine wp_skip' (to_k0 (fun _ _ h => h) (hK27 _ _ _ _ _ ?_))
          clear hK27
          refine wp_seq' fun K28 hK28 => ?_
          refine wp_block' ?_
          refine wp_seq' fun K29 hK29 => ?_
          refine wp_reg ?_
          refine ol_r (r_move rfl) rfl ?_
          refine ol_ixr hG.s rfl rfl sl23 (by omega) rfl fun x74 hx74 => ?_
          try simp only [Int.toNat_natCast] at hx74
          refine ol_r (r_ldw rfl (fun w1 hb1 hs1 hB1 => Rd.loads hG.s ty34 hx74 hb1)) rfl ?_
          refine ol_alloc 6 z34 rfl fun b6 => ?_
          refine ol_r (r_assign rfl) rfl ?_
          refine ol_store (id := 6) rfl rfl rfl rfl sz34 rfl rfl (by first | decide | exact Nat.zero_lt_succ _ | simp) ?_
          refine ol_nil (to_k0 (fun _ _ h => h) (hK29 _ _ _ _ _ ?_))
          clear hK29
          refine wp_block' ?_
          refine wp_seq' fun K30 hK30 => ?_
          refine wp_reg ?_
          refine ol_r (r_fa (o' := 0) rfl fl34_0 rfl) rfl ?_
          refine ol_r (r_ld (id := 6) rfl rfl rfl sc9) rfl ?_
          refine ol_call rfl rfl cb32 rfl (fun w1 hb1 hs1 hB1 => Calls.mono (quant_IsName x74.name _ (hG.zs x74 (List.mem_of_getElem? hx74)).1) ?_)
          rintro e w2 ⟨rfl, hb2⟩
          refine After.below rfl hb1 hs1 hB1 hb2 ?_
          clear hb2 hB1 hs1 hb1 w2 w1
          refine ol_r (r_not rfl) rfl ?_
          refine ol_r (r_assign rfl) rfl ?_
          refine ol_nil (to_k0 (fun _ _ h => h) (hK30 _ _ _ _ _ ?_))
          clear hK30
          first | refine wp_condD rfl (fun hc76 => ?_) (fun hc76 => ?_) | refine wp_condN rfl (fun hc76 => ?_) (fun hc76 => ?_) | refine wp_condNB rfl (fun hc76 => ?_) (fun hc76 => ?_) | refine wp_cond' rfl (fun hc76 => ?_) (fun hc76 => ?_)
          ·refine wp_seq' fun K31 hK31 => ?_
           refine wp_reg ?_
           refine ol_r (r_assign rfl) rfl ?_
           refine ol_nil (to_k0 (fun _ _ h => h) (hK31 _ _ _ _ _ ?_))
           clear hK31
           refine hQ.ret (rvs1 (rv_t rfl)) (fun _ _ h => h) fun w hb hs hB hkd => ?_
           first
             | (refine ⟨?_, hb⟩; rw [gchkG_p hl (chkE_bad hP1 hx40 (fPa_8 hc42) (by decide)) (by decide)]; done)
             | (refine ⟨?_, hb⟩; rw [gchkG_p hl (chkE_bad hP1 hx40 (fPa_10 hc42 (ordPa_t phs50 hx57 hc47)) (by decide)) (by decide)]; done)
             | (refine ⟨?_, hb⟩; rw [gchkG_p hl (chkE_bad hP1 hx40 (fPa_9 hc42 (ordPa_z phs50) hc62) (by decide)) (by decide)]; done)
             | (refine ⟨?_, hb⟩; rw [gchkG_p hl (chkE_bad hP1 hx40 (fPa_9 hc42 (ordPa_t phs50 hx57 hc47) hc62) (by decide)) (by decide)]; done)
             | (refine ⟨?_, hb⟩; rw [gchkG_s hl hz1 (chkE_bad hP2 hx74 (fSl_8 hc76) (by decide)) (by decide)]; done)
             | (refine ⟨?_, hb⟩; rw [gchkG_s hl hz1 (chkE_bad hP2 hx74 (fSl_10 hc76 (ordSl_t phs84 hx91 hc81)) (by decide)) (by decide)]; done)
             | (refine ⟨?_, hb⟩; rw [gchkG_s hl hz1 (chkE_bad hP2 hx74 (fSl_8' hc76 (ordSl_z phs84) hc96) (by decide)) (by decide)]; done)
             | (refine ⟨?_, hb⟩; rw [gchkG_s hl hz1 (chkE_bad hP2 hx74 (fSl_8' hc76 (ordSl_t phs84 hx91 hc81) hc96) (by decide)) (by decide)]; done)
             | exact ⟨congrArg (fun v => Ending.returned (Value.int .i64 v)) (gchkG_u hl hz1 hz2 hz3 (usN_bad hP3 hx114 hc123)).symm, hb⟩
             | (refine ⟨?_, hb⟩; rw [gchkG_u hl hz1 hz2 hz3 (usN_ord hP3 hx114 hc123 (ordU_t phs130 hx135 hc140))]; done)
             | (refine ⟨?_, hb⟩; rw [gchkG_m hl hz1 hz2 hc105]; done)
             | (refine ⟨?_, hb⟩; rw [gchkG_u hl hz1 hz2 hz3 (hP3.trans (by rw [List.drop_eq_nil_of_le (by omega), usN]))]; done)
             | (refine ⟨?_, hb⟩; rw [gchkG_3 (by omega)]; done)
          ·refine wp_seq' fun K32 hK32 => ?_
           refine wp_regq (by kernel_rfl) (by kernel_rfl) ?_
           refine ql_r (r_move rfl) rfl ?_
           refine ql_r (r_gtr rfl rfl) rfl ?_
           refine ql_r (r_move rfl) rfl ?_
           refine ql_split (d := 84) rfl (fun hs84 => ?_) (fun hs84 => ?_)
           ·have phs84 := hs84; try simp only [decide_eq_true_eq, decide_eq_false_iff_not, Bool.not_eq_true', Bool.not_eq_false', Bool.not_true, Bool.not_false] at phs84
            refine ql_g rfl rfl hs84 ?_
            refine ql_r (r_fa (o' := 0) rfl fl34_0 rfl) rfl ?_
            refine ql_g rfl rfl hs84 ?_
            refine ql_r (r_ld (id := 6) rfl rfl rfl sc9) rfl ?_
            refine ql_g rfl rfl hs84 ?_
            refine ql_r (r_fa (o' := 1) rfl fl27_1 rfl) rfl ?_
            refine ql_g rfl rfl hs84 ?_
            refine ql_r (r_ld (id := 1) rfl rfl rfl sc23) rfl ?_
            refine ql_g rfl rfl hs84 ?_
            refine ql_r (r_move rfl) rfl ?_
            refine ql_g rfl rfl hs84 ?_
            refine ql_r (r_sub rfl rfl (by omega)) rfl ?_
            refine ql_g rfl rfl hs84 ?_
            refine ql_ixr hG.s rfl rfl sl23 (by omega) rfl fun x91 hx91 => ?_
            try simp only [Int.toNat_natCast] at hx91
            refine ql_g rfl rfl hs84 ?_
            refine ql_r (r_faw rfl (ix_some hG.s (by omega)) fl34_0) rfl ?_
            refine ql_g rfl rfl hs84 ?_
            refine ql_r (r_ldw rfl (fun w1 hb1 hs1 hB1 => Rd.loadsF (o := 0) hG.s sc9 hx91 hb1 rfl)) rfl ?_
            refine ql_g rfl rfl hs84 ?_
            refine ql_r (r_sleq rfl rfl) rfl ?_
            refine ql_r (r_pickT rfl hs84 rfl) rfl ?_
            refine ql_r (r_assign rfl) rfl ?_
            refine ql_nil (to_k0 (fun _ _ h => h) (hK32 _ _ _ _ _ ?_))
            clear hK32
            first | refine wp_condD rfl (fun hc81 => ?_) (fun hc81 => ?_) | refine wp_condN rfl (fun hc81 => ?_) (fun hc81 => ?_) | refine wp_condNB rfl (fun hc81 => ?_) (fun hc81 => ?_) | refine wp_cond' rfl (fun hc81 => ?_) (fun hc81 => ?_)
            ·refine wp_seq' fun K33 hK33 => ?_
             refine wp_reg ?_
             refine ol_r (r_assign rfl) rfl ?_
             refine ol_nil (to_k0 (fun _ _ h => h) (hK33 _ _ _ _ _ ?_))
             clear hK33
             refine hQ.ret (rvs1 (rv_t rfl)) (fun _ _ h => h) fun w hb hs hB hkd => ?_
             first
               | (refine ⟨?_, hb⟩; rw [gchkG_p hl (chkE_bad hP1 hx40 (fPa_8 hc42) (by decide)) (by decide)]; done)
               | (refine ⟨?_, hb⟩; rw [gchkG_p hl (chkE_bad hP1 hx40 (fPa_10 hc42 (ordPa_t phs50 hx57 hc47)) (by decide)) (by decide)]; done)
               | (refine ⟨?_, hb⟩; rw [gchkG_p hl (chkE_bad hP1 hx40 (fPa_9 hc42 (ordPa_z phs50) hc62) (by decide)) (by decide)]; done)
               | (refine ⟨?_, hb⟩; rw [gchkG_p hl (chkE_bad hP1 hx40 (fPa_9 hc42 (ordPa_t phs50 hx57 hc47) hc62) (by decide)) (by decide)]; done)
               | (refine ⟨?_, hb⟩; rw [gchkG_s hl hz1 (chkE_bad hP2 hx74 (fSl_8 hc76) (by decide)) (by decide)]; done)
               | (refine ⟨?_, hb⟩; rw [gchkG_s hl hz1 (chkE_bad hP2 hx74 (fSl_10 hc76 (ordSl_t phs84 hx91 hc81)) (by decide)) (by decide)]; done)
               | (refine ⟨?_, hb⟩; rw [gchkG_s hl hz1 (chkE_bad hP2 hx74 (fSl_8' hc76 (ordSl_z phs84) hc96) (by decide)) (by decide)]; done)
               | (refine ⟨?_, hb⟩; rw [gchkG_s hl hz1 (chkE_bad hP2 hx74 (fSl_8' hc76 (ordSl_t phs84 hx91 hc81) hc96) (by decide)) (by decide)]; done)
               | exact ⟨congrArg (fun v => Ending.returned (Value.int .i64 v)) (gchkG_u hl hz1 hz2 hz3 (usN_bad hP3 hx114 hc123)).symm, hb⟩
               | (refine ⟨?_, hb⟩; rw [gchkG_u hl hz1 hz2 hz3 (usN_ord hP3 hx114 hc123 (ordU_t phs130 hx135 hc140))]; done)
               | (refine ⟨?_, hb⟩; rw [gchkG_m hl hz1 hz2 hc105]; done)
               | (refine ⟨?_, hb⟩; rw [gchkG_u hl hz1 hz2 hz3 (hP3.trans (by rw [List.drop_eq_nil_of_le (by omega), usN]))]; done)
               | (refine ⟨?_, hb⟩; rw [gchkG_3 (by omega)]; done)
            ·refine wp_seq' fun K34 hK34 => ?_
             refine wp_reg ?_
             refine ol_r (r_fa (o' := 1) rfl fl34_1 rfl) rfl ?_
             refine ol_r (r_ld (id := 6) rfl rfl rfl sc9) rfl ?_
             refine ol_call rfl rfl cb32 rfl (fun w1 hb1 hs1 hB1 => Calls.mono (quant_IsName x74.rig _ (hG.zs x74 (List.mem_of_getElem? hx74)).2) ?_)
             rintro e w2 ⟨rfl, hb2⟩
             refine After.below rfl hb1 hs1 hB1 hb2 ?_
             clear hb2 hB1 hs1 hb1 w2 w1
             refine ol_r (r_not rfl) rfl ?_
             refine ol_r (r_assign rfl) rfl ?_
             refine ol_nil (to_k0 (fun _ _ h => h) (hK34 _ _ _ _ _ ?_))
             clear hK34
             first | refine wp_condD rfl (fun hc96 => ?_) (fun hc96 => ?_) | refine wp_condN rfl (fun hc96 => ?_) (fun hc96 => ?_) | refine wp_condNB rfl (fun hc96 => ?_) (fun hc96 => ?_) | refine wp_cond' rfl (fun hc96 => ?_) (fun hc96 => ?_)
             ·refine wp_seq' fun K35 hK35 => ?_
              refine wp_reg ?_
              refine ol_r (r_assign rfl) rfl ?_
              refine ol_nil (to_k0 (fun _ _ h => h) (hK35 _ _ _ _ _ ?_))
              clear hK35
              refine hQ.ret (rvs1 (rv_t rfl)) (fun _ _ h => h) fun w hb hs hB hkd => ?_
              first
                | (refine ⟨?_, hb⟩; rw [gchkG_p hl (chkE_bad hP1 hx40 (fPa_8 hc42) (by decide)) (by decide)]; done)
                | (refine ⟨?_, hb⟩; rw [gchkG_p hl (chkE_bad hP1 hx40 (fPa_10 hc42 (ordPa_t phs50 hx57 hc47)) (by decide)) (by decide)]; done)
                | (refine ⟨?_, hb⟩; rw [gchkG_p hl (chkE_bad hP1 hx40 (fPa_9 hc42 (ordPa_z phs50) hc62) (by decide)) (by decide)]; done)
                | (refine ⟨?_, hb⟩; rw [gchkG_p hl (chkE_bad hP1 hx40 (fPa_9 hc42 (ordPa_t phs50 hx57 hc47) hc62) (by decide)) (by decide)]; done)
                | (refine ⟨?_, hb⟩; rw [gchkG_s hl hz1 (chkE_bad hP2 hx74 (fSl_8 hc76) (by decide)) (by decide)]; done)
                | (refine ⟨?_, hb⟩; rw [gchkG_s hl hz1 (chkE_bad hP2 hx74 (fSl_10 hc76 (ordSl_t phs84 hx91 hc81)) (by decide)) (by decide)]; done)
                | (refine ⟨?_, hb⟩; rw [gchkG_s hl hz1 (chkE_bad hP2 hx74 (fSl_8' hc76 (ordSl_z phs84) hc96) (by decide)) (by decide)]; done)
                | (refine ⟨?_, hb⟩; rw [gchkG_s hl hz1 (chkE_bad hP2 hx74 (fSl_8' hc76 (ordSl_t phs84 hx91 hc81) hc96) (by decide)) (by decide)]; done)
                | exact ⟨congrArg (fun v => Ending.returned (Value.int .i64 v)) (gchkG_u hl hz1 hz2 hz3 (usN_bad hP3 hx114 hc123)).symm, hb⟩
                | (refine ⟨?_, hb⟩; rw [gchkG_u hl hz1 hz2 hz3 (usN_ord hP3 hx114 hc123 (ordU_t phs130 hx135 hc140))]; done)
                | (refine ⟨?_, hb⟩; rw [gchkG_m hl hz1 hz2 hc105]; done)
                | (refine ⟨?_, hb⟩; rw [gchkG_u hl hz1 hz2 hz3 (hP3.trans (by rw [List.drop_eq_nil_of_le (by omega), usN]))]; done)
                | (refine ⟨?_, hb⟩; rw [gchkG_3 (by omega)]; done)
             ·refine wp_skip' (to_k0 (fun _ _ h => h) (hK28 _ _ _ _ _ ?_))
              clear hK28
              refine wp_reg ?_
              refine ol_r (r_add rfl rfl (by omega)) rfl ?_
              refine ol_r (r_move rfl) rfl ?_
              refine ol_nil (to_k0 (fun _ _ h => h) (hK25 (k2 + 1) _ _ ?_ ?_ (sub_cons rfl sub_nil) (sub_cons rfl (sub_cons rfl (sub_cons rfl sub_nil))) (by exact subH_nil) (subH_same rfl subH_nil)))
              ·try dsimp only
               first
               | exact ⟨by omega, chkE_next hP2 hx74 (fSl_0 hc76 (ordSl_z phs84) hc96)⟩
               | exact ⟨by omega, chkE_next hP2 hx74 (fSl_0 hc76 (ordSl_t phs84 hx91 hc81) hc96)⟩
              ·try dsimp only
               omega
           ·have phs84 := hs84; try simp only [decide_eq_true_eq, decide_eq_false_iff_not, Bool.not_eq_true', Bool.not_eq_false', Bool.not_true, Bool.not_false] at phs84
            refine ql_s rfl rfl hs84 rfl ?_
            refine ql_s rfl rfl hs84 rfl ?_
            refine ql_s rfl rfl hs84 rfl ?_
            refine ql_s rfl rfl hs84 rfl ?_
            refine ql_s rfl rfl hs84 rfl ?_
            refine ql_s rfl rfl hs84 rfl ?_
            refine ql_s rfl rfl hs84 rfl ?_
            refine ql_s rfl rfl hs84 rfl ?_
            refine ql_s rfl rfl hs84 rfl ?_
            refine ql_s rfl rfl hs84 rfl ?_
            refine ql_r (r_pickF rfl hs84 rfl) rfl ?_
            refine ql_r (r_assign rfl) rfl ?_
            refine ql_nil (to_k0 (fun _ _ h => h) (hK32 _ _ _ _ _ ?_))
            clear hK32
            refine wp_condF rfl ?_
            refine wp_seq' fun K36 hK36 => ?_
            refine wp_reg ?_
            refine ol_r (r_fa (o' := 1) rfl fl34_1 rfl) rfl ?_
            refine ol_r (r_ld (id := 6) rfl rfl rfl sc9) rfl ?_
            refine ol_call rfl rfl cb32 rfl (fun w1 hb1 hs1 hB1 => Calls.mono (quant_IsName x74.rig _ (hG.zs x74 (List.mem_of_getElem? hx74)).2) ?_)
            rintro e w2 ⟨rfl, hb2⟩
            refine After.below rfl hb1 hs1 hB1 hb2 ?_
            clear hb2 hB1 hs1 hb1 w2 w1
            refine ol_r (r_not rfl) rfl ?_
            refine ol_r (r_assign rfl) rfl ?_
            refine ol_nil (to_k0 (fun _ _ h => h) (hK36 _ _ _ _ _ ?_))
            clear hK36
            first | refine wp_condD rfl (fun hc96 => ?_) (fun hc96 => ?_) | refine wp_condN rfl (fun hc96 => ?_) (fun hc96 => ?_) | refine wp_condNB rfl (fun hc96 => ?_) (fun hc96 => ?_) | refine wp_cond' rfl (fun hc96 => ?_) (fun hc96 => ?_)
            ·refine wp_seq' fun K37 hK37 => ?_
             refine wp_reg ?_
             refine ol_r (r_assign rfl) rfl ?_
             refine ol_nil (to_k0 (fun _ _ h => h) (hK37 _ _ _ _ _ ?_))
             clear hK37
             refine hQ.ret (rvs1 (rv_t rfl)) (fun _ _ h => h) fun w hb hs hB hkd => ?_
             first
               | (refine ⟨?_, hb⟩; rw [gchkG_p hl (chkE_bad hP1 hx40 (fPa_8 hc42) (by decide)) (by decide)]; done)
               | (refine ⟨?_, hb⟩; rw [gchkG_p hl (chkE_bad hP1 hx40 (fPa_10 hc42 (ordPa_t phs50 hx57 hc47)) (by decide)) (by decide)]; done)
               | (refine ⟨?_, hb⟩; rw [gchkG_p hl (chkE_bad hP1 hx40 (fPa_9 hc42 (ordPa_z phs50) hc62) (by decide)) (by decide)]; done)
               | (refine ⟨?_, hb⟩; rw [gchkG_p hl (chkE_bad hP1 hx40 (fPa_9 hc42 (ordPa_t phs50 hx57 hc47) hc62) (by decide)) (by decide)]; done)
               | (refine ⟨?_, hb⟩; rw [gchkG_s hl hz1 (chkE_bad hP2 hx74 (fSl_8 hc76) (by decide)) (by decide)]; done)
               | (refine ⟨?_, hb⟩; rw [gchkG_s hl hz1 (chkE_bad hP2 hx74 (fSl_10 hc76 (ordSl_t phs84 hx91 hc81)) (by decide)) (by decide)]; done)
               | (refine ⟨?_, hb⟩; rw [gchkG_s hl hz1 (chkE_bad hP2 hx74 (fSl_8' hc76 (ordSl_z phs84) hc96) (by decide)) (by decide)]; done)
               | (refine ⟨?_, hb⟩; rw [gchkG_s hl hz1 (chkE_bad hP2 hx74 (fSl_8' hc76 (ordSl_t phs84 hx91 hc81) hc96) (by decide)) (by decide)]; done)
               | exact ⟨congrArg (fun v => Ending.returned (Value.int .i64 v)) (gchkG_u hl hz1 hz2 hz3 (usN_bad hP3 hx114 hc123)).symm, hb⟩
               | (refine ⟨?_, hb⟩; rw [gchkG_u hl hz1 hz2 hz3 (usN_ord hP3 hx114 hc123 (ordU_t phs130 hx135 hc140))]; done)
               | (refine ⟨?_, hb⟩; rw [gchkG_m hl hz1 hz2 hc105]; done)
               | (refine ⟨?_, hb⟩; rw [gchkG_u hl hz1 hz2 hz3 (hP3.trans (by rw [List.drop_eq_nil_of_le (by omega), usN]))]; done)
               | (refine ⟨?_, hb⟩; rw [gchkG_3 (by omega)]; done)
            ·refine wp_skip' (to_k0 (fun _ _ h => h) (hK28 _ _ _ _ _ ?_))
             clear hK28
             refine wp_reg ?_
             refine ol_r (r_add rfl rfl (by omega)) rfl ?_
             refine ol_r (r_move rfl) rfl ?_
             refine ol_nil (to_k0 (fun _ _ h => h) (hK25 (k2 + 1) _ _ ?_ ?_ (sub_cons rfl sub_nil) (sub_cons rfl (sub_cons rfl (sub_cons rfl sub_nil))) (by exact subH_nil) (subH_same rfl subH_nil)))
             ·try dsimp only
              first
              | exact ⟨by omega, chkE_next hP2 hx74 (fSl_0 hc76 (ordSl_z phs84) hc96)⟩
              | exact ⟨by omega, chkE_next hP2 hx74 (fSl_0 hc76 (ordSl_t phs84 hx91 hc81) hc96)⟩
             ·try dsimp only
              omega
         ·refine wp_exit' (to_k0 (fun _ _ h => h) (hK23 _ _ _ _ _ ?_))
          clear hK23
          refine wp_seq' fun K38 hK38 => ?_
          refine wp_seq' fun K39 hK39 => ?_
          refine wp_reg ?_
          have hz2 := chkE_end hP2 (by omega)
          refine ol_r (r_lda (id := 1) (n := 4) rfl rfl rfl ag27) rfl ?_
          refine ol_call rfl rfl cb59 rfl (fun w1 hb1 hs1 hB1 => Calls.mono (gear_checkMounts G _ (hG.at hb1 hB1)) ?_)
          rintro e w2 ⟨rfl, hb2⟩
          refine After.below rfl hb1 hs1 hB1 hb2 ?_
          clear hb2 hB1 hs1 hb1 w2 w1
          refine ol_r (r_assign rfl) rfl ?_
          refine ol_nil (to_k0 (fun _ _ h => h) (hK39 _ _ _ _ _ ?_))
          clear hK39
          refine wp_seq' fun K40 hK40 => ?_
          refine wp_reg ?_
          refine ol_r (r_move rfl) rfl ?_
          refine ol_r (r_neq rfl rfl) rfl ?_
          refine ol_nil (to_k0 (fun _ _ h => h) (hK40 _ _ _ _ _ ?_))
          clear hK40
          first | refine wp_condD rfl (fun hc105 => ?_) (fun hc105 => ?_) | refine wp_condN rfl (fun hc105 => ?_) (fun hc105 => ?_) | refine wp_condNB rfl (fun hc105 => ?_) (fun hc105 => ?_) | refine wp_cond' rfl (fun hc105 => ?_) (fun hc105 => ?_)
          ·refine wp_seq' fun K41 hK41 => ?_
           refine wp_reg ?_
           refine ol_r (r_move rfl) rfl ?_
           refine ol_r (r_assign rfl) rfl ?_
           refine ol_nil (to_k0 (fun _ _ h => h) (hK41 _ _ _ _ _ ?_))
           clear hK41
           refine hQ.ret (rvs1 (rv_t rfl)) (fun _ _ h => h) fun w hb hs hB hkd => ?_
           first
             | (refine ⟨?_, hb⟩; rw [gchkG_p hl (chkE_bad hP1 hx40 (fPa_8 hc42) (by decide)) (by decide)]; done)
             | (refine ⟨?_, hb⟩; rw [gchkG_p hl (chkE_bad hP1 hx40 (fPa_10 hc42 (ordPa_t phs50 hx57 hc47)) (by decide)) (by decide)]; done)
             | (refine ⟨?_, hb⟩; rw [gchkG_p hl (chkE_bad hP1 hx40 (fPa_9 hc42 (ordPa_z phs50) hc62) (by decide)) (by decide)]; done)
             | (refine ⟨?_, hb⟩; rw [gchkG_p hl (chkE_bad hP1 hx40 (fPa_9 hc42 (ordPa_t phs50 hx57 hc47) hc62) (by decide)) (by decide)]; done)
             | (refine ⟨?_, hb⟩; rw [gchkG_s hl hz1 (chkE_bad hP2 hx74 (fSl_8 hc76) (by decide)) (by decide)]; done)
             | (refine ⟨?_, hb⟩; rw [gchkG_s hl hz1 (chkE_bad hP2 hx74 (fSl_10 hc76 (ordSl_t phs84 hx91 hc81)) (by decide)) (by decide)]; done)
             | (refine ⟨?_, hb⟩; rw [gchkG_s hl hz1 (chkE_bad hP2 hx74 (fSl_8' hc76 (ordSl_z phs84) hc96) (by decide)) (by decide)]; done)
             | (refine ⟨?_, hb⟩; rw [gchkG_s hl hz1 (chkE_bad hP2 hx74 (fSl_8' hc76 (ordSl_t phs84 hx91 hc81) hc96) (by decide)) (by decide)]; done)
             | exact ⟨congrArg (fun v => Ending.returned (Value.int .i64 v)) (gchkG_u hl hz1 hz2 hz3 (usN_bad hP3 hx114 hc123)).symm, hb⟩
             | (refine ⟨?_, hb⟩; rw [gchkG_u hl hz1 hz2 hz3 (usN_ord hP3 hx114 hc123 (ordU_t phs130 hx135 hc140))]; done)
             | (refine ⟨?_, hb⟩; rw [gchkG_m hl hz1 hz2 hc105]; done)
             | (refine ⟨?_, hb⟩; rw [gchkG_u hl hz1 hz2 hz3 (hP3.trans (by rw [List.drop_eq_nil_of_le (by omega), usN]))]; done)
             | (refine ⟨?_, hb⟩; rw [gchkG_3 (by omega)]; done)
          ·refine wp_skip' (to_k0 (fun _ _ h => h) (hK38 _ _ _ _ _ ?_))
           clear hK38
           refine wp_seq' fun K42 hK42 => ?_
           refine wp_reg ?_
           have hz3 := Decidable.not_not.1 hc105
           refine ol_mkmapE (Value.string) (Value.bool) 107 rfl fun b107 => ?_
           refine ol_r (r_assign rfl) rfl ?_
           refine ol_nil (to_k0 (fun _ _ h => h) (hK42 _ _ _ _ _ ?_))
           clear hK42
           refine wp_seq' fun K43 hK43 => ?_
           refine wp_seq' fun K44 hK44 => ?_
           refine wp_reg ?_
           refine ol_r (r_fa (o' := 3) rfl fl27_3 rfl) rfl ?_
           refine ol_r (r_ld (id := 1) rfl rfl rfl sc25) rfl ?_
           refine ol_r (r_len rfl sl25) rfl ?_
           refine ol_r (r_move rfl) rfl ?_
           refine ol_nil (to_k0 (fun _ _ h => h) (hK44 _ _ _ _ _ ?_))
           clear hK44
           refine wp_block' ?_
           apply wp_loopM (σ := Nat × KB) (fun s => s.1 ≤ G.un ∧ usN [] none G.us = usN s.2 (ahead G.us s.1) (G.us.drop s.1)) (fun s => [(111, .int .i64 s.1)]) [(1, _), (8, _), (109, _), (110, _)] (fun s => [(107, .ob b107 (MapO (pEnc Value.string Value.bool s.2)))]) [(1, _)] (fun s => G.un - s.1) ((0, []))
           ·try dsimp only
            exact ⟨Nat.zero_le _, rfl⟩
           ·exact (sub_cons rfl sub_nil)
           ·exact (sub_cons rfl (sub_cons rfl (sub_cons rfl (sub_cons rfl sub_nil))))
           ·exact (subH_same rfl subH_nil)
           ·exact (subH_same rfl subH_nil)
           ·rintro ⟨k3, K⟩ ⟨hk3, hP3⟩
            dsimp only at hk3 hP3 ⊢
            intro K45 hK45
            refine wp_seq' fun K46 hK46 => ?_
            refine wp_reg ?_
            refine ol_r (r_lss rfl rfl) rfl ?_
            refine ol_nil (to_k0 (fun _ _ h => h) (hK46 _ _ _ _ _ ?_))
            clear hK46
            refine wp_seq' fun K47 hK47 => ?_
            first | refine wp_condD rfl (fun hc112 => ?_) (fun hc112 => ?_) | refine wp_condN rfl (fun hc112 => ?_) (fun hc112 => ?_) | refine wp_condNB rfl (fun hc112 => ?_) (fun hc112 => ?_) | refine wp_cond' rfl (fun hc112 => ?_) (fun hc112 => ?_)
            ·refine wp_skip' (to_k0 (fun _ _ h => h) (hK47 _ _ _ _ _ ?_))
             clear hK47
             refine wp_seq' fun K48 hK48 => ?_
             refine wp_block' ?_
             refine wp_seq' fun K49 hK49 => ?_
             refine wp_reg ?_
             refine ol_r (r_move rfl) rfl ?_
             refine ol_ixr hG.u rfl rfl sl25 (by omega) rfl fun x114 hx114 => ?_
             try simp only [Int.toNat_natCast] at hx114
             refine ol_r (r_ldw rfl (fun w1 hb1 hs1 hB1 => Rd.loads hG.u ty46 hx114 hb1)) rfl ?_
             refine ol_alloc 10 z46 rfl fun b10 => ?_
             refine ol_r (r_assign rfl) rfl ?_
             refine ol_store (id := 10) rfl rfl rfl rfl sz46 rfl rfl (by first | decide | exact Nat.zero_lt_succ _ | simp) ?_
             refine ol_nil (to_k0 (fun _ _ h => h) (hK49 _ _ _ _ _ ?_))
             clear hK49
             refine wp_seq' fun K50 hK50 => ?_
             refine wp_seq' fun K51 hK51 => ?_
             refine wp_reg ?_
             refine ol_r (r_lda (id := 10) (n := 5) rfl rfl rfl ag46) rfl ?_
             refine ol_r (r_move rfl) rfl ?_
             refine ol_r (r_fa (o' := 0) rfl fl46_0 rfl) rfl ?_
             refine ol_r (r_ld (id := 10) rfl rfl rfl sc9) rfl ?_
             refine ol_r (r_look1 (K := Value.string) (V := Value.bool) (z := false) (id := 107) rfl rfl rfl mk43) rfl ?_
             refine ol_call rfl rfl cb60 rfl (fun w1 hb1 hs1 hB1 => Calls.mono (gear_checkUse x114 _ _ (hG.zu x114 (List.mem_of_getElem? hx114)).1 (hG.zu x114 (List.mem_of_getElem? hx114)).2) ?_)
             rintro e w2 ⟨rfl, hb2⟩
             refine After.below rfl hb1 hs1 hB1 hb2 ?_
             clear hb2 hB1 hs1 hb1 w2 w1
             refine ol_r (r_assign rfl) rfl ?_
             refine ol_nil (to_k0 (fun _ _ h => h) (hK51 _ _ _ _ _ ?_))
             clear hK51
             refine wp_seq' fun K52 hK52 => ?_
             refine wp_reg ?_
             refine ol_r (r_move rfl) rfl ?_
             refine ol_r (r_neq rfl rfl) rfl ?_
             refine ol_nil (to_k0 (fun _ _ h => h) (hK52 _ _ _ _ _ ?_))
             clear hK52
             first | refine wp_condD rfl (fun hc123 => ?_) (fun hc123 => ?_) | refine wp_condN rfl (fun hc123 => ?_) (fun hc123 => ?_) | refine wp_condNB rfl (fun hc123 => ?_) (fun hc123 => ?_) | refine wp_cond' rfl (fun hc123 => ?_) (fun hc123 => ?_)
             ·refine wp_seq' fun K53 hK53 => ?_
              refine wp_reg ?_
              refine ol_r (r_move rfl) rfl ?_
              refine ol_r (r_assign rfl) rfl ?_
              refine ol_nil (to_k0 (fun _ _ h => h) (hK53 _ _ _ _ _ ?_))
              clear hK53
              refine hQ.ret (rvs1 (rv_t rfl)) (fun _ _ h => h) fun w hb hs hB hkd => ?_
              first
                | (refine ⟨?_, hb⟩; rw [gchkG_p hl (chkE_bad hP1 hx40 (fPa_8 hc42) (by decide)) (by decide)]; done)
                | (refine ⟨?_, hb⟩; rw [gchkG_p hl (chkE_bad hP1 hx40 (fPa_10 hc42 (ordPa_t phs50 hx57 hc47)) (by decide)) (by decide)]; done)
                | (refine ⟨?_, hb⟩; rw [gchkG_p hl (chkE_bad hP1 hx40 (fPa_9 hc42 (ordPa_z phs50) hc62) (by decide)) (by decide)]; done)
                | (refine ⟨?_, hb⟩; rw [gchkG_p hl (chkE_bad hP1 hx40 (fPa_9 hc42 (ordPa_t phs50 hx57 hc47) hc62) (by decide)) (by decide)]; done)
                | (refine ⟨?_, hb⟩; rw [gchkG_s hl hz1 (chkE_bad hP2 hx74 (fSl_8 hc76) (by decide)) (by decide)]; done)
                | (refine ⟨?_, hb⟩; rw [gchkG_s hl hz1 (chkE_bad hP2 hx74 (fSl_10 hc76 (ordSl_t phs84 hx91 hc81)) (by decide)) (by decide)]; done)
                | (refine ⟨?_, hb⟩; rw [gchkG_s hl hz1 (chkE_bad hP2 hx74 (fSl_8' hc76 (ordSl_z phs84) hc96) (by decide)) (by decide)]; done)
                | (refine ⟨?_, hb⟩; rw [gchkG_s hl hz1 (chkE_bad hP2 hx74 (fSl_8' hc76 (ordSl_t phs84 hx91 hc81) hc96) (by decide)) (by decide)]; done)
                | exact ⟨congrArg (fun v => Ending.returned (Value.int .i64 v)) (gchkG_u hl hz1 hz2 hz3 (usN_bad hP3 hx114 hc123)).symm, hb⟩
                | (refine ⟨?_, hb⟩; rw [gchkG_u hl hz1 hz2 hz3 (usN_ord hP3 hx114 hc123 (ordU_t phs130 hx135 hc140))]; done)
                | (refine ⟨?_, hb⟩; rw [gchkG_m hl hz1 hz2 hc105]; done)
                | (refine ⟨?_, hb⟩; rw [gchkG_u hl hz1 hz2 hz3 (hP3.trans (by rw [List.drop_eq_nil_of_le (by omega), usN]))]; done)
                | (refine ⟨?_, hb⟩; rw [gchkG_3 (by omega)]; done)
             ·refine wp_skip' (to_k0 (fun _ _ h => h) (hK50 _ _ _ _ _ ?_))
              clear hK50
              refine wp_seq' fun K54 hK54 => ?_
              refine wp_reg ?_
              refine ol_r (r_move rfl) rfl ?_
              refine ol_r (r_fa (o' := 0) rfl fl46_0 rfl) rfl ?_
              refine ol_r (r_ld (id := 10) rfl rfl rfl sc9) rfl ?_
              refine ol_mapset (K := Value.string) (V := Value.bool) (z := false) (id := 107) rfl rfl rfl rfl mk43 trivial ?_
              refine ol_nil (to_k0 (fun _ _ h => h) (hK54 _ _ _ _ _ ?_))
              clear hK54
              refine wp_seq' fun K55 hK55 => ?_
              refine wp_regq (by kernel_rfl) (by kernel_rfl) ?_
              refine ql_r (r_move rfl) rfl ?_
              refine ql_r (r_gtr rfl rfl) rfl ?_
              refine ql_r (r_move rfl) rfl ?_
              refine ql_split (d := 130) rfl (fun hs130 => ?_) (fun hs130 => ?_)
              ·have phs130 := hs130; try simp only [decide_eq_true_eq, decide_eq_false_iff_not, Bool.not_eq_true', Bool.not_eq_false', Bool.not_true, Bool.not_false] at phs130
               refine ql_g rfl rfl hs130 ?_
               refine ql_r (r_fa (o' := 3) rfl fl27_3 rfl) rfl ?_
               refine ql_g rfl rfl hs130 ?_
               refine ql_r (r_ld (id := 1) rfl rfl rfl sc25) rfl ?_
               refine ql_g rfl rfl hs130 ?_
               refine ql_r (r_move rfl) rfl ?_
               refine ql_g rfl rfl hs130 ?_
               refine ql_r (r_sub rfl rfl (by omega)) rfl ?_
               refine ql_g rfl rfl hs130 ?_
               refine ql_ixr hG.u rfl rfl sl25 (by omega) rfl fun x135 hx135 => ?_
               try simp only [Int.toNat_natCast] at hx135
               refine ql_g rfl rfl hs130 ?_
               refine ql_r (r_ldw rfl (fun w1 hb1 hs1 hB1 => Rd.loads hG.u ty46 hx135 hb1)) rfl ?_
               refine ql_g rfl rfl hs130 ?_
               refine ql_r (r_lda (id := 10) (n := 5) rfl rfl rfl ag46) rfl ?_
               refine ql_g rfl rfl hs130 ?_
               refine ql_call rfl rfl cb61 rfl (fun w1 hb1 hs1 hB1 => gear_useOrder x135 x114 _) ?_
               refine ql_g rfl rfl hs130 ?_
               refine ql_r (r_geq rfl rfl) rfl ?_
               refine ql_r (r_pickT rfl hs130 rfl) rfl ?_
               refine ql_nil (to_k0 (fun _ _ h => h) (hK55 _ _ _ _ _ ?_))
               clear hK55
               first | refine wp_condD rfl (fun hc140 => ?_) (fun hc140 => ?_) | refine wp_condN rfl (fun hc140 => ?_) (fun hc140 => ?_) | refine wp_condNB rfl (fun hc140 => ?_) (fun hc140 => ?_) | refine wp_cond' rfl (fun hc140 => ?_) (fun hc140 => ?_)
               ·refine wp_seq' fun K56 hK56 => ?_
                refine wp_reg ?_
                refine ol_r (r_assign rfl) rfl ?_
                refine ol_nil (to_k0 (fun _ _ h => h) (hK56 _ _ _ _ _ ?_))
                clear hK56
                refine hQ.ret (rvs1 (rv_t rfl)) (fun _ _ h => h) fun w hb hs hB hkd => ?_
                first
                  | (refine ⟨?_, hb⟩; rw [gchkG_p hl (chkE_bad hP1 hx40 (fPa_8 hc42) (by decide)) (by decide)]; done)
                  | (refine ⟨?_, hb⟩; rw [gchkG_p hl (chkE_bad hP1 hx40 (fPa_10 hc42 (ordPa_t phs50 hx57 hc47)) (by decide)) (by decide)]; done)
                  | (refine ⟨?_, hb⟩; rw [gchkG_p hl (chkE_bad hP1 hx40 (fPa_9 hc42 (ordPa_z phs50) hc62) (by decide)) (by decide)]; done)
                  | (refine ⟨?_, hb⟩; rw [gchkG_p hl (chkE_bad hP1 hx40 (fPa_9 hc42 (ordPa_t phs50 hx57 hc47) hc62) (by decide)) (by decide)]; done)
                  | (refine ⟨?_, hb⟩; rw [gchkG_s hl hz1 (chkE_bad hP2 hx74 (fSl_8 hc76) (by decide)) (by decide)]; done)
                  | (refine ⟨?_, hb⟩; rw [gchkG_s hl hz1 (chkE_bad hP2 hx74 (fSl_10 hc76 (ordSl_t phs84 hx91 hc81)) (by decide)) (by decide)]; done)
                  | (refine ⟨?_, hb⟩; rw [gchkG_s hl hz1 (chkE_bad hP2 hx74 (fSl_8' hc76 (ordSl_z phs84) hc96) (by decide)) (by decide)]; done)
                  | (refine ⟨?_, hb⟩; rw [gchkG_s hl hz1 (chkE_bad hP2 hx74 (fSl_8' hc76 (ordSl_t phs84 hx91 hc81) hc96) (by decide)) (by decide)]; done)
                  | exact ⟨congrArg (fun v => Ending.returned (Value.int .i64 v)) (gchkG_u hl hz1 hz2 hz3 (usN_bad hP3 hx114 hc123)).symm, hb⟩
                  | (refine ⟨?_, hb⟩; rw [gchkG_u hl hz1 hz2 hz3 (usN_ord hP3 hx114 hc123 (ordU_t phs130 hx135 hc140))]; done)
                  | (refine ⟨?_, hb⟩; rw [gchkG_m hl hz1 hz2 hc105]; done)
                  | (refine ⟨?_, hb⟩; rw [gchkG_u hl hz1 hz2 hz3 (hP3.trans (by rw [List.drop_eq_nil_of_le (by omega), usN]))]; done)
                  | (refine ⟨?_, hb⟩; rw [gchkG_3 (by omega)]; done)
               ·refine wp_skip' (to_k0 (fun _ _ h => h) (hK48 _ _ _ _ _ ?_))
                clear hK48
                refine wp_reg ?_
                refine ol_r (r_add rfl rfl (by omega)) rfl ?_
                refine ol_r (r_move rfl) rfl ?_
                refine ol_nil (to_k0 (fun _ _ h => h) (hK45 ((k3 + 1, _)) _ _ ?_ ?_ (sub_cons rfl sub_nil) (sub_cons rfl (sub_cons rfl (sub_cons rfl (sub_cons rfl sub_nil)))) (by exact (subH_same rfl subH_nil)) (subH_same rfl subH_nil)))
                ·try dsimp only
                 first
                 | exact ⟨by omega, usN_next hP3 hx114 hc123 (ordU_z phs130)⟩
                 | exact ⟨by omega, usN_next hP3 hx114 hc123 (ordU_f phs130 hx135 hc140)⟩
                ·try dsimp only
                 omega
              ·have phs130 := hs130; try simp only [decide_eq_true_eq, decide_eq_false_iff_not, Bool.not_eq_true', Bool.not_eq_false', Bool.not_true, Bool.not_false] at phs130
               refine ql_s rfl rfl hs130 rfl ?_
               refine ql_s rfl rfl hs130 rfl ?_
               refine ql_s rfl rfl hs130 rfl ?_
               refine ql_s rfl rfl hs130 rfl ?_
               refine ql_s rfl rfl hs130 rfl ?_
               refine ql_s rfl rfl hs130 rfl ?_
               refine ql_s rfl rfl hs130 rfl ?_
               refine ql_s rfl rfl hs130 rfl ?_
               refine ql_s rfl rfl hs130 rfl ?_
               refine ql_r (r_pickF rfl hs130 rfl) rfl ?_
               refine ql_nil (to_k0 (fun _ _ h => h) (hK55 _ _ _ _ _ ?_))
               clear hK55
               refine wp_condF rfl ?_
               refine wp_skip' (to_k0 (fun _ _ h => h) (hK48 _ _ _ _ _ ?_))
               clear hK48
               refine wp_reg ?_
               refine ol_r (r_add rfl rfl (by omega)) rfl ?_
               refine ol_r (r_move rfl) rfl ?_
               refine ol_nil (to_k0 (fun _ _ h => h) (hK45 ((k3 + 1, _)) _ _ ?_ ?_ (sub_cons rfl sub_nil) (sub_cons rfl (sub_cons rfl (sub_cons rfl (sub_cons rfl sub_nil)))) (by exact (subH_same rfl subH_nil)) (subH_same rfl subH_nil)))
               ·try dsimp only
                first
                | exact ⟨by omega, usN_next hP3 hx114 hc123 (ordU_z phs130)⟩
                | exact ⟨by omega, usN_next hP3 hx114 hc123 (ordU_f phs130 hx135 hc140)⟩
               ·try dsimp only
                omega
            ·refine wp_exit' (to_k0 (fun _ _ h => h) (hK43 _ _ _ _ _ ?_))
             clear hK43
             refine wp_seq' fun K57 hK57 => ?_
             refine wp_reg ?_
             refine ol_r (r_assign rfl) rfl ?_
             refine ol_nil (to_k0 (fun _ _ h => h) (hK57 _ _ _ _ _ ?_))
             clear hK57
             refine hQ.ret (rvs1 (rv_t rfl)) (fun _ _ h => h) fun w hb hs hB hkd => ?_
             first
               | (refine ⟨?_, hb⟩; rw [gchkG_p hl (chkE_bad hP1 hx40 (fPa_8 hc42) (by decide)) (by decide)]; done)
               | (refine ⟨?_, hb⟩; rw [gchkG_p hl (chkE_bad hP1 hx40 (fPa_10 hc42 (ordPa_t phs50 hx57 hc47)) (by decide)) (by decide)]; done)
               | (refine ⟨?_, hb⟩; rw [gchkG_p hl (chkE_bad hP1 hx40 (fPa_9 hc42 (ordPa_z phs50) hc62) (by decide)) (by decide)]; done)
               | (refine ⟨?_, hb⟩; rw [gchkG_p hl (chkE_bad hP1 hx40 (fPa_9 hc42 (ordPa_t phs50 hx57 hc47) hc62) (by decide)) (by decide)]; done)
               | (refine ⟨?_, hb⟩; rw [gchkG_s hl hz1 (chkE_bad hP2 hx74 (fSl_8 hc76) (by decide)) (by decide)]; done)
               | (refine ⟨?_, hb⟩; rw [gchkG_s hl hz1 (chkE_bad hP2 hx74 (fSl_10 hc76 (ordSl_t phs84 hx91 hc81)) (by decide)) (by decide)]; done)
               | (refine ⟨?_, hb⟩; rw [gchkG_s hl hz1 (chkE_bad hP2 hx74 (fSl_8' hc76 (ordSl_z phs84) hc96) (by decide)) (by decide)]; done)
               | (refine ⟨?_, hb⟩; rw [gchkG_s hl hz1 (chkE_bad hP2 hx74 (fSl_8' hc76 (ordSl_t phs84 hx91 hc81) hc96) (by decide)) (by decide)]; done)
               | exact ⟨congrArg (fun v => Ending.returned (Value.int .i64 v)) (gchkG_u hl hz1 hz2 hz3 (usN_bad hP3 hx114 hc123)).symm, hb⟩
               | (refine ⟨?_, hb⟩; rw [gchkG_u hl hz1 hz2 hz3 (usN_ord hP3 hx114 hc123 (ordU_t phs130 hx135 hc140))]; done)
               | (refine ⟨?_, hb⟩; rw [gchkG_m hl hz1 hz2 hc105]; done)
               | (refine ⟨?_, hb⟩; rw [gchkG_u hl hz1 hz2 hz3 (hP3.trans (by rw [List.drop_eq_nil_of_le (by omega), usN]))]; done)
               | (refine ⟨?_, hb⟩; rw [gchkG_3 (by omega)]; done)
end Go.Proofs.Ytfbmkepogcimlaa

/-
  Rows of rows: inner rows stand at the end of the list of blocks, by number.
-/


namespace Go.Proofs.Ytfbmkepogcimlaa.Hx
open Go Go.RowKit
set_option linter.unusedVariables false
set_option linter.unusedSimpArgs false
section
variable {P : Program} {N : Fr} {B : Nat} {w0 : World} {Q : Exit → Act → World → Prop} {al : AL} {H : HL} {ops rest : List Oper}
theorem wp_loopT {c : Code} {σ : Type} (I : σ → Prop) (M : σ → AL) (L : AL) (G : σ → HL) (G0 : HL) (T : σ → HL) (μ : σ → Nat) (s0 : σ) (h0 : I s0) (hs : Sub (M s0) al) (hL : Sub L al) (hh : SubH (G s0) H) (hh0 : SubH G0 H) (ht : SubH (T s0) H)
    (round : ∀ s, I s → ∀ K : Act → World → Prop, (∀ s' al' H', I s' → μ s' < μ s → Sub (M s') al' → Sub L al' → SubH (G s') H' → SubH G0 H' → SubH (T s') H' → KP N B w0 K al' H') → WP P N B w0 c (Exit.then K Q) (M s ++ L) (G s ++ (G0 ++ T s))) :
    WP P N B w0 (.loop c) Q al H :=
  wp_loop' I (fun s => M s ++ L) (fun s => G s ++ (G0 ++ T s)) μ s0 h0 (sub_app hs hL) (subH_app hh (subH_app hh0 ht)) (fun s hI K hK => round s hI K fun s' al' H' h1 h2 h3 h4 h5 h6 h7 => (hK s' h1 h2).sub (sub_app h3 h4) (subH_app h5 (subH_app h6 h7)))
theorem Sat.rekey {w : World} (h : Sat B w H) {i j : Nat} {e : Ent} (hi : look H i = some e) (hij : i ≠ j) : Sat B w ((j, e) :: (i, .gone) :: H) := by
  have h2 := h.forget i
  refine h2.set j (h.ok i e hi) (fun _ _ _ => rfl) fun k f hk hf b hb hfb => ?_
  by_cases hki : k = i
  · subst hki; rw [look_cons_eq] at hf; cases hf; simp [Ent.own] at hfb
  · rw [look_cons_ne _ _ (Ne.symm hki)] at hf
    exact h.apart i k e f (Ne.symm hki) hi hf b hb hfb
theorem ol_rekey (i j : Nat) {e : Ent} (hi : look H i = some e) (hij : i ≠ j) (k : OL P N B w0 ops rest Q al ((j, e) :: (i, .gone) :: H)) : OL P N B w0 ops rest Q al H :=
  fun a w hst => k a w ⟨hst.regs, hst.below, hst.sat.rekey hi hij, hst.base, hst.kd, hst.marks⟩
end
abbrev Sl := Option Addr × Nat × Nat
/-- A struct of one slice, as an element. -/
def encSl : Enc Sl := { size := 1, cells := fun x => [.slice x.1 x.2.1 x.2.2], val := fun x => .agg #[.slice x.1 x.2.1 x.2.2], len := fun _ => rfl, ones := fun _ u h => by simp at h; subst h; rfl, pos := by decide, vc := fun _ => rfl }
def rowOf (T : TypeId) (x : Sl × List Int) : Ent := .row x.1.1 x.1.2.1 x.1.2.2 (encI.enc x.2) T 1
def innH (T : TypeId) (base : Nat) : List (Sl × List Int) → HL
  | [] => []
  | x :: r => (base, rowOf T x) :: innH T (base + 1) r
theorem look_inn {T : TypeId} : ∀ {L : List (Sl × List Int)} {base j : Nat} {x : Sl × List Int}, L[j]? = some x → look (innH T base L) (base + j) = some (rowOf T x)
  | [], base, j, x, h => by simp at h
  | y :: r, base, 0, x, h => by cases h; exact look_cons_eq _ _ _
  | y :: r, base, j + 1, x, h => by
    rw [innH, look_cons_ne _ _ (by omega), show base + (j + 1) = base + 1 + j by omega]
    exact look_inn (L := r) h
theorem look_inn_none {T : TypeId} : ∀ {L : List (Sl × List Int)} {base i : Nat}, i < base ∨ base + L.length ≤ i → look (innH T base L) i = none
  | [], _, _, _ => rfl
  | y :: r, base, i, h => by
    rw [List.length_cons] at h
    rw [innH, look_cons_ne _ _ (by omega)]
    exact look_inn_none (L := r) (by omega)
/-- A list of rows that reads so. -/
structure RdE (C : Nat) (w : World) (a : Option Addr) (n c : Nat) (L : List (Sl × List Int)) : Prop where
  out : Rd encSl C w a n c (L.map (·.1))
  inn : ∀ (j : Nat) (x : Sl × List Int), L[j]? = some x → Rd encI C w x.1.1 x.1.2.1 x.1.2.2 x.2
theorem RdE.at {B : Nat} {w0 w : World} {a : Option Addr} {n c : Nat} {L : List (Sl × List Int)} (h : RdE B w0 a n c L) (hb : Below B w0 w) (hB : B ≤ w.heap.size) : RdE w.heap.size w a n c L :=
  ⟨h.out.at hb hB, fun j x hj => (h.inn j x hj).at hb hB⟩
theorem RdE.len {C : Nat} {w : World} {a : Option Addr} {n c : Nat} {L : List (Sl × List Int)} (h : RdE C w a n c L) : L.length = n := by
  have := h.out.len; rwa [List.length_map] at this
theorem Sat.rdE {B : Nat} {w : World} {H : HL} {id base n c : Nat} {a : Option Addr} {L : List (Sl × List Int)} {T U : TypeId} (h : Sat B w H) (ho : look H id = some (.row a n c (encSl.enc (L.map (·.1))) T 1)) (hi : ∀ (j : Nat) (x : Sl × List Int), L[j]? = some x → look H (base + j) = some (rowOf U x)) : RdE w.heap.size w a n c L :=
  ⟨h.rd ho rfl, fun j x hj => h.rd (hi j x hj) rfl⟩
/-- A list of rows in memory of its own. -/
def OwnE (B : Nat) (w : World) (T U : TypeId) (id base : Nat) (a : Option Addr) (n c : Nat) (L : List (Sl × List Int)) : Prop := Sat B w ((id, .row a n c (encSl.enc (L.map (·.1))) T 1) :: innH U base L)
theorem OwnE.rd {B : Nat} {w : World} {T U : TypeId} {id base : Nat} {a : Option Addr} {n c : Nat} {L : List (Sl × List Int)} (h : OwnE B w T U id base a n c L) (hid : id < base) : RdE w.heap.size w a n c L :=
  Sat.rdE h (id := id) (base := base) (U := U) (look_cons_eq _ _ _) fun j x hj => (look_cons_ne _ _ (by omega)).trans (look_inn hj)
theorem Sat.cong {B : Nat} {w : World} {H H' : HL} (h : Sat B w H) (he : ∀ i, look H' i = look H i) : Sat B w H' :=
  ⟨fun i e hi => h.ok i e (by rw [← he]; exact hi), fun i j e f hij hi hj => h.apart i j e f hij (by rw [← he]; exact hi) (by rw [← he]; exact hj)⟩
/-- Other numbers for a list of rows. -/
theorem OwnE.num {B : Nat} {w : World} {T U : TypeId} {id base : Nat} {a : Option Addr} {n c : Nat} {L : List (Sl × List Int)} (h : OwnE B w T U id base a n c L) (hid : id < base) (id' base' : Nat) (hid' : id' < base') : OwnE B w T U id' base' a n c L := by
  have key : ∀ i e, look ((id', Ent.row a n c (encSl.enc (L.map (·.1))) T 1) :: innH U base' L) i = some e → (i = id' ∧ look ((id, Ent.row a n c (encSl.enc (L.map (·.1))) T 1) :: innH U base L) id = some e) ∨ (∃ j, i = base' + j ∧ j < L.length ∧ look ((id, Ent.row a n c (encSl.enc (L.map (·.1))) T 1) :: innH U base L) (base + j) = some e) := by
    intro i e hi
    by_cases h1 : i = id'
    · subst h1; rw [look_cons_eq] at hi; exact .inl ⟨rfl, by rw [look_cons_eq]; exact hi⟩
    · rw [look_cons_ne _ _ (Ne.symm h1)] at hi
      by_cases h2 : i < base' ∨ base' + L.length ≤ i
      · rw [look_inn_none h2] at hi; cases hi
      · obtain ⟨j, rfl⟩ : ∃ j, i = base' + j := ⟨i - base', by omega⟩
        have hx := List.getElem?_eq_getElem (l := L) (i := j) (by omega)
        rw [look_inn hx] at hi
        exact .inr ⟨j, rfl, by omega, by rw [look_cons_ne _ _ (by omega), look_inn hx]; exact hi⟩
  refine ⟨fun i e hi => ?_, fun i k e f hik hi hk => ?_⟩
  · rcases key i e hi with ⟨_, h2⟩ | ⟨j, _, _, h2⟩ <;> exact h.ok _ _ h2
  · rcases key i e hi with ⟨h1, h2⟩ | ⟨j, h1, _, h2⟩ <;> rcases key k f hk with ⟨h3, h4⟩ | ⟨j', h3, _, h4⟩
    · omega
    · exact h.apart _ _ e f (by omega) h2 h4
    · exact h.apart _ _ e f (by omega) h2 h4
    · exact h.apart _ _ e f (by omega) h2 h4
end Go.Proofs.Ytfbmkepogcimlaa.Hx

/-
  Garages: the mounts of each slot (a map of slices).
-/


namespace Go.Proofs.Ytfbmkepogcimlaa
open Go Go.RowKit Hx
set_option linter.unusedVariables false
set_option linter.unusedSimpArgs false
set_option maxRecDepth 8000
abbrev DM := List (ByteArray × Sl)
def slV (x : Sl) : Value := .slice x.1 x.2.1 x.2.2
abbrev nilS : Sl := (none, 0, 0)
def mOf (q : List GMount) (k : ByteArray) : List GMount := q.filter fun m => decide (m.slot = k)
theorem mOf_same (q : List GMount) (x : GMount) : mOf (q ++ [x]) x.slot = mOf q x.slot ++ [x] := by simp [mOf]
theorem mOf_other {q : List GMount} {x : GMount} {k : ByteArray} (h : x.slot ≠ k) : mOf (q ++ [x]) k = mOf q k := by simp [mOf, h]
theorem mOf_le {q : List GMount} {k : ByteArray} {n b : Nat} (h : n = (mOf q k).length) (hq : q.length ≤ b) : n ≤ b := by
  have := List.length_filter_le (fun m : GMount => decide (m.slot = k)) q
  unfold mOf at h; omega
/-- The rows that the entries of a map own. -/
def tailM (base : Nat) (q : List GMount) : DM → HL
  | [] => []
  | x :: r => (base, .row x.2.1 x.2.2.1 x.2.2.2 (encGMount.enc (mOf q x.1)) 155 4) :: tailM (base + 1) q r
theorem look_tail {q : List GMount} : ∀ {D : DM} {base j : Nat} {x : ByteArray × Sl}, D[j]? = some x → Hx.look (tailM base q D) (base + j) = some (.row x.2.1 x.2.2.1 x.2.2.2 (encGMount.enc (mOf q x.1)) 155 4)
  | [], base, j, x, h => by simp at h
  | y :: r, base, 0, x, h => by cases h; exact look_cons_eq _ _ _
  | y :: r, base, j + 1, x, h => by
    rw [tailM, look_cons_ne _ _ (by omega), show base + (j + 1) = base + 1 + j by omega]
    exact look_tail (D := r) h
theorem look_tail_none {q : List GMount} : ∀ {D : DM} {base i : Nat}, i < base ∨ base + D.length ≤ i → Hx.look (tailM base q D) i = none
  | [], _, _, _ => rfl
  | y :: r, base, i, h => by
    rw [List.length_cons] at h
    rw [tailM, look_cons_ne _ _ (by omega)]
    exact look_tail_none (D := r) (by omega)
theorem subH_tail {q : List GMount} {H' : HL} : ∀ {D : DM} {base : Nat}, (∀ j x, D[j]? = some x → Hx.look H' (base + j) = some (.row x.2.1 x.2.2.1 x.2.2.2 (encGMount.enc (mOf q x.1)) 155 4)) → SubH (tailM base q D) H'
  | [], _, _ => trivial
  | y :: r, base, h => ⟨⟨_, h 0 y rfl, Ent.le_refl _⟩, subH_tail (D := r) fun j x hj => by rw [show base + 1 + j = base + (j + 1) by omega]; exact h (j + 1) x hj⟩
structure Had (q : List GMount) (D : DM) : Prop where
  nd : (pKeys D).Nodup
  len : ∀ x ∈ D, x.2.2.1 = (mOf q x.1).length
  cov : ∀ m ∈ q, m.slot ∈ pKeys D
theorem Had.nil : Had [] [] := ⟨List.nodup_nil, fun x h => (by cases h), fun m h => (by cases h)⟩
def Pk (D : DM) (k : ByteArray) (j : Nat) : Prop := kIdx (pKeys D) k = some j ∨ kIdx (pKeys D) k = none ∧ j = D.length
theorem Had.none {q : List GMount} {D : DM} (h : Had q D) {k : ByteArray} (hk : k ∉ pKeys D) : mOf q k = [] := by
  rw [mOf, List.filter_eq_nil_iff]
  intro m hm he
  have := of_decide_eq_true he
  subst this
  exact hk (h.cov m hm)
theorem Pk.le {D : DM} {k : ByteArray} {j : Nat} (h : Pk D k j) : j ≤ D.length := by
  rcases h with h | ⟨_, rfl⟩
  · have := (List.getElem?_eq_some_iff.1 (kIdx_some h)).1
    rw [pKeys, List.length_map] at this; omega
  · omega
/-- Behind the step: the entry j is new, the others are as they were. -/
theorem Pk.set {D : DM} {k : ByteArray} {j : Nat} (h : Pk D k j) (v : Sl) : (∀ i x, (pS D k v)[i]? = some x → i = j ∧ x = (k, v) ∨ i ≠ j ∧ D[i]? = some x) := by
  intro i x hx
  rcases h with h | ⟨h, rfl⟩
  · rw [(pS_some h).1 v, List.getElem?_set] at hx
    by_cases hij : j = i
    · rw [if_pos hij] at hx
      split at hx
      · cases hx; exact .inl ⟨hij.symm, rfl⟩
      · cases hx
    · rw [if_neg hij] at hx; exact .inr ⟨fun h => hij h.symm, hx⟩
  · rw [(pS_none h).1 v] at hx
    by_cases hlt : i < D.length
    · rw [List.getElem?_append_left hlt] at hx; exact .inr ⟨by omega, hx⟩
    · have hi : i = D.length := by
        have := (List.getElem?_eq_some_iff.1 hx).1
        rw [List.length_append, List.length_singleton] at this; omega
      subst hi
      rw [List.getElem?_append_right (Nat.le_refl _), Nat.sub_self] at hx
      cases hx; exact .inl ⟨rfl, rfl⟩
theorem Pk.key {D : DM} {k : ByteArray} {j : Nat} (h : Pk D k j) {i : Nat} {x : ByteArray × Sl} (hij : i ≠ j) (hx : D[i]? = some x) (hn : (pKeys D).Nodup) : x.1 ≠ k := by
  intro he
  have hi : (pKeys D)[i]? = some k := by rw [pKeys, List.getElem?_map, hx, ← he]; rfl
  rcases h with h | ⟨h, _⟩
  · have hj := kIdx_some h
    obtain ⟨a1, a2⟩ := List.getElem?_eq_some_iff.1 hi
    obtain ⟨b1, b2⟩ := List.getElem?_eq_some_iff.1 hj
    exact hij ((List.getElem_inj (h₀ := a1) (h₁ := b1) hn).1 (a2.trans b2.symm))
  · exact (kIdx_none.1 h) (List.mem_of_getElem? hi)
theorem Had.step {q : List GMount} {D : DM} {x : GMount} {j : Nat} {a' : Option Addr} {n c' : Nat} (h : Had q D) (hp : Pk D x.slot j) (hn : n = (mOf q x.slot).length) : Had (q ++ [x]) (pS D x.slot (a', n + 1, c')) := by
  refine ⟨nodup_pS h.nd, fun y hy => ?_, fun m hm => ?_⟩
  · obtain ⟨i, hi⟩ := List.getElem?_of_mem hy
    rcases hp.set _ i y hi with ⟨_, rfl⟩ | ⟨hij, hi⟩
    · rw [mOf_same, List.length_append, ← hn]; rfl
    · rw [mOf_other (fun he => hp.key hij hi h.nd he.symm)]; exact h.len y (List.mem_of_getElem? hi)
  · rw [pKeys_pS]
    rcases List.mem_append.1 hm with hm | hm
    · split
      · exact h.cov m hm
      · exact List.mem_append_left _ (h.cov m hm)
    · simp at hm; subst hm
      split
      · assumption
      · simp
theorem subH_tailN {q : List GMount} {D : DM} {x : GMount} {j base : Nat} {v : Sl} {H' : HL} (h : Had q D) (hp : Pk D x.slot j) (h1 : Hx.look H' (base + j) = some (.row v.1 v.2.1 v.2.2 (encGMount.enc (mOf q x.slot ++ [x])) 155 4)) (h2 : ∀ i, i ≠ j → i < D.length → Hx.look H' (base + i) = Hx.look (tailM base q D) (base + i)) : SubH (tailM base (q ++ [x]) (pS D x.slot v)) H' := by
  refine subH_tail fun i y hy => ?_
  rcases hp.set _ i y hy with ⟨rfl, rfl⟩ | ⟨hij, hi⟩
  · rw [h1, mOf_same]
  · rw [h2 i hij (List.getElem?_eq_some_iff.1 hi).1, look_tail hi, mOf_other (fun he => hp.key hij hi h.nd he.symm)]
theorem ol_pick {P : Program} {N : Fr} {B : Nat} {w0 : World} {Q : Exit → Act → World → Prop} {al : AL} {H : HL} {ops l : List Oper} (id base : Nat) (q : List GMount) (D : DM) (key : ByteArray) (hn : Had q D) (hid : id < base) (hT : ∀ i, i < D.length → Hx.look H (base + i) = Hx.look (tailM base q D) (base + i))
    (k : ∀ j a n c, (pO D key).getD nilS = (a, n, c) → Pk D key j → n = (mOf q key).length → OL P N B w0 ops l Q al ((id, .row a n c (encGMount.enc (mOf q key)) 155 4) :: (j + base, .gone) :: H)) : OL P N B w0 ops l Q al H := by
  intro ac w hst
  cases hk : kIdx (pKeys D) key with
  | some j =>
    obtain ⟨_, _, ⟨a, n, c⟩, h1, h2⟩ := pS_some hk
    have hlt := (List.getElem?_eq_some_iff.1 h2).1
    have hl := (hT j hlt).trans (look_tail h2)
    rw [Nat.add_comm] at hl
    exact k j a n c (by rw [h1]; rfl) (.inl hk) (hn.len _ (List.mem_of_getElem? h2)) ac w (hst.step hst.regs hst.below (hst.sat.rekey hl (by omega)) hst.base (Kd.refl _ _))
  | none =>
    have h1 := (pS_none hk).2.2
    have h2 := hn.none (kIdx_none.1 hk)
    have := k D.length none 0 0 (by rw [h1]; rfl) (.inr ⟨hk, rfl⟩) (by rw [h2]; rfl) ac w
    rw [h2] at this
    exact this (hst.step hst.regs hst.below ((hst.sat.forget (D.length + base)).nilRow id _ _) hst.base (Kd.refl _ _))
theorem mk126 : MapK Try.prog 126 Value.string slV nilS := ⟨_, _, Try.underlying126, strK, fun _ => Try.zeroValue24 _⟩
theorem gear_had (G : GarV) (w : World) (hG : G.Ok w.heap.size w) (hl : G.mn ≤ 2000) : Calls Try.prog 62 #[.agg #[.slice G.pa G.pn G.pc, .slice G.sa G.sn G.sc, .slice G.ma G.mn G.mc, .slice G.ua G.un G.uc]] w fun e w' => ∃ b D, e = .returned (.map (some b)) ∧ Below w.heap.size w w' ∧ Had G.ms D ∧ Sat w.heap.size w' ((1001, .ob b (MapO (pEnc Value.string slV D))) :: tailM 1500 G.ms D) := by
  have hmn := hG.m.len
  refine enterQ (N := 26) (C := fun _ => True) (H := []) (B := w.heap.size) (args := [_]) Try.func62 rfl rfl rfl (Nat.le_refl _) (Sat.nil _ _) fun Q hQ => ?_
  refine wp_seq' fun K1 hK1 => ?_
  refine wp_reg ?_
  refine ol_box 1 rfl rfl rfl fun b1 => ?_
  refine ol_r (r_assign rfl) rfl ?_
  refine ol_nil (to_k0 (fun _ _ h => h) (hK1 _ _ _ _ _ ?_))
  clear hK1
  refine wp_seq' fun K2 hK2 => ?_
  refine wp_reg ?_
  refine ol_mkmapE (Value.string) (slV) 6 rfl fun b6 => ?_
  refine ol_r (r_assign rfl) rfl ?_
  refine ol_nil (to_k0 (fun _ _ h => h) (hK2 _ _ _ _ _ ?_))
  clear hK2
  refine wp_seq' fun K3 hK3 => ?_
  refine wp_seq' fun K4 hK4 => ?_
  refine wp_reg ?_
  refine ol_r (r_fa (o' := 2) rfl fl27_2 rfl) rfl ?_
  refine ol_r (r_ld (id := 1) rfl rfl rfl sc24) rfl ?_
  refine ol_r (r_len rfl sl24) rfl ?_
  refine ol_r (r_move rfl) rfl ?_
  refine ol_nil (to_k0 (fun _ _ h => h) (hK4 _ _ _ _ _ ?_))
  clear hK4
  refine wp_block' ?_
  apply wp_loopT (σ := Nat × DM) (fun s => s.1 ≤ G.mn ∧ Had (G.ms.take s.1) s.2) (fun s => [(10, .int .i64 s.1)]) [(2, _), (3, _), (8, _), (9, _)] (fun s => [(6, .ob b6 (MapO (pEnc Value.string slV s.2)))]) [(1, _)] (fun s => tailM 1500 (G.ms.take s.1) s.2) (fun s => G.mn - s.1) ((0, []))
  ·try dsimp only
   exact ⟨Nat.zero_le _, Had.nil⟩
  ·exact (sub_cons rfl sub_nil)
  ·exact (sub_cons rfl (sub_cons rfl (sub_cons rfl (sub_cons rfl sub_nil))))
  ·exact (subH_same rfl subH_nil)
  ·exact (subH_same rfl subH_nil)
  ·trivial
  ·rintro ⟨k, D⟩ ⟨hk, hD⟩
   dsimp only at hk hD ⊢
   intro K5 hK5
   refine wp_seq' fun K6 hK6 => ?_
   refine wp_reg ?_
   refine ol_r (r_lss rfl rfl) rfl ?_
   refine ol_nil (to_k0 (fun _ _ h => h) (hK6 _ _ _ _ _ ?_))
   clear hK6
   refine wp_seq' fun K7 hK7 => ?_
   first | refine wp_condD rfl (fun hc11 => ?_) (fun hc11 => ?_) | refine wp_condN rfl (fun hc11 => ?_) (fun hc11 => ?_) | refine wp_condNB rfl (fun hc11 => ?_) (fun hc11 => ?_) | refine wp_cond' rfl (fun hc11 => ?_) (fun hc11 => ?_)
   ·refine wp_skip' (to_k0 (fun _ _ h => h) (hK7 _ _ _ _ _ ?_))
    clear hK7
    refine wp_seq' fun K8 hK8 => ?_
    refine wp_block' ?_
    refine wp_seq' fun K9 hK9 => ?_
    refine wp_reg ?_
    refine ol_ixr hG.m rfl rfl sl24 (by omega) rfl fun x12 hx12 => ?_
    try simp only [Int.toNat_natCast] at hx12
    refine ol_r (r_ldw rfl (fun w1 hb1 hs1 hB1 => Rd.loads hG.m ty155 hx12 hb1)) rfl ?_
    refine ol_pick 7 1500 _ D x12.slot hD (by decide) (fun i hi => by simp only [List.cons_append, List.nil_append]; (repeat' refine (look_cons_ne _ _ (by omega)).trans ?_); rfl) fun j aa nn cc hpo hpk hnn => ?_
    have hjl := hpk.le
    have hnl : nn ≤ 2000 := mOf_le hnn (by rw [List.length_take]; omega)
    refine ol_alloc 5 z155 rfl fun b5 => ?_
    refine ol_store (id := 5) rfl rfl rfl rfl sz155 rfl rfl (by first | decide | exact Nat.zero_lt_succ _ | simp) ?_
    refine ol_nil (to_k0 (fun _ _ h => h) (hK9 _ _ _ _ _ ?_))
    clear hK9
    refine wp_rega [(999, [(1, _), (5, _)]), (10, [(6, _)])] (by kernel_rfl) ⟨.inr (subH_same rfl (subH_same rfl subH_nil)), ⟨.inr (subH_same rfl subH_nil), trivial⟩⟩ ?_
    refine aq_r 0 999 rfl (by kernel_rfl) (by kernel_rfl) (by kernel_rfl) (.head _) (by kernel_rfl) (by kernel_rfl) rfl (r_move rfl) ?_
    refine aq_r 1 999 rfl (by kernel_rfl) (by kernel_rfl) (by kernel_rfl) (.head _) (by kernel_rfl) (by kernel_rfl) rfl (r_fa (o' := 0) rfl fl155_0 rfl) ?_
    refine aq_r 2 999 rfl (by kernel_rfl) (by kernel_rfl) (by kernel_rfl) (.head _) (by kernel_rfl) (by kernel_rfl) rfl (r_ld (id := 5) rfl rfl rfl sc9) ?_
    refine aq_r 3 999 rfl (by kernel_rfl) (by kernel_rfl) (by kernel_rfl) (.head _) (by kernel_rfl) (by kernel_rfl) rfl (r_move rfl) ?_
    refine aq_r 4 999 rfl (by kernel_rfl) (by kernel_rfl) (by kernel_rfl) (.head _) (by kernel_rfl) (by kernel_rfl) rfl (r_fa (o' := 0) rfl fl155_0 rfl) ?_
    refine aq_r 5 999 rfl (by kernel_rfl) (by kernel_rfl) (by kernel_rfl) (.head _) (by kernel_rfl) (by kernel_rfl) rfl (r_ld (id := 5) rfl rfl rfl sc9) ?_
    refine aq_r 7 999 rfl (by kernel_rfl) (by kernel_rfl) (by kernel_rfl) (.head _) (by kernel_rfl) (by kernel_rfl) rfl (r_lda (id := 5) (n := 4) rfl rfl rfl ag155) ?_
    refine aq_two (i := 6) (j := 8) (by kernel_rfl) rfl rfl (fun K10 hK10 => ?_) (fun K10 hK10 => ?_)
    ·refine ol_r (r_look1 (K := Value.string) (V := slV) (z := nilS) (id := 6) rfl rfl rfl mk126) rfl ?_
     refine ol_nil (to_k0 (fun _ _ h => h) (hK10 _ _ ⟨.inr (by repeat' first | exact subH_nil | refine subH_same rfl ?_ | (refine subH_blk rfl (by repeat' first | exact sub_nil | refine sub_cons rfl ?_) ?_)), ⟨.inr (by repeat' first | exact subH_nil | refine subH_same rfl ?_ | (refine subH_blk rfl (by repeat' first | exact sub_nil | refine sub_cons rfl ?_) ?_)), trivial⟩⟩ ?_))
     clear hK10
     refine aq_one (i := 8) (by kernel_rfl) rfl fun K11 hK11 => ?_
     refine ol_bs1 22 rfl rfl rw24 rfl rfl rfl fun a22 => ?_
     refine ol_nil (to_k0 (fun _ _ h => h) (hK11 _ _ ⟨.inr (by repeat' first | exact subH_nil | refine subH_same rfl ?_ | (refine subH_blk rfl (by repeat' first | exact sub_nil | refine sub_cons rfl ?_) ?_)), ⟨.inr (by repeat' first | exact subH_nil | refine subH_same rfl ?_ | (refine subH_blk rfl (by repeat' first | exact sub_nil | refine sub_cons rfl ?_) ?_)), trivial⟩⟩ ?_))
     clear hK11
     refine aq_one (i := 9) (by kernel_rfl) rfl fun K12 hK12 => ?_
     rw [hpo, show slV (aa, nn, cc) = Value.slice aa nn cc from rfl]
     refine ol_append1 (id := 7) (id2 := 22) rfl rfl rfl rfl rfl rw24 (by omega) rfl fun a23 c23 => ?_
     refine ol_nil (to_k0 (fun _ _ h => h) (hK12 _ _ ⟨.inr (by repeat' first | exact subH_nil | refine subH_same rfl ?_ | (refine subH_blk rfl (by repeat' first | exact sub_nil | refine sub_cons rfl ?_) ?_)), ⟨.inr (by repeat' first | exact subH_nil | refine subH_same rfl ?_ | (refine subH_blk rfl (by repeat' first | exact sub_nil | refine sub_cons rfl ?_) ?_)), trivial⟩⟩ ?_))
     clear hK12
     refine aq_one (i := 10) (by kernel_rfl) rfl fun K13 hK13 => ?_
     refine ol_mapset (K := Value.string) (V := slV) (z := nilS) (v := (a23, nn + 1, c23)) (id := 6) rfl rfl rfl rfl mk126 trivial ?_
     refine ol_nil (to_k0 (fun _ _ h => h) (hK13 _ _ ⟨.inr (by repeat' first | exact subH_nil | refine subH_same rfl ?_ | (refine subH_blk rfl (by repeat' first | exact sub_nil | refine sub_cons rfl ?_) ?_)), ⟨.inl (by kernel_rfl), trivial⟩⟩ ?_))
     clear hK13
     refine aq_done (by kernel_rfl) ?_
     refine (to_k0 (fun _ _ h => h) (hK8 _ _ _ _ _ ?_))
     clear hK8
     refine wp_reg ?_
     refine ol_rekey 7 (j + 1500) rfl (by omega) ?_
     refine ol_r (r_add rfl rfl (by omega)) rfl ?_
     refine ol_r (r_move rfl) rfl ?_
     refine ol_nil (to_k0 (fun _ _ h => h) (hK5 ((k + 1, _)) _ _ ?_ ?_ (sub_cons rfl sub_nil) (sub_cons rfl (sub_cons rfl (sub_cons rfl (sub_cons rfl sub_nil)))) (by exact (subH_same rfl subH_nil)) (subH_same rfl subH_nil) ?_))
     ·try dsimp only
      exact ⟨by omega, by rw [take_succ_get hx12]; exact hD.step hpk hnn⟩
     ·try dsimp only
      omega
     ·try dsimp only
      rw [take_succ_get hx12]
      refine subH_tailN hD hpk ?_ fun i hij hi => ?_
      · rw [Nat.add_comm]
        exact (look_cons_eq _ _ _).trans (congrArg some (by rw [Enc.enc_append]; rfl))
      · simp only [List.cons_append, List.nil_append]
        repeat' refine (look_cons_ne _ _ (by omega)).trans ?_
        rfl
    ·refine ol_bs1 22 rfl rfl rw24 rfl rfl rfl fun a22 => ?_
     refine ol_nil (to_k0 (fun _ _ h => h) (hK10 _ _ ⟨.inr (by repeat' first | exact subH_nil | refine subH_same rfl ?_ | (refine subH_blk rfl (by repeat' first | exact sub_nil | refine sub_cons rfl ?_) ?_)), ⟨.inr (by repeat' first | exact subH_nil | refine subH_same rfl ?_ | (refine subH_blk rfl (by repeat' first | exact sub_nil | refine sub_cons rfl ?_) ?_)), trivial⟩⟩ ?_))
     clear hK10
     refine aq_one (i := 6) (by kernel_rfl) rfl fun K11 hK11 => ?_
     refine ol_r (r_look1 (K := Value.string) (V := slV) (z := nilS) (id := 6) rfl rfl rfl mk126) rfl ?_
     refine ol_nil (to_k0 (fun _ _ h => h) (hK11 _ _ ⟨.inr (by repeat' first | exact subH_nil | refine subH_same rfl ?_ | (refine subH_blk rfl (by repeat' first | exact sub_nil | refine sub_cons rfl ?_) ?_)), ⟨.inr (by repeat' first | exact subH_nil | refine subH_same rfl ?_ | (refine subH_blk rfl (by repeat' first | exact sub_nil | refine sub_cons rfl ?_) ?_)), trivial⟩⟩ ?_))
     clear hK11
     refine aq_one (i := 9) (by kernel_rfl) rfl fun K12 hK12 => ?_
     rw [hpo, show slV (aa, nn, cc) = Value.slice aa nn cc from rfl]
     refine ol_append1 (id := 7) (id2 := 22) rfl rfl rfl rfl rfl rw24 (by omega) rfl fun a23 c23 => ?_
     refine ol_nil (to_k0 (fun _ _ h => h) (hK12 _ _ ⟨.inr (by repeat' first | exact subH_nil | refine subH_same rfl ?_ | (refine subH_blk rfl (by repeat' first | exact sub_nil | refine sub_cons rfl ?_) ?_)), ⟨.inr (by repeat' first | exact subH_nil | refine subH_same rfl ?_ | (refine subH_blk rfl (by repeat' first | exact sub_nil | refine sub_cons rfl ?_) ?_)), trivial⟩⟩ ?_))
     clear hK12
     refine aq_one (i := 10) (by kernel_rfl) rfl fun K13 hK13 => ?_
     refine ol_mapset (K := Value.string) (V := slV) (z := nilS) (v := (a23, nn + 1, c23)) (id := 6) rfl rfl rfl rfl mk126 trivial ?_
     refine ol_nil (to_k0 (fun _ _ h => h) (hK13 _ _ ⟨.inr (by repeat' first | exact subH_nil | refine subH_same rfl ?_ | (refine subH_blk rfl (by repeat' first | exact sub_nil | refine sub_cons rfl ?_) ?_)), ⟨.inl (by kernel_rfl), trivial⟩⟩ ?_))
     clear hK13
     refine aq_done (by kernel_rfl) ?_
     refine (to_k0 (fun _ _ h => h) (hK8 _ _ _ _ _ ?_))
     clear hK8
     refine wp_reg ?_
     refine ol_rekey 7 (j + 1500) rfl (by omega) ?_
     refine ol_r (r_add rfl rfl (by omega)) rfl ?_
     refine ol_r (r_move rfl) rfl ?_
     refine ol_nil (to_k0 (fun _ _ h => h) (hK5 ((k + 1, _)) _ _ ?_ ?_ (sub_cons rfl sub_nil) (sub_cons rfl (sub_cons rfl (sub_cons rfl (sub_cons rfl sub_nil)))) (by exact (subH_same rfl subH_nil)) (subH_same rfl subH_nil) ?_))
     ·try dsimp only
      exact ⟨by omega, by rw [take_succ_get hx12]; exact hD.step hpk hnn⟩
     ·try dsimp only
      omega
     ·try dsimp only
      rw [take_succ_get hx12]
      refine subH_tailN hD hpk ?_ fun i hij hi => ?_
      · rw [Nat.add_comm]
        exact (look_cons_eq _ _ _).trans (congrArg some (by rw [Enc.enc_append]; rfl))
      · simp only [List.cons_append, List.nil_append]
        repeat' refine (look_cons_ne _ _ (by omega)).trans ?_
        rfl
   ·refine wp_exit' (to_k0 (fun _ _ h => h) (hK3 _ _ _ _ _ ?_))
    clear hK3
    refine wp_seq' fun K14 hK14 => ?_
    refine wp_reg ?_
    refine ol_r (r_move rfl) rfl ?_
    refine ol_r (r_assign rfl) rfl ?_
    refine ol_nil (to_k0 (fun _ _ h => h) (hK14 _ _ _ _ _ ?_))
    clear hK14
    refine hQ.ret (rvs1 (rv_t rfl)) (fun _ _ h => h) fun w hb hs hB hkd => ?_
    obtain rfl : k = G.ms.length := by omega
    rw [List.take_length] at *
    refine ⟨_, _, rfl, hb, hD, (hs.rekey (i := 6) (j := 1001) rfl (by decide)).sub (subH_same (look_cons_eq _ _ _) (subH_tail fun j x hj => ?_))⟩
    simp only [List.cons_append, List.nil_append]
    repeat' refine (look_cons_ne _ _ (by omega)).trans ?_
    exact look_tail hj
end Go.Proofs.Ytfbmkepogcimlaa

/-
  Contracts of functions of package slices, at int.
-/


namespace Go.Proofs.Ytfbmkepogcimlaa
open Go Go.RowKit Hx
set_option linter.unusedVariables false
set_option linter.unusedSimpArgs false

def maxV : List Int → Int
  | [] => 0
  | x :: r => r.foldl max x
def idxI (ys : List Int) (v : Int) : Int := match ys.findIdx? (· == v) with | some i => i | none => -1
end Go.Proofs.Ytfbmkepogcimlaa
