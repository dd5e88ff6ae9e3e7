/-
  Places: the program; MatchPlacesMatchSpec.
-/
import Derived.Lib.AppendZerosOnto
import Derived.Lib.Overlaps
import Derived.Test.YtjflbnbofedlkaaXmA
import Derived.Test.YtjflbnbofedlkaaXmB
import Derived.Test.YtjflbnbofedlkaaXmC
import Derived.Test.YtjflbnbofedlkaaXmD
import Derived.Test.YtjflbnbofedlkaaXmE

namespace Go.Proofs.Ytjflbnbofedlkaa
open Go Go.RowKit Hx
set_option linter.unusedVariables false
set_option linter.unusedSimpArgs false
set_option maxRecDepth 8000
theorem match_places (a : Option Addr) (n c : Nat) (xs : List ScoreR) (w : World) (hx : Rd encScore w.heap.size w a n c xs) (hn : n ≤ 5000) :
    Calls Try.prog 42 #[.slice a n c] w fun e w' => ∃ b m k, e = .returned (.slice b m k) ∧ Fresh encPlace 32 w w' b m k (placesS xs) := by
  have hln := hx.len
  refine enterQ (N := 93) (C := fun _ => True) (H := []) (B := w.heap.size) (args := [_]) Try.func42 rfl rfl rfl (Nat.le_refl _) (Sat.nil _ _) fun Q hQ => ?_
  refine wp_seq' fun K1 hK1 => ?_
  refine wp_reg ?_
  refine ol_r (r_assign rfl) rfl ?_
  refine ol_nil (to_k0 (fun _ _ h => h) (hK1 _ _ _ _ _ ?_))
  clear hK1
  refine wp_seq' fun K2 hK2 => ?_
  refine wp_reg ?_
  refine ol_mkmapE (Value.string) (encScore.val) 12 rfl fun b12 => ?_
  refine ol_r (r_assign rfl) rfl ?_
  refine ol_nil (to_k0 (fun _ _ h => h) (hK2 _ _ _ _ _ ?_))
  clear hK2
  refine wp_seq' fun K3 hK3 => ?_
  refine wp_seq' fun K4 hK4 => ?_
  refine wp_reg ?_
  refine ol_r (r_move rfl) rfl ?_
  refine ol_r (r_len rfl sl22) rfl ?_
  refine ol_r (r_move rfl) rfl ?_
  refine ol_nil (to_k0 (fun _ _ h => h) (hK4 _ _ _ _ _ ?_))
  clear hK4
  refine wp_block' ?_
  apply wp_loopM (σ := Nat × BM) (fun s => s.1 ≤ n ∧ BestOk (xs.take s.1) s.2 ∧ s.2.length ≤ s.1) (fun s => [(15, .int .i64 s.1)]) [(2, _), (3, _), (13, _), (14, _)] (fun s => [(12, .ob b12 (MapO (pEnc Value.string encScore.val s.2)))]) [] (fun s => n - s.1) ((0, []))
  ·try dsimp only
   exact ⟨Nat.zero_le _, BestOk.nil, Nat.zero_le _⟩
  ·exact (sub_cons rfl sub_nil)
  ·exact (sub_cons rfl (sub_cons rfl (sub_cons rfl (sub_cons rfl sub_nil))))
  ·exact (subH_same rfl subH_nil)
  ·exact subH_nil
  ·rintro ⟨k, D⟩ ⟨hk, hD, hDl⟩
   dsimp only at hk hD hDl ⊢
   intro K5 hK5
   refine wp_seq' fun K6 hK6 => ?_
   refine wp_reg ?_
   refine ol_r (r_lss rfl rfl) rfl ?_
   refine ol_nil (to_k0 (fun _ _ h => h) (hK6 _ _ _ _ _ ?_))
   clear hK6
   refine wp_seq' fun K7 hK7 => ?_
   first | refine wp_condD rfl (fun hc16 => ?_) (fun hc16 => ?_) | refine wp_condN rfl (fun hc16 => ?_) (fun hc16 => ?_) | refine wp_condNB rfl (fun hc16 => ?_) (fun hc16 => ?_) | refine wp_cond' rfl (fun hc16 => ?_) (fun hc16 => ?_)
   ·refine wp_skip' (to_k0 (fun _ _ h => h) (hK7 _ _ _ _ _ ?_))
    clear hK7
    refine wp_seq' fun K8 hK8 => ?_
    refine wp_block' ?_
    refine wp_seq' fun K9 hK9 => ?_
    refine wp_reg ?_
    refine ol_ixr hx rfl rfl sl22 (by omega) rfl fun x17 hx17 => ?_
    try simp only [Int.toNat_natCast] at hx17
    refine ol_r (r_ldw rfl (fun w1 hb1 hs1 hB1 => Rd.loads hx ty24 hx17 hb1)) rfl ?_
    refine ol_alloc 5 z24 rfl fun b5 => ?_
    refine ol_store (id := 5) rfl rfl rfl rfl sz24 rfl rfl (by first | decide | exact Nat.zero_lt_succ _ | simp) ?_
    refine ol_nil (to_k0 (fun _ _ h => h) (hK9 _ _ _ _ _ ?_))
    clear hK9
    refine wp_seq' fun K10 hK10 => ?_
    refine wp_reg ?_
    refine ol_r (r_move rfl) rfl ?_
    refine ol_r (r_fa (o' := 0) rfl fl24_0 rfl) rfl ?_
    refine ol_r (r_ld (id := 5) rfl rfl rfl sc9) rfl ?_
    refine ol_r (r_look2 (K := Value.string) (V := encScore.val) (z := zS) (id := 12) rfl rfl rfl mk122) rfl ?_
    refine ol_r (r_move rfl) rfl ?_
    refine ol_r (r_extract rfl rfl) rfl ?_
    refine ol_r (r_extract rfl rfl) rfl ?_
    refine ol_alloc 6 z24 rfl fun b6 => ?_
    refine ol_store (id := 6) rfl rfl rfl rfl sz24 rfl rfl (by first | decide | exact Nat.zero_lt_succ _ | simp) ?_
    refine ol_r (r_assign rfl) rfl ?_
    refine ol_nil (to_k0 (fun _ _ h => h) (hK10 _ _ _ _ _ ?_))
    clear hK10
    refine wp_seq' fun K11 hK11 => ?_
    refine wp_reg ?_
    refine ol_r (r_move rfl) rfl ?_
    refine ol_r (r_not rfl) rfl ?_
    refine ol_r (r_move rfl) rfl ?_
    refine ol_split (d := 28) rfl (fun hs28 => ?_) (fun hs28 => ?_)
    ·have phs28 := hs28; try simp only [decide_eq_true_eq, decide_eq_false_iff_not, Bool.not_eq_true', Bool.not_eq_false', Bool.not_true, Bool.not_false] at phs28
     refine ol_s rfl rfl hs28 rfl ?_
     refine ol_s rfl rfl hs28 rfl ?_
     refine ol_s rfl rfl hs28 rfl ?_
     refine ol_s rfl rfl hs28 rfl ?_
     refine ol_r (r_pickT rfl hs28 rfl) rfl ?_
     refine ol_nil (to_k0 (fun _ _ h => h) (hK11 _ _ _ _ _ ?_))
     clear hK11
     refine wp_condT rfl ?_
     refine wp_reg ?_
     refine ol_r (r_move rfl) rfl ?_
     refine ol_r (r_fa (o' := 0) rfl fl24_0 rfl) rfl ?_
     refine ol_r (r_ld (id := 5) rfl rfl rfl sc9) rfl ?_
     refine ol_r (r_lda (id := 5) (n := 3) rfl rfl rfl ag24) rfl ?_
     refine ol_mapset (K := Value.string) (V := encScore.val) (z := zS) (id := 12) rfl rfl rfl rfl mk122 trivial ?_
     refine ol_nil (to_k0 (fun _ _ h => h) (hK8 _ _ _ _ _ ?_))
     clear hK8
     refine wp_reg ?_
     refine ol_r (r_add rfl rfl (by omega)) rfl ?_
     refine ol_r (r_move rfl) rfl ?_
     refine ol_nil (to_k0 (fun _ _ h => h) (hK5 ((k + 1, pS D x17.name x17)) _ _ ?_ ?_ (sub_cons rfl sub_nil) (sub_cons rfl (sub_cons rfl (sub_cons rfl (sub_cons rfl sub_nil)))) (by exact (subH_same rfl subH_nil)) subH_nil))
     ·try dsimp only
      have hq := pS_le x17.name x17 D
      exact ⟨by omega, by rw [take_next hx17]; exact hD.put (fun y hy => by rw [hy] at phs28; cases phs28), by omega⟩
     ·try dsimp only
      omega
    ·have phs28 := hs28; try simp only [decide_eq_true_eq, decide_eq_false_iff_not, Bool.not_eq_true', Bool.not_eq_false', Bool.not_true, Bool.not_false] at phs28
     refine ol_g rfl rfl hs28 ?_
     refine ol_r (r_lda (id := 5) (n := 3) rfl rfl rfl ag24) rfl ?_
     refine ol_g rfl rfl hs28 ?_
     refine ol_r (r_lda (id := 6) (n := 3) rfl rfl rfl ag24) rfl ?_
     refine ol_g rfl rfl hs28 ?_
     refine ol_call rfl rfl cb74 rfl (fun w1 hb1 hs1 hB1 => Calls.mono (match_order x17 ((pO D x17.name).getD zS) _) ?_)
     rintro e w2 ⟨rfl, hb2⟩
     refine After.below rfl hb1 hs1 hB1 hb2 ?_
     clear hb2 hB1 hs1 hb1 w2 w1
     refine ol_g rfl rfl hs28 ?_
     refine ol_r (r_lss rfl rfl) rfl ?_
     refine ol_r (r_pickF rfl hs28 rfl) rfl ?_
     refine ol_nil (to_k0 (fun _ _ h => h) (hK11 _ _ _ _ _ ?_))
     clear hK11
     first | refine wp_condD rfl (fun hc33 => ?_) (fun hc33 => ?_) | refine wp_condN rfl (fun hc33 => ?_) (fun hc33 => ?_) | refine wp_condNB rfl (fun hc33 => ?_) (fun hc33 => ?_) | refine wp_cond' rfl (fun hc33 => ?_) (fun hc33 => ?_)
     ·refine wp_reg ?_
      refine ol_r (r_move rfl) rfl ?_
      refine ol_r (r_fa (o' := 0) rfl fl24_0 rfl) rfl ?_
      refine ol_r (r_ld (id := 5) rfl rfl rfl sc9) rfl ?_
      refine ol_r (r_lda (id := 5) (n := 3) rfl rfl rfl ag24) rfl ?_
      refine ol_mapset (K := Value.string) (V := encScore.val) (z := zS) (id := 12) rfl rfl rfl rfl mk122 trivial ?_
      refine ol_nil (to_k0 (fun _ _ h => h) (hK8 _ _ _ _ _ ?_))
      clear hK8
      refine wp_reg ?_
      refine ol_r (r_add rfl rfl (by omega)) rfl ?_
      refine ol_r (r_move rfl) rfl ?_
      refine ol_nil (to_k0 (fun _ _ h => h) (hK5 ((k + 1, pS D x17.name x17)) _ _ ?_ ?_ (sub_cons rfl sub_nil) (sub_cons rfl (sub_cons rfl (sub_cons rfl (sub_cons rfl sub_nil)))) (by exact (subH_same rfl subH_nil)) subH_nil))
      ·try dsimp only
       have hq := pS_le x17.name x17 D
       exact ⟨by omega, by rw [take_next hx17]; exact hD.put (fun y hy => by rw [hy] at hc33; exact scf_neg.1 hc33), by omega⟩
      ·try dsimp only
       omega
     ·refine wp_skip' (to_k0 (fun _ _ h => h) (hK8 _ _ _ _ _ ?_))
      clear hK8
      refine wp_reg ?_
      refine ol_r (r_add rfl rfl (by omega)) rfl ?_
      refine ol_r (r_move rfl) rfl ?_
      refine ol_nil (to_k0 (fun _ _ h => h) (hK5 ((k + 1, D)) _ _ ?_ ?_ (sub_cons rfl sub_nil) (sub_cons rfl (sub_cons rfl (sub_cons rfl (sub_cons rfl sub_nil)))) (by exact (subH_same rfl subH_nil)) subH_nil))
      ·try dsimp only
       obtain ⟨y, hy⟩ := Option.isSome_iff_exists.1 phs28
       refine ⟨by omega, by rw [take_next hx17]; exact hD.keep hy (by rw [hy] at hc33; rw [← Bool.not_eq_true, ← scf_neg]; exact hc33), by omega⟩
      ·try dsimp only
       omega
   ·refine wp_exit' (to_k0 (fun _ _ h => h) (hK3 _ _ _ _ _ ?_))
    clear hK3
    refine wp_seq' fun K12 hK12 => ?_
    refine wp_reg ?_
    refine ol_nilrow 8 32 4 ?_
    refine ol_r (r_assign rfl) rfl ?_
    refine ol_nil (to_k0 (fun _ _ h => h) (hK12 _ _ _ _ _ ?_))
    clear hK12
    refine wp_seq' fun K13 hK13 => ?_
    refine wp_seq' fun K14 hK14 => ?_
    refine wp_reg ?_
    refine ol_r (r_move rfl) rfl ?_
    refine ol_range (K := Value.string) (V := encScore.val) (z := zS) (id := 12) 40 rfl rfl mk122 rfl fun r40 bs40 ck40 hbs40 => ?_
    refine ol_nil (to_k0 (fun _ _ h => h) (hK14 _ _ _ _ _ ?_))
    clear hK14
    refine wp_block' ?_
    apply wp_loopM (σ := List Nat × List ScoreR × Option Addr × Nat × Nat) (fun s => s.2.2.2.1 = s.2.1.length ∧ Vis (valsB D) s.1 s.2.1) (fun s => [(8, .slice s.2.2.1 s.2.2.2.1 s.2.2.2.2)]) [(2, _), (40, _)] (fun s => [(8, .row s.2.2.1 s.2.2.2.1 s.2.2.2.2 (encP0.enc s.2.1) 32 4), (40, .ob r40 (IterO b12 bs40 ck40 s.1))]) [(12, _)] (fun s => D.length - s.1.length) (([], [], none, 0, 0))
    ·try dsimp only
     exact ⟨rfl, Vis.nil _⟩
    ·exact (sub_cons rfl sub_nil)
    ·exact (sub_cons rfl (sub_cons rfl sub_nil))
    ·exact (subH_row rfl (by first | (dsimp only; rfl; done) | (rfl; done) | (dsimp only; done)) (subH_same rfl subH_nil))
    ·exact (subH_same rfl subH_nil)
    ·rintro ⟨js, ks, oa, m, oc⟩ ⟨hm, hV⟩
     dsimp only at hm hV ⊢
     have hvl := hV.len
     have hvb := hV.le
     rw [valsB_len] at hvb
     intro K15 hK15
     refine wp_seq' fun K16 hK16 => ?_
     refine wp_reg ?_
     refine ol_nextG (K := Value.string) (V := encScore.val) (idi := 40) rfl rfl (mapB_own (id := 12) rfl) hbs40.2.1 hbs40.2.2 trivial rfl (fun hall41 => ?_) (fun j41 k41 v41 hj41 hv41 => ?_)
     ·refine ol_r (r_extract rfl rfl) rfl ?_
      refine ol_nil (to_k0 (fun _ _ h => h) (hK16 _ _ _ _ _ ?_))
      clear hK16
      refine wp_seq' fun K17 hK17 => ?_
      refine wp_condF rfl ?_
      refine wp_exit' (to_k0 (fun _ _ h => h) (hK13 _ _ _ _ _ ?_))
      clear hK13
      refine wp_seq' fun K18 hK18 => ?_
      refine wp_reg ?_
      refine ol_r (r_move rfl) rfl ?_
      refine ol_call rfl rfl cb75 rfl (fun w1 hb1 hs1 hB1 => ?_)
      refine Calls.mono (sort_places _ 8 _ _ _ ks _ _ _ hB1 hs1 rfl (by omega)) ?_
      rintro e w2 ⟨rfl, hbw, hs2, hB2, hkd2⟩
      refine After.sat rfl hb1 hbw hs2 hB2 (hkd2.imp (fun _ h => h.elim)) ?_
      clear hkd2 hB2 hs2 hbw hB1 hs1 hb1 w2 w1
      have hkn : k = n := by omega
      subst hkn
      rw [List.take_of_length_le (by omega)] at hD
      have hp := hV.all (fun j hj => hall41 j (by rwa [valsB_len] at hj))
      have hB9 : sortL sclt ks = firsts (sortL sclt xs) [] := by rw [sortL_perm_eq sclt_tot hp]; exact hD.end_
      obtain ⟨S, hS⟩ : ∃ S, S = sortL sclt ks := ⟨_, rfl⟩
      have hSl : S.length = m := by rw [hS, sortL_len, hm]
      rw [← hS]
      refine ol_nil (to_k0 (fun _ _ h => h) (hK18 _ _ _ _ _ ?_))
      clear hK18
      refine wp_seq' fun K19 hK19 => ?_
      refine wp_seq' fun K20 hK20 => ?_
      refine wp_reg ?_
      refine ol_r (r_move rfl) rfl ?_
      refine ol_r (r_len rfl sl25) rfl ?_
      refine ol_r (r_move rfl) rfl ?_
      refine ol_nil (to_k0 (fun _ _ h => h) (hK20 _ _ _ _ _ ?_))
      clear hK20
      refine wp_block' ?_
      apply wp_loopM (σ := Nat) (fun s => s ≤ m) (fun s => [(54, .int .i64 s)]) [(2, _), (8, _), (53, _)] (fun s => [(8, .row oa m oc (encPlace.enc (rowP S s)) 32 4)]) [(12, _), (40, _)] (fun s => m - s) (0)
      ·try dsimp only
       exact Nat.zero_le _
      ·exact (sub_cons rfl sub_nil)
      ·exact (sub_cons rfl (sub_cons rfl (sub_cons rfl sub_nil)))
      ·exact (subH_row rfl (by first | (dsimp only; (rw [encP0_is]; rfl); done) | ((rw [encP0_is]; rfl); done) | (dsimp only; done)) subH_nil)
      ·exact (subH_same rfl (subH_same rfl subH_nil))
      ·rintro k3 hk3
       have hrl := rowP_len (S := S) (k := k3) (by omega)
       intro K21 hK21
       refine wp_seq' fun K22 hK22 => ?_
       refine wp_reg ?_
       refine ol_r (r_lss rfl rfl) rfl ?_
       refine ol_nil (to_k0 (fun _ _ h => h) (hK22 _ _ _ _ _ ?_))
       clear hK22
       refine wp_seq' fun K23 hK23 => ?_
       first | refine wp_condD rfl (fun hc55 => ?_) (fun hc55 => ?_) | refine wp_condN rfl (fun hc55 => ?_) (fun hc55 => ?_) | refine wp_condNB rfl (fun hc55 => ?_) (fun hc55 => ?_) | refine wp_cond' rfl (fun hc55 => ?_) (fun hc55 => ?_)
       ·refine wp_skip' (to_k0 (fun _ _ h => h) (hK23 _ _ _ _ _ ?_))
        clear hK23
        refine wp_seq' fun K24 hK24 => ?_
        refine wp_block' ?_
        refine wp_seq' fun K25 hK25 => ?_
        refine wp_reg ?_
        refine ol_r (r_move rfl) rfl ?_
        refine ol_r (r_assign rfl) rfl ?_
        refine ol_nil (to_k0 (fun _ _ h => h) (hK25 _ _ _ _ _ ?_))
        clear hK25
        refine wp_seq' fun K26 hK26 => ?_
        refine wp_reg ?_
        refine ol_r (r_move rfl) rfl ?_
        refine ol_r (r_move rfl) rfl ?_
        refine ol_r (r_move rfl) rfl ?_
        refine ol_r (r_add rfl rfl (by omega)) rfl ?_
        refine ol_ixo (id := 8) encPlace _ rfl rfl rfl rfl sl25 (by omega) rfl fun x61 hx61 => ?_
        try simp only [Int.toNat_natCast] at hx61
        try simp only [Int.toNat_natCast] at hx61
        have hy61 := rowP_sc (by omega) hx61
        refine ol_r (r_faO (id := 8) rfl rfl rfl hx61 fl32_0) rfl ?_
        refine ol_storeRowF (id := 8) _ _ (⟨(k3 : Int) + 1, x61.sc⟩) rfl rfl rfl rfl rfl rfl sz3 hx61 (by decide) rfl ?_
        refine ol_nil (to_k0 (fun _ _ h => h) (hK26 _ _ _ _ _ ?_))
        clear hK26
        refine wp_seq' fun K27 hK27 => ?_
        refine wp_regq (by kernel_rfl) (by kernel_rfl) ?_
        simp only [Int.toNat_natCast]
        have hst : ((rowP S k3).set k3 ⟨(k3 : Int) + 1, x61.sc⟩).length = (rowP S k3).length := List.length_set
        refine ql_r (r_move rfl) rfl ?_
        refine ql_r (r_gtr rfl rfl) rfl ?_
        refine ql_r (r_move rfl) rfl ?_
        refine ql_split (d := 65) rfl (fun hs65 => ?_) (fun hs65 => ?_)
        ·have phs65 := hs65; try simp only [decide_eq_true_eq, decide_eq_false_iff_not, Bool.not_eq_true', Bool.not_eq_false', Bool.not_true, Bool.not_false] at phs65
         refine ql_g rfl rfl hs65 ?_
         refine ql_r (r_move rfl) rfl ?_
         refine ql_g rfl rfl hs65 ?_
         refine ql_r (r_move rfl) rfl ?_
         refine ql_g rfl rfl hs65 ?_
         refine ql_ixo (id := 8) encPlace _ rfl rfl rfl rfl sl25 (by omega) (by omega) rfl fun x68 hx68 => ?_
         try simp only [Int.toNat_natCast] at hx68
         try simp only [Int.toNat_natCast] at hx68
         refine ql_g rfl rfl hs65 ?_
         refine ql_r (r_faO (id := 8) rfl rfl rfl hx68 fl32_1) rfl ?_
         refine ql_g rfl rfl hs65 ?_
         refine ql_r (r_faO2 (id := 8) (o := 3) rfl rfl rfl hx68 fl24_2 rfl) rfl ?_
         refine ql_g rfl rfl hs65 ?_
         refine ql_r (r_ldw rfl (fun w1 hb1 hs1 hB1 => ld_ownF (id := 8) (o := 3) hs1 rfl rfl sc3 hx68 rfl)) rfl ?_
         refine ql_g rfl rfl hs65 ?_
         refine ql_r (r_move rfl) rfl ?_
         refine ql_g rfl rfl hs65 ?_
         refine ql_r (r_move rfl) rfl ?_
         refine ql_g rfl rfl hs65 ?_
         refine ql_r (r_sub rfl rfl (by omega)) rfl ?_
         refine ql_g rfl rfl hs65 ?_
         refine ql_ixo (id := 8) encPlace _ rfl rfl rfl rfl sl25 (by omega) (by omega) rfl fun x75 hx75 => ?_
         try simp only [Int.toNat_natCast] at hx75
         try simp only [Int.toNat_natCast] at hx75
         refine ql_g rfl rfl hs65 ?_
         refine ql_r (r_faO (id := 8) rfl rfl rfl hx75 fl32_1) rfl ?_
         refine ql_g rfl rfl hs65 ?_
         refine ql_r (r_faO2 (id := 8) (o := 3) rfl rfl rfl hx75 fl24_2 rfl) rfl ?_
         refine ql_g rfl rfl hs65 ?_
         refine ql_r (r_ldw rfl (fun w1 hb1 hs1 hB1 => ld_ownF (id := 8) (o := 3) hs1 rfl rfl sc3 hx75 rfl)) rfl ?_
         refine ql_g rfl rfl hs65 ?_
         refine ql_r (r_eql rfl rfl) rfl ?_
         refine ql_r (r_pickT rfl hs65 rfl) rfl ?_
         refine ql_nil (to_k0 (fun _ _ h => h) (hK27 _ _ _ _ _ ?_))
         clear hK27
         first | refine wp_condD rfl (fun hc80 => ?_) (fun hc80 => ?_) | refine wp_condN rfl (fun hc80 => ?_) (fun hc80 => ?_) | refine wp_condNB rfl (fun hc80 => ?_) (fun hc80 => ?_) | refine wp_cond' rfl (fun hc80 => ?_) (fun hc80 => ?_)
         ·refine wp_reg ?_
          refine ol_r (r_move rfl) rfl ?_
          refine ol_r (r_move rfl) rfl ?_
          refine ol_r (r_move rfl) rfl ?_
          refine ol_r (r_move rfl) rfl ?_
          refine ol_r (r_sub rfl rfl (by omega)) rfl ?_
          refine ol_ixo (id := 8) encPlace _ rfl rfl rfl rfl sl25 (by omega) rfl fun x86 hx86 => ?_
          try simp only [Int.toNat_natCast] at hx86
          try simp only [Int.toNat_natCast] at hx86
          refine ol_r (r_faO (id := 8) rfl rfl rfl hx86 fl32_0) rfl ?_
          refine ol_r (r_ldw rfl (fun w1 hb1 hs1 hB1 => ld_ownF (id := 8) (o := 0) hs1 rfl rfl sc3 hx86 rfl)) rfl ?_
          refine ol_ixo (id := 8) encPlace _ rfl rfl rfl rfl sl25 (by omega) rfl fun x89 hx89 => ?_
          try simp only [Int.toNat_natCast] at hx89
          try simp only [Int.toNat_natCast] at hx89
          refine ol_r (r_faO (id := 8) rfl rfl rfl hx89 fl32_0) rfl ?_
          refine ol_storeRowF (id := 8) _ _ (⟨x86.rank, x89.sc⟩) rfl rfl rfl rfl rfl rfl sz3 hx89 (by decide) rfl ?_
          refine ol_nil (to_k0 (fun _ _ h => h) (hK24 _ _ _ _ _ ?_))
          clear hK24
          refine wp_reg ?_
          refine ol_r (r_add rfl rfl (by omega)) rfl ?_
          refine ol_r (r_move rfl) rfl ?_
          refine ol_nil (to_k0 (fun _ _ h => h) (hK21 (k3 + 1) _ _ ?_ ?_ (sub_cons rfl sub_nil) (sub_cons rfl (sub_cons rfl (sub_cons rfl sub_nil))) (by exact (subH_row rfl (by first | (dsimp only; first | (simp only [Int.toNat_natCast]; rw [rowA hy61 (by omega) hx68 hx75 hx86 hx89 hc80]; done) | (rw [rowB hy61 (by omega) hx68 hx75 hc80]; done) | (rw [rowC hy61 (by omega)]; done); done) | (first | (simp only [Int.toNat_natCast]; rw [rowA hy61 (by omega) hx68 hx75 hx86 hx89 hc80]; done) | (rw [rowB hy61 (by omega) hx68 hx75 hc80]; done) | (rw [rowC hy61 (by omega)]; done); done) | (dsimp only; done)) subH_nil)) (subH_same rfl (subH_same rfl subH_nil))))
          ·try dsimp only
           omega
          ·try dsimp only
           omega
         ·refine wp_skip' (to_k0 (fun _ _ h => h) (hK24 _ _ _ _ _ ?_))
          clear hK24
          refine wp_reg ?_
          refine ol_r (r_add rfl rfl (by omega)) rfl ?_
          refine ol_r (r_move rfl) rfl ?_
          refine ol_nil (to_k0 (fun _ _ h => h) (hK21 (k3 + 1) _ _ ?_ ?_ (sub_cons rfl sub_nil) (sub_cons rfl (sub_cons rfl (sub_cons rfl sub_nil))) (by exact (subH_row rfl (by first | (dsimp only; first | (simp only [Int.toNat_natCast]; rw [rowA hy61 (by omega) hx68 hx75 hx86 hx89 hc80]; done) | (rw [rowB hy61 (by omega) hx68 hx75 hc80]; done) | (rw [rowC hy61 (by omega)]; done); done) | (first | (simp only [Int.toNat_natCast]; rw [rowA hy61 (by omega) hx68 hx75 hx86 hx89 hc80]; done) | (rw [rowB hy61 (by omega) hx68 hx75 hc80]; done) | (rw [rowC hy61 (by omega)]; done); done) | (dsimp only; done)) subH_nil)) (subH_same rfl (subH_same rfl subH_nil))))
          ·try dsimp only
           omega
          ·try dsimp only
           omega
        ·have phs65 := hs65; try simp only [decide_eq_true_eq, decide_eq_false_iff_not, Bool.not_eq_true', Bool.not_eq_false', Bool.not_true, Bool.not_false] at phs65
         refine ql_s rfl rfl hs65 rfl ?_
         refine ql_s rfl rfl hs65 rfl ?_
         refine ql_s rfl rfl hs65 rfl ?_
         refine ql_s rfl rfl hs65 rfl ?_
         refine ql_s rfl rfl hs65 rfl ?_
         refine ql_s rfl rfl hs65 rfl ?_
         refine ql_s rfl rfl hs65 rfl ?_
         refine ql_s rfl rfl hs65 rfl ?_
         refine ql_s rfl rfl hs65 rfl ?_
         refine ql_s rfl rfl hs65 rfl ?_
         refine ql_s rfl rfl hs65 rfl ?_
         refine ql_s rfl rfl hs65 rfl ?_
         refine ql_s rfl rfl hs65 rfl ?_
         refine ql_s rfl rfl hs65 rfl ?_
         refine ql_r (r_pickF rfl hs65 rfl) rfl ?_
         refine ql_nil (to_k0 (fun _ _ h => h) (hK27 _ _ _ _ _ ?_))
         clear hK27
         refine wp_condF rfl ?_
         refine wp_skip' (to_k0 (fun _ _ h => h) (hK24 _ _ _ _ _ ?_))
         clear hK24
         refine wp_reg ?_
         refine ol_r (r_add rfl rfl (by omega)) rfl ?_
         refine ol_r (r_move rfl) rfl ?_
         refine ol_nil (to_k0 (fun _ _ h => h) (hK21 (k3 + 1) _ _ ?_ ?_ (sub_cons rfl sub_nil) (sub_cons rfl (sub_cons rfl (sub_cons rfl sub_nil))) (by exact (subH_row rfl (by first | (dsimp only; first | (simp only [Int.toNat_natCast]; rw [rowA hy61 (by omega) hx68 hx75 hx86 hx89 hc80]; done) | (rw [rowB hy61 (by omega) hx68 hx75 hc80]; done) | (rw [rowC hy61 (by omega)]; done); done) | (first | (simp only [Int.toNat_natCast]; rw [rowA hy61 (by omega) hx68 hx75 hx86 hx89 hc80]; done) | (rw [rowB hy61 (by omega) hx68 hx75 hc80]; done) | (rw [rowC hy61 (by omega)]; done); done) | (dsimp only; done)) subH_nil)) (subH_same rfl (subH_same rfl subH_nil))))
         ·try dsimp only
          omega
         ·try dsimp only
          omega
       ·refine wp_exit' (to_k0 (fun _ _ h => h) (hK19 _ _ _ _ _ ?_))
        clear hK19
        refine wp_seq' fun K28 hK28 => ?_
        refine wp_reg ?_
        refine ol_r (r_move rfl) rfl ?_
        refine ol_r (r_assign rfl) rfl ?_
        refine ol_nil (to_k0 (fun _ _ h => h) (hK28 _ _ _ _ _ ?_))
        clear hK28
        refine hQ.ret (rvs1 (rv_t rfl)) (fun _ _ h => h) fun w hb hs hB hkd => ?_
        have hk4 : k3 = m := by omega
        subst hk4
        have hfin : rowP S S.length = placesS xs := by
          have hSF : S = firsts (sortL sclt xs) [] := hS.trans hB9
          unfold rowP placesS
          rw [← hSF, List.drop_length, List.map_nil, List.append_nil]
        exact ⟨_, _, _, rfl, hb, by rw [← hfin, hSl]; exact hs.ok 8 _ rfl⟩
     ·refine ol_r (r_extract rfl rfl) rfl ?_
      refine ol_nil (to_k0 (fun _ _ h => h) (hK16 _ _ _ _ _ ?_))
      clear hK16
      refine wp_seq' fun K29 hK29 => ?_
      refine wp_condT rfl ?_
      refine wp_skip' (to_k0 (fun _ _ h => h) (hK29 _ _ _ _ _ ?_))
      clear hK29
      refine wp_block' ?_
      refine wp_seq' fun K30 hK30 => ?_
      refine wp_reg ?_
      refine ol_r (r_entry (K := Value.string) (V := encScore.val) (idi := 40) rfl rfl (mapB_own (id := 12) rfl) hbs40.2.1 hv41) rfl ?_
      refine ol_r (r_extract rfl rfl) rfl ?_
      have hmr := hV.more hj41 (List.getElem?_eq_some_iff.1 (valsB_get hv41)).1
      rw [valsB_len] at hmr
      refine ol_alloc 10 z24 rfl fun b10 => ?_
      refine ol_store (id := 10) rfl rfl rfl rfl sz24 rfl rfl (by first | decide | exact Nat.zero_lt_succ _ | simp) ?_
      refine ol_nil (to_k0 (fun _ _ h => h) (hK30 _ _ _ _ _ ?_))
      clear hK30
      refine wp_reg ?_
      refine ol_r (r_move rfl) rfl ?_
      refine ol_r (r_lda (id := 10) (n := 3) rfl rfl rfl ag24) rfl ?_
      refine ol_r (r_build rfl (fun _ => bd32_1 _ _ _ _)) rfl ?_
      refine ol_bs1 48 rfl rfl rw25 rfl rfl rfl fun a48 => ?_
      refine ol_append1 (id := 8) (id2 := 48) rfl rfl rfl rfl rfl rw25 (by omega) rfl fun a49 c49 => ?_
      refine ol_r (r_assign rfl) rfl ?_
      refine ol_nil (to_k0 (fun _ _ h => h) (hK15 ((js ++ [j41], ks ++ [v41], _, _, _)) _ _ ?_ ?_ (sub_cons rfl sub_nil) (sub_cons rfl (sub_cons rfl sub_nil)) (by exact (subH_row rfl (by first | (dsimp only; rw [Enc.enc_append]; rfl; done) | (rw [Enc.enc_append]; rfl; done) | (dsimp only; done)) (subH_same rfl subH_nil))) (subH_same rfl subH_nil)))
      ·try dsimp only
       exact ⟨by rw [List.length_append, hm]; rfl, hV.step hj41 (valsB_get hv41)⟩
      ·try dsimp only
       rw [List.length_append, List.length_singleton]; omega
theorem match_Places (a : Option Addr) (n c : Nat) (xs : List ScoreR) (w : World) (hx : Rd encScore w.heap.size w a n c xs) (hnm : ∀ x ∈ xs, x.name.size ≤ 9223372036854775807) :
    Calls Try.prog 8 #[.slice a n c] w fun e w' => ∃ b m k, e = .returned (.tuple #[.slice b m k, .int .i64 (placesR xs).2]) ∧ Fresh encPlace 32 w w' b m k (placesR xs).1 := by
  have hsn := hx.len
  have hsf := hx.fit
  refine enterQ (N := 24) (C := fun _ => True) (H := []) (B := w.heap.size) (args := [_]) Try.func8 rfl rfl rfl (Nat.le_refl _) (Sat.nil _ _) fun Q hQ => ?_
  refine wp_seq' fun K1 hK1 => ?_
  refine wp_reg ?_
  refine ol_r (r_assign rfl) rfl ?_
  refine ol_r (r_assign rfl) rfl ?_
  refine ol_nil (to_k0 (fun _ _ h => h) (hK1 _ _ _ _ _ ?_))
  clear hK1
  refine wp_seq' fun K2 hK2 => ?_
  refine wp_seq' fun K3 hK3 => ?_
  refine wp_reg ?_
  refine ol_r (r_move rfl) rfl ?_
  refine ol_r (r_len rfl sl22) rfl ?_
  refine ol_r (r_gtr rfl rfl) rfl ?_
  refine ol_nil (to_k0 (fun _ _ h => h) (hK3 _ _ _ _ _ ?_))
  clear hK3
  first | refine wp_condD rfl (fun hc9 => ?_) (fun hc9 => ?_) | refine wp_condN rfl (fun hc9 => ?_) (fun hc9 => ?_) | refine wp_condNB rfl (fun hc9 => ?_) (fun hc9 => ?_) | refine wp_cond' rfl (fun hc9 => ?_) (fun hc9 => ?_)
  ·refine wp_seq' fun K4 hK4 => ?_
   refine wp_reg ?_
   refine ol_r (r_assign rfl) rfl ?_
   refine ol_r (r_assign rfl) rfl ?_
   refine ol_nil (to_k0 (fun _ _ h => h) (hK4 _ _ _ _ _ ?_))
   clear hK4
   refine hQ.ret (rvs2 (rv_t rfl) (rv_t rfl)) (fun _ _ h => h) fun w hb hs hB hkd => ?_
   have h1 := placesR_3 (l := xs) (by omega)
   exact ⟨none, 0, 0, by rw [h1], by rw [h1]; exact Fresh.nil hb⟩
  ·refine wp_skip' (to_k0 (fun _ _ h => h) (hK2 _ _ _ _ _ ?_))
   clear hK2
   refine wp_seq' fun K5 hK5 => ?_
   refine wp_seq' fun K6 hK6 => ?_
   refine wp_reg ?_
   refine ol_r (r_move rfl) rfl ?_
   refine ol_r (r_len rfl sl22) rfl ?_
   refine ol_r (r_move rfl) rfl ?_
   refine ol_nil (to_k0 (fun _ _ h => h) (hK6 _ _ _ _ _ ?_))
   clear hK6
   refine wp_block' ?_
   apply wp_loopM (σ := Nat) (fun s => s ≤ n ∧ chkE (fun _ x => chkEn x) none xs = chkE (fun _ x => chkEn x) (ahead xs s) (xs.drop s)) (fun s => [(12, .int .i64 s)]) [(0, _), (10, _), (11, _)] (fun s => []) [] (fun s => n - s) (0)
   ·try dsimp only
    exact ⟨Nat.zero_le _, chkE_start _ _⟩
   ·exact (sub_cons rfl sub_nil)
   ·exact (sub_cons rfl (sub_cons rfl (sub_cons rfl sub_nil)))
   ·exact subH_nil
   ·exact subH_nil
   ·rintro k ⟨hk, hP⟩
    intro K7 hK7
    refine wp_seq' fun K8 hK8 => ?_
    refine wp_reg ?_
    refine ol_r (r_lss rfl rfl) rfl ?_
    refine ol_nil (to_k0 (fun _ _ h => h) (hK8 _ _ _ _ _ ?_))
    clear hK8
    refine wp_seq' fun K9 hK9 => ?_
    first | refine wp_condD rfl (fun hc13 => ?_) (fun hc13 => ?_) | refine wp_condN rfl (fun hc13 => ?_) (fun hc13 => ?_) | refine wp_condNB rfl (fun hc13 => ?_) (fun hc13 => ?_) | refine wp_cond' rfl (fun hc13 => ?_) (fun hc13 => ?_)
    ·refine wp_skip' (to_k0 (fun _ _ h => h) (hK9 _ _ _ _ _ ?_))
     clear hK9
     refine wp_seq' fun K10 hK10 => ?_
     refine wp_block' ?_
     refine wp_seq' fun K11 hK11 => ?_
     refine wp_reg ?_
     refine ol_ixr hx rfl rfl sl22 (by omega) rfl fun x14 hx14 => ?_
     try simp only [Int.toNat_natCast] at hx14
     refine ol_r (r_ldw rfl (fun w1 hb1 hs1 hB1 => Rd.loads hx ty24 hx14 hb1)) rfl ?_
     refine ol_alloc 5 z24 rfl fun b5 => ?_
     refine ol_store (id := 5) rfl rfl rfl rfl sz24 rfl rfl (by first | decide | exact Nat.zero_lt_succ _ | simp) ?_
     refine ol_nil (to_k0 (fun _ _ h => h) (hK11 _ _ _ _ _ ?_))
     clear hK11
     refine wp_seq' fun K12 hK12 => ?_
     refine wp_reg ?_
     refine ol_r (r_lda (id := 5) (n := 3) rfl rfl rfl ag24) rfl ?_
     refine ol_call rfl rfl cb10 rfl (fun w1 hb1 hs1 hB1 => Calls.mono (match_CheckEntry x14 _ (hnm _ (List.mem_of_getElem? hx14))) ?_)
     rintro e w2 ⟨rfl, hb2⟩
     refine After.below rfl hb1 hs1 hB1 hb2 ?_
     clear hb2 hB1 hs1 hb1 w2 w1
     refine ol_r (r_assign rfl) rfl ?_
     refine ol_nil (to_k0 (fun _ _ h => h) (hK12 _ _ _ _ _ ?_))
     clear hK12
     refine wp_seq' fun K13 hK13 => ?_
     refine wp_reg ?_
     refine ol_r (r_move rfl) rfl ?_
     refine ol_r (r_neq rfl rfl) rfl ?_
     refine ol_nil (to_k0 (fun _ _ h => h) (hK13 _ _ _ _ _ ?_))
     clear hK13
     first | refine wp_condD rfl (fun hc19 => ?_) (fun hc19 => ?_) | refine wp_condN rfl (fun hc19 => ?_) (fun hc19 => ?_) | refine wp_condNB rfl (fun hc19 => ?_) (fun hc19 => ?_) | refine wp_cond' rfl (fun hc19 => ?_) (fun hc19 => ?_)
     ·refine wp_seq' fun K14 hK14 => ?_
      refine wp_reg ?_
      refine ol_r (r_move rfl) rfl ?_
      refine ol_r (r_assign rfl) rfl ?_
      refine ol_r (r_assign rfl) rfl ?_
      refine ol_nil (to_k0 (fun _ _ h => h) (hK14 _ _ _ _ _ ?_))
      clear hK14
      refine hQ.ret (rvs2 (rv_t rfl) (rv_t rfl)) (fun _ _ h => h) fun w hb hs hB hkd => ?_
      have h2 := chkE_bad hP hx14 rfl hc19
      have h1 := placesR_e (l := xs) (by omega) (by rw [h2]; exact hc19)
      exact ⟨none, 0, 0, by rw [h1, h2], by rw [h1]; exact Fresh.nil hb⟩
     ·refine wp_skip' (to_k0 (fun _ _ h => h) (hK10 _ _ _ _ _ ?_))
      clear hK10
      refine wp_reg ?_
      refine ol_r (r_add rfl rfl (by omega)) rfl ?_
      refine ol_r (r_move rfl) rfl ?_
      refine ol_nil (to_k0 (fun _ _ h => h) (hK7 (k + 1) _ _ ?_ ?_ (sub_cons rfl sub_nil) (sub_cons rfl (sub_cons rfl (sub_cons rfl sub_nil))) (by exact subH_nil) subH_nil))
      ·try dsimp only
       exact ⟨by omega, chkE_next hP hx14 (Decidable.not_not.1 hc19)⟩
      ·try dsimp only
       omega
    ·refine wp_exit' (to_k0 (fun _ _ h => h) (hK5 _ _ _ _ _ ?_))
     clear hK5
     refine wp_seq' fun K15 hK15 => ?_
     refine wp_reg ?_
     refine ol_r (r_move rfl) rfl ?_
     refine ol_call rfl rfl cb42 rfl (fun w1 hb1 hs1 hB1 => Calls.mono (match_places _ _ _ xs _ (hx.at hb1 hB1) (by omega)) ?_)
     rintro e w2 ⟨a23, n23, c23, rfl, hf23⟩
     refine After.fresh (id := 23) rfl hb1 hs1 hB1 hf23 ?_
     have hl23 := hf23.len; clear hf23 hB1 hs1 hb1 w2 w1
     refine ol_r (r_assign rfl) rfl ?_
     refine ol_r (r_assign rfl) rfl ?_
     refine ol_nil (to_k0 (fun _ _ h => h) (hK15 _ _ _ _ _ ?_))
     clear hK15
     refine hQ.ret (rvs2 (rv_t rfl) (rv_t rfl)) (fun _ _ h => h) fun w hb hs hB hkd => ?_
     have h1 := placesR_0 (l := xs) (by omega) (chkE_end hP (by omega))
     exact ⟨_, _, _, by rw [h1], by rw [h1]; exact ⟨hb, hs.ok 23 _ rfl⟩⟩
theorem beq_bytes (x : ByteArray) : (x == x) = true := by
  cases x
  show (ByteArray.beq _ _) = true
  unfold ByteArray.beq
  simp
theorem place_ne (x : PlaceR) : eqs [Value.int .i64 x.rank, .string x.sc.name, .int .i64 x.sc.start, .int .i64 x.sc.time] [.int .i64 x.rank, .string x.sc.name, .int .i64 x.sc.start, .int .i64 x.sc.time] = true := by simp [eqs, eqV, beq_bytes]
theorem equal_place_same (a b : Option Addr) (n ca cb : Nat) (xs : List PlaceR) (w : World) (hx : Rd encPlace w.heap.size w a n ca xs) (hy : Rd encPlace w.heap.size w b n cb xs) :
    Calls Try.prog 12 #[.slice a n ca, .slice b n cb] w fun e w' => e = .returned (.bool true) ∧ Below w.heap.size w w' := by
  have hxf := hx.fit
  have hxl := hx.len
  refine enterQ (N := 26) (C := fun _ => True) (H := []) (B := w.heap.size) (args := [_, _]) Try.func12 rfl rfl rfl (Nat.le_refl _) (Sat.nil _ _) fun Q hQ => ?_
  refine wp_seq' fun K1 hK1 => ?_
  refine wp_reg ?_
  refine ol_r (r_assign rfl) rfl ?_
  refine ol_nil (to_k0 (fun _ _ h => h) (hK1 _ _ _ _ _ ?_))
  clear hK1
  refine wp_seq' fun K2 hK2 => ?_
  refine wp_seq' fun K3 hK3 => ?_
  refine wp_reg ?_
  refine ol_r (r_move rfl) rfl ?_
  refine ol_r (r_len rfl sl25) rfl ?_
  refine ol_r (r_move rfl) rfl ?_
  refine ol_r (r_len rfl sl25) rfl ?_
  refine ol_r (r_neq rfl rfl) rfl ?_
  refine ol_nil (to_k0 (fun _ _ h => h) (hK3 _ _ _ _ _ ?_))
  clear hK3
  first | refine wp_condD rfl (fun hc10 => ?_) (fun hc10 => ?_) | refine wp_condN rfl (fun hc10 => ?_) (fun hc10 => ?_) | refine wp_condNB rfl (fun hc10 => ?_) (fun hc10 => ?_) | refine wp_cond' rfl (fun hc10 => ?_) (fun hc10 => ?_)
  ·exfalso
   omega
  ·refine wp_skip' (to_k0 (fun _ _ h => h) (hK2 _ _ _ _ _ ?_))
   clear hK2
   refine wp_seq' fun K4 hK4 => ?_
   refine wp_seq' fun K5 hK5 => ?_
   refine wp_reg ?_
   refine ol_r (r_move rfl) rfl ?_
   refine ol_r (r_len rfl sl25) rfl ?_
   refine ol_r (r_move rfl) rfl ?_
   refine ol_nil (to_k0 (fun _ _ h => h) (hK5 _ _ _ _ _ ?_))
   clear hK5
   refine wp_block' ?_
   apply wp_loopM (σ := Nat) (fun s => s ≤ n) (fun s => [(13, .int .i64 s)]) [(0, _), (1, _), (12, _)] (fun s => []) [] (fun s => n - s) (0)
   ·try dsimp only
    omega
   ·exact (sub_cons rfl sub_nil)
   ·exact (sub_cons rfl (sub_cons rfl (sub_cons rfl sub_nil)))
   ·exact subH_nil
   ·exact subH_nil
   ·rintro k hk
    intro K6 hK6
    refine wp_seq' fun K7 hK7 => ?_
    refine wp_reg ?_
    refine ol_r (r_lss rfl rfl) rfl ?_
    refine ol_nil (to_k0 (fun _ _ h => h) (hK7 _ _ _ _ _ ?_))
    clear hK7
    refine wp_seq' fun K8 hK8 => ?_
    first | refine wp_condD rfl (fun hc14 => ?_) (fun hc14 => ?_) | refine wp_condN rfl (fun hc14 => ?_) (fun hc14 => ?_) | refine wp_condNB rfl (fun hc14 => ?_) (fun hc14 => ?_) | refine wp_cond' rfl (fun hc14 => ?_) (fun hc14 => ?_)
    ·refine wp_skip' (to_k0 (fun _ _ h => h) (hK8 _ _ _ _ _ ?_))
     clear hK8
     refine wp_seq' fun K9 hK9 => ?_
     refine wp_block' ?_
     refine wp_seq' fun K10 hK10 => ?_
     refine wp_reg ?_
     refine ol_r (r_move rfl) rfl ?_
     refine ol_r (r_assign rfl) rfl ?_
     refine ol_nil (to_k0 (fun _ _ h => h) (hK10 _ _ _ _ _ ?_))
     clear hK10
     refine wp_seq' fun K11 hK11 => ?_
     refine wp_regq (by kernel_rfl) (by kernel_rfl) ?_
     refine ql_r (r_move rfl) rfl ?_
     refine ql_r (r_move rfl) rfl ?_
     refine ql_ixr hx rfl rfl sl25 (by omega) rfl fun x18 hx18 => ?_
     try simp only [Int.toNat_natCast] at hx18
     refine ql_r (r_ldw rfl (fun w1 hb1 hs1 hB1 => Rd.loads hx ty32 hx18 hb1)) rfl ?_
     refine ql_r (r_move rfl) rfl ?_
     refine ql_r (r_move rfl) rfl ?_
     refine ql_ixr hy rfl rfl sl25 (by omega) rfl fun x22 hx22 => ?_
     try simp only [Int.toNat_natCast] at hx22
     refine ql_r (r_ldw rfl (fun w1 hb1 hs1 hB1 => Rd.loads hy ty32 hx22 hb1)) rfl ?_
     obtain rfl : x18 = x22 := by rw [hx18] at hx22; cases hx22; rfl
     refine ql_r (r_nes rfl rfl (by kernel_rfl) (fun w => run_eqsG (by kernel_rfl) (by kernel_rfl) w)) rfl ?_
     refine ql_nil (to_k0 (fun _ _ h => h) (hK11 _ _ _ _ _ ?_))
     clear hK11
     first | refine wp_condD rfl (fun hc24 => ?_) (fun hc24 => ?_) | refine wp_condN rfl (fun hc24 => ?_) (fun hc24 => ?_) | refine wp_condNB rfl (fun hc24 => ?_) (fun hc24 => ?_) | refine wp_cond' rfl (fun hc24 => ?_) (fun hc24 => ?_)
     ·exfalso
      rw [place_ne] at hc24; simp at hc24
     ·refine wp_skip' (to_k0 (fun _ _ h => h) (hK9 _ _ _ _ _ ?_))
      clear hK9
      refine wp_reg ?_
      refine ol_r (r_add rfl rfl (by omega)) rfl ?_
      refine ol_r (r_move rfl) rfl ?_
      refine ol_nil (to_k0 (fun _ _ h => h) (hK6 (k + 1) _ _ ?_ ?_ (sub_cons rfl sub_nil) (sub_cons rfl (sub_cons rfl (sub_cons rfl sub_nil))) (by exact subH_nil) subH_nil))
      ·try dsimp only
       omega
      ·try dsimp only
       omega
    ·refine wp_exit' (to_k0 (fun _ _ h => h) (hK4 _ _ _ _ _ ?_))
     clear hK4
     refine wp_seq' fun K12 hK12 => ?_
     refine wp_reg ?_
     refine ol_r (r_assign rfl) rfl ?_
     refine ol_nil (to_k0 (fun _ _ h => h) (hK12 _ _ _ _ _ ?_))
     clear hK12
     refine hQ.ret (rvs1 (rv_t rfl)) (fun _ _ h => h) fun w hb hs hB hkd => ?_
     exact ⟨rfl, hb⟩
end Go.Proofs.Ytjflbnbofedlkaa

/-
  Boards: plain part.
-/

namespace Go.Proofs.Ytjflbnbofedlkaa
open Hx
set_option linter.unusedVariables false
set_option linter.unusedSimpArgs false
abbrev NM := List (ScoreR × Int)
def cnt (l : List ScoreR) (x : ScoreR) : Nat := l.countP fun y => decide (y = x)
/-- How often each entry is there. -/
structure BrdOk (L : List ScoreR) (D : NM) : Prop where
  nd : (pKeys D).Nodup
  is : ∀ x, (pO D x).getD 0 = (cnt L x : Int)
  pos : ∀ x v, pO D x = some v → 0 < v
theorem cnt_app (l : List ScoreR) (x y : ScoreR) : cnt (l ++ [x]) y = cnt l y + if x = y then 1 else 0 := by
  unfold cnt
  rw [List.countP_append, List.countP_singleton]
  by_cases h : x = y
  · simp [h]
  · simp [h]
theorem cnt_pos {l : List ScoreR} {x : ScoreR} : 0 < cnt l x ↔ x ∈ l := by
  unfold cnt
  rw [List.countP_pos_iff]
  constructor
  · rintro ⟨y, hy, h⟩; have := of_decide_eq_true h; subst this; exact hy
  · intro h; exact ⟨x, h, by simp⟩
theorem BrdOk.nil : BrdOk [] [] := ⟨List.nodup_nil, fun x => rfl, fun x v h => by simp [pO] at h⟩
theorem BrdOk.put {L : List ScoreR} {D : NM} (h : BrdOk L D) (x : ScoreR) : BrdOk (L ++ [x]) (pS D x ((pO D x).getD 0 + 1)) := by
  refine ⟨nodup_pS h.nd, fun y => ?_, fun y v hv => ?_⟩
  · rw [pO_pS, cnt_app]
    by_cases hy : x = y
    · subst hy; rw [if_pos rfl, if_pos rfl, Option.getD_some, h.is]; omega
    · rw [if_neg hy, if_neg hy, h.is]; omega
  · rw [pO_pS] at hv
    by_cases hy : x = y
    · rw [if_pos hy] at hv; cases hv; rw [h.is]; omega
    · rw [if_neg hy] at hv; exact h.pos y v hv
theorem cnt_erase {L : List ScoreR} {i : Nat} {x : ScoreR} (hi : L[i]? = some x) (y : ScoreR) : cnt (L.take i ++ L.drop (i + 1)) y + (if x = y then 1 else 0) = cnt L y := by
  have h1 : cnt L y = cnt (L.take i ++ L.drop i) y := by rw [List.take_append_drop]
  rw [h1, drop_of hi]
  unfold cnt
  rw [List.countP_append, List.countP_append, List.countP_cons]
  by_cases h : x = y
  · simp [h]; omega
  · simp [h]
/-- One is taken away. -/
theorem BrdOk.take {L : List ScoreR} {D : NM} {i : Nat} {x : ScoreR} (h : BrdOk L D) (hi : L[i]? = some x) :
    ((pO D x).getD 0 - 1 = 0 → BrdOk (L.take i ++ L.drop (i + 1)) (pD (pS D x ((pO D x).getD 0 - 1)) x)) ∧ ((pO D x).getD 0 - 1 ≠ 0 → BrdOk (L.take i ++ L.drop (i + 1)) (pS D x ((pO D x).getD 0 - 1))) := by
  have hc := fun y => cnt_erase hi y
  have hx := hc x
  rw [if_pos rfl] at hx
  have hD := h.is x
  have hnd := nodup_pS (k := x) (v := (pO D x).getD 0 - 1) h.nd
  constructor
  · intro h0
    refine ⟨nodup_pD hnd, fun y => ?_, fun y v hv => ?_⟩
    · rw [pO_pD _ _ hnd]
      by_cases hy : x = y
      · subst hy; rw [if_pos rfl]; show (0 : Int) = _; omega
      · rw [if_neg hy, pO_pS, if_neg hy, h.is]; have := hc y; rw [if_neg hy] at this; omega
    · rw [pO_pD _ _ hnd] at hv
      by_cases hy : x = y
      · rw [if_pos hy] at hv; cases hv
      · rw [if_neg hy, pO_pS, if_neg hy] at hv; exact h.pos y v hv
  · intro h0
    refine ⟨hnd, fun y => ?_, fun y v hv => ?_⟩
    · rw [pO_pS]
      by_cases hy : x = y
      · subst hy; rw [if_pos rfl, Option.getD_some]; omega
      · rw [if_neg hy, h.is]; have := hc y; rw [if_neg hy] at this; omega
    · rw [pO_pS] at hv
      by_cases hy : x = y
      · rw [if_pos hy] at hv; cases hv; omega
      · rw [if_neg hy] at hv; exact h.pos y v hv
theorem BrdOk.mem {L : List ScoreR} {D : NM} (h : BrdOk L D) (x : ScoreR) : x ∈ pKeys D ↔ x ∈ L := by
  have h1 := @pO_none ScoreR Int _ x D
  rw [← @cnt_pos L x]
  have h2 := h.is x
  constructor
  · intro hx
    cases hD : pO D x with
    | none => exact absurd hx (h1.1 hD)
    | some v => have := h.pos x v hD; rw [hD, Option.getD_some] at h2; omega
  · intro hx
    refine Decidable.byContradiction fun hn => ?_
    rw [h1.2 hn] at h2
    simp at h2; omega
theorem BrdOk.len {L : List ScoreR} {D : NM} (h : BrdOk L D) : D.length ≤ L.length := by
  have := List.Nodup.length_le_of_subset (l₂ := L) h.nd fun x hx => (h.mem x).1 hx
  rwa [pKeys, List.length_map] at this
theorem placesS_congr {l m : List ScoreR} (h : ∀ x, x ∈ l ↔ x ∈ m) : placesS l = placesS m := by
  have hl := sortL_srt sclt_tot l
  have hm := sortL_srt sclt_tot m
  have : firsts (sortL sclt l) [] = firsts (sortL sclt m) [] := by
    refine srt_unique sclt_tot (hl.sublist (firsts_sub _ _)) (hm.sublist (firsts_sub _ _)) ((List.perm_ext_iff_of_nodup (nodup_of_map (firsts_name _ _).2) (nodup_of_map (firsts_name _ _).2)).2 fun x => ?_)
    rw [firsts_mem _ _ hl, firsts_mem _ _ hm, (sortL_perm l).mem_iff, (sortL_perm m).mem_iff, h]
    constructor
    · rintro ⟨h1, h2, h3⟩; exact ⟨h1, h2, fun y hy => h3 y ((sortL_perm l).mem_iff.2 ((h y).2 ((sortL_perm m).mem_iff.1 hy)))⟩
    · rintro ⟨h1, h2, h3⟩; exact ⟨h1, h2, fun y hy => h3 y ((sortL_perm m).mem_iff.2 ((h y).1 ((sortL_perm l).mem_iff.1 hy)))⟩
  unfold placesS
  rw [this]
/-- The first place of an entry. -/
theorem kIdx_first {L : List ScoreR} {k : Nat} {x y : ScoreR} (hP : ∀ i, i < k → L[i]? ≠ some x) (hx : L[k]? = some y) (h : y = x) : kIdx L x = some k := by
  subst h
  induction L generalizing k with
  | nil => simp at hx
  | cons a r ih =>
    rw [kIdx]
    cases k with
    | zero => simp at hx; rw [if_pos hx]
    | succ k =>
      have h0 : a ≠ y := fun h => hP 0 (by omega) (by rw [h]; rfl)
      rw [if_neg h0, ih (k := k) (by simpa using hx) (fun i hi => by have := hP (i + 1) (by omega); simpa using this)]; rfl
theorem kIdx_miss {L : List ScoreR} {x : ScoreR} (hP : ∀ i, i < L.length → L[i]? ≠ some x) : kIdx L x = none := by
  rw [kIdx_none]
  intro h
  obtain ⟨i, hi⟩ := List.getElem?_of_mem h
  exact hP i (List.getElem?_eq_some_iff.1 hi).1 hi
/-- What is left when one is taken away. -/
def takeR (L : List ScoreR) (x : ScoreR) : List ScoreR × Int := if chkEn x ≠ 0 then (L, chkEn x) else match kIdx L x with | some i => (L.take i ++ L.drop (i + 1), 0) | none => (L, 4)
def addR (L : List ScoreR) (x : ScoreR) : List ScoreR × Int := if chkEn x ≠ 0 then (L, chkEn x) else if L.length ≥ 5000 then (L, 3) else (L ++ [x], 0)
theorem cnt_le (L : List ScoreR) (x : ScoreR) : cnt L x ≤ L.length := List.countP_le_length
theorem addR_e {L : List ScoreR} {x : ScoreR} (h : chkEn x ≠ 0) : addR L x = (L, chkEn x) := if_pos h
theorem addR_3 {L : List ScoreR} {x : ScoreR} (h : chkEn x = 0) (h2 : L.length ≥ 5000) : addR L x = (L, 3) := by rw [addR, if_neg (fun h3 => h3 h), if_pos h2]
theorem addR_0 {L : List ScoreR} {x : ScoreR} (h : chkEn x = 0) (h2 : ¬L.length ≥ 5000) : addR L x = (L ++ [x], 0) := by rw [addR, if_neg (fun h3 => h3 h), if_neg h2]
theorem takeR_e {L : List ScoreR} {x : ScoreR} (h : chkEn x ≠ 0) : takeR L x = (L, chkEn x) := if_pos h
theorem takeR_4 {L : List ScoreR} {x : ScoreR} (h : chkEn x = 0) (h2 : x ∉ L) : takeR L x = (L, 4) := by rw [takeR, if_neg (fun h3 => h3 h), kIdx_none.2 h2]
theorem takeR_0 {L : List ScoreR} {x : ScoreR} (h : chkEn x = 0) (h2 : x ∈ L) : ∃ i, L[i]? = some x ∧ kIdx L x = some i ∧ takeR L x = (L.take i ++ L.drop (i + 1), 0) := by
  cases hk : kIdx L x with
  | none => exact absurd h2 (kIdx_none.1 hk)
  | some i => exact ⟨i, kIdx_some hk, rfl, by rw [takeR, if_neg (fun h3 => h3 h), hk]⟩
theorem erase_len {L : List ScoreR} {i : Nat} {x : ScoreR} (h : L[i]? = some x) : (L.take i ++ L.drop (i + 1)).length + 1 = L.length := by
  have := (List.getElem?_eq_some_iff.1 h).1
  rw [List.length_append, List.length_take, List.length_drop]; omega
theorem addR_zero {L : List ScoreR} {x : ScoreR} (h : (addR L x).2 = 0) : (addR L x).1 = L ++ [x] ∧ chkEn x = 0 ∧ L.length < 5000 := by
  unfold addR at *
  by_cases h1 : chkEn x ≠ 0
  · rw [if_pos h1] at h; exact absurd h h1
  rw [if_neg h1] at h ⊢
  by_cases h2 : L.length ≥ 5000
  · rw [if_pos h2] at h; cases h
  · rw [if_neg h2]; exact ⟨rfl, by omega, by omega⟩
theorem addR_same {L : List ScoreR} {x : ScoreR} (h : ¬(addR L x).2 = 0) : (addR L x).1 = L := by
  unfold addR at *
  by_cases h1 : chkEn x ≠ 0
  · rw [if_pos h1]
  rw [if_neg h1] at h ⊢
  by_cases h2 : L.length ≥ 5000
  · rw [if_pos h2]
  · rw [if_neg h2] at h; exact absurd rfl h
def idxSc (L : List ScoreR) (x : ScoreR) : Int := match kIdx L x with | some i => (i : Int) | none => -1
theorem takeR_zero {L : List ScoreR} {x : ScoreR} (h : (takeR L x).2 = 0) : ∃ i : Nat, L[i]? = some x ∧ idxSc L x = (i : Int) ∧ (takeR L x).1 = L.take i ++ L.drop (i + 1) := by
  unfold takeR at *
  by_cases h1 : chkEn x ≠ 0
  · rw [if_pos h1] at h; exact absurd h h1
  rw [if_neg h1] at h ⊢
  cases hk : kIdx L x with
  | none => rw [hk] at h; cases h
  | some i => exact ⟨i, kIdx_some hk, by rw [idxSc, hk], rfl⟩
theorem takeR_same {L : List ScoreR} {x : ScoreR} (h : ¬(takeR L x).2 = 0) : (takeR L x).1 = L := by
  unfold takeR at *
  by_cases h1 : chkEn x ≠ 0
  · rw [if_pos h1]
  rw [if_neg h1] at h ⊢
  cases hk : kIdx L x with
  | none => rfl
  | some i => rw [hk] at h; exact absurd rfl h
theorem placesR_rev {L : List ScoreR} (hl : L.length ≤ 5000) (hc : ∀ x ∈ L, chkEn x = 0) : placesR L.reverse = (placesS L, 0) := by
  rw [placesR_0 (by rw [List.length_reverse]; omega) (chkE_zero fun x hx _ => hc x (List.mem_reverse.1 hx)), placesS_congr (m := L) fun x => List.mem_reverse]
structure StepR where
  kind : Int
  sc : ScoreR
end Go.Proofs.Ytjflbnbofedlkaa

/-
  Maps: an entry that is asked for and written (m[k] op= v).
-/

namespace Go.Proofs.Ytjflbnbofedlkaa.Hx
open Go Go.RowKit Go.MapKept
set_option linter.unusedVariables false
set_option linter.unusedSimpArgs false
set_option linter.unusedSectionVars false
section
variable {α β : Type} [DecidableEq α] {K : α → Value} {V : β → Value}
/-- The map while an entry is open: the entry is there. -/
def MapEk (K : α → Value) (V : β → Value) (D : List (α × β)) (k : α) (u : β) (st : Nat) (o : Obj) : Prop := ∃ j, kIdx (pKeys (pS D k u)) k = some j ∧ MapE (pEnc K V (pS D k u)) j st o
theorem kIdx_pS (k : α) (v : β) : ∀ D : List (α × β), ∃ j, kIdx (pKeys (pS D k v)) k = some j
  | [] => ⟨0, by simp [pS, pKeys, kIdx]⟩
  | (a, b) :: r => by
    rw [pS]
    by_cases h : a = k
    · rw [if_pos h]; exact ⟨0, by simp [pKeys, kIdx, h]⟩
    · rw [if_neg h]
      obtain ⟨j, hj⟩ := kIdx_pS k v r
      refine ⟨j + 1, ?_⟩
      rw [pKeys, List.map_cons, kIdx, if_neg h]
      show (kIdx (pKeys (pS r k v)) k).map (· + 1) = _
      rw [hj]; rfl
theorem pS_pS (k : α) (u v : β) : ∀ D : List (α × β), pS (pS D k u) k v = pS D k v
  | [] => by simp [pS]
  | (a, b) :: r => by
    rw [pS]
    by_cases h : a = k
    · rw [if_pos h, pS, if_pos h, pS, if_pos h]
    · rw [if_neg h, pS, if_neg h, pS_pS k u v r, pS, if_neg h]
theorem pS_same {k : α} {u : β} : ∀ {D : List (α × β)}, pO D k = some u → pS D k u = D
  | [], h => by simp [pO] at h
  | (a, b) :: r, h => by
    rw [pO] at h
    rw [pS]
    by_cases ha : a = k
    · rw [if_pos ha] at h ⊢; cases h; rfl
    · rw [if_neg ha] at h ⊢; rw [pS_same h]
theorem modify_keys : ∀ (l : List MapEntry) (j : Nat) (f : MapEntry → MapEntry), (∀ e, l[j]? = some e → (f e).key = e.key ∧ (f e).val = e.val ∧ (f e).born = e.born) → (l.modify j f).map (fun e => (e.key, e.val)) = l.map (fun e => (e.key, e.val)) ∧ (l.modify j f).map (·.born) = l.map (·.born)
  | [], j, f, _ => by simp
  | e :: l, 0, f, h => by
    obtain ⟨h1, h2, h3⟩ := h e rfl
    simp [h1, h2, h3]
  | e :: l, j + 1, f, h => by
    obtain ⟨h1, h2⟩ := modify_keys l j f (fun e' he => h e' (by simpa using he))
    rw [List.modify_succ_cons, List.map_cons, List.map_cons, List.map_cons, List.map_cons, h1, h2]
    exact ⟨rfl, rfl⟩
theorem born_lt {l : List MapEntry} {l' : List MapEntry} {clock : Nat} (h : l'.map (·.born) = l.map (·.born)) (hc : ∀ x ∈ l, x.born < clock) : ∀ x ∈ l', x.born < clock := fun x hx => by
  have h1 : x.born ∈ l.map (·.born) := by rw [← h]; exact List.mem_map.2 ⟨x, hx, rfl⟩
  obtain ⟨y, hy, e⟩ := List.mem_map.1 h1
  rw [← e]; exact hc y hy
theorem modify_val (v : β) : ∀ (l : List MapEntry) (D : List (α × β)) (j : Nat) (k : α) (u : β), l.map (fun e => (e.key, e.val)) = pEnc K V D → D[j]? = some (k, u) → (l.modify j fun e => { e with val := V v }).map (fun e => (e.key, e.val)) = pEnc K V (D.set j (k, v)) ∧ (l.modify j fun e => { e with val := V v }).map (·.born) = l.map (·.born)
  | [], [], j, k, u, _, hj => by simp at hj
  | [], d :: D, j, k, u, h, _ => by simp [pEnc] at h
  | e :: l, [], j, k, u, h, _ => by simp [pEnc] at h
  | e :: l, d :: D, 0, k, u, h, hj => by
    simp at hj; subst hj
    simp [pEnc] at h ⊢
    exact ⟨h.1.1, h.2⟩
  | e :: l, d :: D, j + 1, k, u, h, hj => by
    have h1 : l.map (fun e => (e.key, e.val)) = pEnc K V D := by simp [pEnc] at h ⊢; exact h.2
    have h2 : (e.key, e.val) = (K d.1, V d.2) := by simp [pEnc] at h ⊢; exact h.1
    obtain ⟨a1, a2⟩ := modify_val v l D j k u h1 (by simpa using hj)
    rw [List.modify_succ_cons, List.map_cons, List.map_cons, List.map_cons, List.set_cons_succ, a1, a2, h2]
    exact ⟨rfl, rfl⟩
theorem entry_run {P : Program} {t : TypeId} {z : β} (hT : MapK P t K V z) {b clock : Nat} {ents : Array MapEntry} {D : List (α × β)} {w : World} (hb : w.heap[b]? = some (.map ents clock)) (he : ents.toList.map (fun e => (e.key, e.val)) = pEnc K V D) (hc : ∀ x ∈ ents.toList, x.born < clock) (hn : (ents.toList.map (·.born)).Nodup) (k : α) :
    ∃ o st, (Instr.mapEntry t (.map (some b)) (K k)).run P w = .ok (.tuple #[V ((pO D k).getD z), .int .i64 (st : Nat)]) { w with heap := w.heap.setIfInBounds b o } ∧ MapEk K V D k ((pO D k).getD z) st o := by
  obtain ⟨kt, et, hm, hK, hz⟩ := hT
  have hf := found (P := P) hK he k w
  simp only [Instr.mapEntry, Sem.run_bind, run_underlying hm, Result.andThen_ok, MapKept.run_getObj_map hb, hK.chk, hf]
  cases hj : kIdx (pKeys D) k with
  | none =>
    obtain ⟨h1, _, h3⟩ := pS_none hj
    have hlen := ents_len he
    obtain ⟨j, hj2⟩ := kIdx_pS k z D
    have hjl : j = D.length := by
      have h5 := kIdx_some hj2
      rw [h1 z, pKeys, List.map_append, List.getElem?_append] at h5
      by_cases hlt : j < (D.map (·.1)).length
      · rw [if_pos hlt] at h5
        exact absurd (List.mem_of_getElem? h5) (kIdx_none.1 hj)
      · rw [if_neg hlt] at h5
        have := (List.getElem?_eq_some_iff.1 h5).1
        simp at this hlt; omega
    refine ⟨.map (ents.push { key := K k, val := V z, born := clock }) (clock + 1), clock, ?_, j, by rw [h3]; exact hj2, _, _, rfl, ?_, ?_, ?_, ?_⟩
    · simp only [h3, Option.map_none, Option.bind_none, hz, Sem.run_bind, Result.andThen_ok, run_setObj_map _ hb, Sem.run_pure, goInt, Option.getD_none]
    · rw [h3, Option.getD_none, h1 z]; simp [pEnc] at he ⊢; exact he
    · intro x hx
      simp at hx
      rcases hx with hx | rfl
      · have := hc x (by simpa using hx); omega
      · exact Nat.lt_succ_self _
    · simp only [Array.toList_push, List.map_append, List.map_cons, List.map_nil]
      refine List.nodup_append.2 ⟨hn, by simp, fun x hx y hy => ?_⟩
      simp at hy; subst hy
      obtain ⟨e, he', rfl⟩ := List.mem_map.1 hx
      have := hc e he'; omega
    · rw [hjl, ← hlen]
      simp
  | some j =>
    obtain ⟨h1, _, b', h3, h4⟩ := pS_some hj
    obtain ⟨e, he1, he2, he3⟩ := ents_at he h4
    have he1' := he1
    rw [Array.getElem?_toList] at he1
    have hps : pS D k b' = D := pS_same h3
    have hkb : (Instr.keyThatStays (K k) (K k)).run P w = .ok (K k) w := by simp [Instr.keyThatStays, hK.bits k]
    obtain ⟨m1, m2⟩ := modify_keys ents.toList j (fun e => { e with key := K k }) (fun e' h => by rw [he1'] at h; cases h; exact ⟨he2.symm, rfl, rfl⟩)
    refine ⟨.map (ents.modify j fun e => { e with key := K k }) clock, e.born, ?_, j, by rw [h3, Option.getD_some, hps]; exact hj, _, _, rfl, ?_, ?_, ?_, ?_⟩
    · simp only [h3, Option.map_some, Option.bind_some, he1, Option.getD_some, he2, Sem.run_bind, hkb, Result.andThen_ok, run_setObj_map _ hb, Sem.run_pure, goInt]
    · rw [h3, Option.getD_some, hps, Array.toList_modify, m1]; exact he
    · rw [Array.toList_modify]; exact born_lt m2 hc
    · rw [Array.toList_modify, m2]; exact hn
    · rw [Array.toList_modify, m2, List.getElem?_map, he1']; rfl
theorem estore_run {P : Program} {t : TypeId} {z : β} {b clock st j : Nat} {ents : Array MapEntry} {D : List (α × β)} {k : α} {u : β} {w : World} (hb : w.heap[b]? = some (.map ents clock)) (hj : kIdx (pKeys (pS D k u)) k = some j) (he : ents.toList.map (fun e => (e.key, e.val)) = pEnc K V (pS D k u)) (hc : ∀ x ∈ ents.toList, x.born < clock) (hn : (ents.toList.map (·.born)).Nodup) (hst : (ents.toList.map (·.born))[j]? = some st) (v : β) :
    ∃ o, (Instr.entryStore t (.map (some b)) (.int .i64 (st : Nat)) (V v)).run P w = .ok () { w with heap := w.heap.setIfInBounds b o } ∧ MapO (pEnc K V (pS D k v)) o := by
  obtain ⟨h1, _, b', h3, h4⟩ := pS_some hj
  have hfi : ents.findIdx? (fun e => (e.born : Int) == (st : Int)) = some j := by
    rw [List.getElem?_map] at hst
    obtain ⟨e, he1, he2⟩ := Option.map_eq_some_iff.1 hst
    have hjl := (List.getElem?_eq_some_iff.1 he1).1
    refine Array.findIdx?_eq_some_iff_getElem.2 ⟨by simpa using hjl, ?_, fun i hi => ?_⟩
    · have : ents[j]'(by simpa using hjl) = e := by rw [← Array.getElem_toList]; exact (List.getElem?_eq_some_iff.1 he1).2
      simp [this, he2]
    · have hil : i < ents.toList.length := by omega
      have hne := (List.pairwise_iff_getElem.1 hn) i j (by simpa using hil) (by simpa using hjl) hi
      simp only [List.getElem_map] at hne
      have h5 : ents.toList[j] = e := (List.getElem?_eq_some_iff.1 he1).2
      rw [h5, he2] at hne
      simp only [beq_iff_eq]
      rw [← Array.getElem_toList]
      omega
  refine ⟨.map (ents.modify j fun e => { e with val := V v }) clock, ?_, ents.modify j (fun e => { e with val := V v }), clock, rfl, ?_, ?_, ?_⟩
  · simp only [Instr.entryStore, Sem.run_bind, MapKept.run_getObj_map hb, Result.andThen_ok, asInt, asIntOf, Sem.run_pure, hfi, run_setObj_map _ hb]
  · have := (modify_val (K := K) v ents.toList _ j k b' he h4).1
    rw [Array.toList_modify, this, ← h1 v, pS_pS]
  · rw [Array.toList_modify]; exact born_lt (modify_val (K := K) v ents.toList _ j k b' he h4).2 hc
  · rw [Array.toList_modify, (modify_val (K := K) v ents.toList _ j k b' he h4).2]; exact hn
end
section
variable {P : Program} {N : Fr} {B : Nat} {w0 : World} {Q : Exit → Act → World → Prop} {al : AL} {H : HL} {ops rest : List Oper} {d : Nat} {ty : TypeId} {pos : String} {after : Array Edge} {α β : Type} [DecidableEq α] {K : α → Value} {V : β → Value} {z : β}
theorem ol_mapentry {m ky : Operand} {t : TypeId} {b id : Nat} {D : List (α × β)} {k : α} (hm : ev al m = some (.map (some b))) (hk : ev al ky = some (K k)) (hH : look H id = some (.ob b (MapO (pEnc K V D)))) (hT : MapK P t K V z) (hC : N.c b) (hd : Nat.blt d N.n = true)
    (kk : ∀ st : Nat, OL P N B w0 ops rest Q ((d, .tuple #[V ((pO D k).getD z), .int .i64 (st : Int)]) :: al) ((id, .ob b (MapEk K V D k ((pO D k).getD z) st)) :: H)) :
    OL P N B w0 ops ({ dst := some d, op := .mapEntry t m ky, type := ty, pos, after, guard := none } :: rest) Q al H := by
  intro a w hst
  refine wpList_plain rfl fun K' hK' => ?_
  obtain ⟨_, o, hb, ⟨ents, clock, rfl, he, hc, hn⟩, _⟩ := hst.sat.ok _ _ hH
  obtain ⟨o', st, hrun, ho'⟩ := entry_run hT hb he hc hn k
  have hkn : Obj.known o' = true := by obtain ⟨_, _, _, _, rfl, _⟩ := ho'; rfl
  unfold Oper.wp
  simp only [execOp, hst.regs.eval hm, hst.regs.eval hk, Sem.run_bind, hrun, Result.andThen_ok, Sem.run_pure, Oper.upon_value]
  exact hK' _ _ (kk st _ _ (hst.turnO (hst.regs.put (by simpa using hd) _) hH hb ho' hkn hC))
theorem ol_entrystore {m s x : Operand} {t : TypeId} {b id st : Nat} {D : List (α × β)} {k : α} {u v : β} (hm : ev al m = some (.map (some b))) (hs : ev al s = some (.int .i64 (st : Int))) (hx : ev al x = some (V v)) (hH : look H id = some (.ob b (MapEk K V D k u st))) (hC : N.c b)
    (kk : OL P N B w0 ops rest Q al ((id, .ob b (MapO (pEnc K V (pS D k v)))) :: H)) :
    OL P N B w0 ops ({ dst := none, op := .entryStore t m s x, type := ty, pos, after, guard := none } :: rest) Q al H := by
  intro a w hst
  refine wpList_plain rfl fun K' hK' => ?_
  obtain ⟨_, o, hb, ⟨j, hj, ents, clock, rfl, he, hc, hn, hst'⟩, _⟩ := hst.sat.ok _ _ hH
  obtain ⟨o', hrun, ho'⟩ := estore_run (P := P) (t := t) (z := u) hb hj he hc hn hst' v
  unfold Oper.wp
  simp only [execOp, hst.regs.eval hm, hst.regs.eval hs, hst.regs.eval hx, Sem.run_bind, hrun, Result.andThen_ok, Sem.run_pure, Oper.upon_skip]
  exact hK' _ _ (kk _ _ (hst.turnO hst.regs hH hb ho' ho'.known hC))
theorem r_lookE {x ix : Operand} {t : TypeId} {b id st : Nat} {D : List (α × β)} {k : α} (hx : ev al x = some (.map (some b))) (hi : ev al ix = some (K k)) (hH : look H id = some (.ob b (MapEk K V D k ((pO D k).getD z) st))) (hT : MapK P t K V z) :
    Runs P N B w0 (.lookup t x ix false) ty al H (V ((pO D k).getD z)) := fun a w hst => by
  obtain ⟨_, o, hb, ⟨j, hj, ents, clock, rfl, he, _⟩, _⟩ := hst.sat.ok _ _ hH
  have h := look_run hT hb he k false
  rw [pO_pS, if_pos rfl] at h
  simp only [execOp, hst.regs.eval hx, hst.regs.eval hi, Sem.run_bind, h, Result.andThen_ok, Sem.run_pure, Option.getD_some]
  rfl
end
end Go.Proofs.Ytjflbnbofedlkaa.Hx

/-
  Entries under other numbers: a function that works in its caller's blocks.
-/

namespace Go.Proofs.Ytjflbnbofedlkaa.Hx
open Go Go.RowKit
def upH (k : Nat) (H : HL) : HL := H.map fun p => (p.1 + k, p.2)
theorem look_up (k : Nat) : ∀ (H : HL) (i : Nat), look (upH k H) (i + k) = look H i
  | [], i => rfl
  | (j, e) :: r, i => by
    show look ((j + k, e) :: upH k r) (i + k) = look ((j, e) :: r) i
    by_cases h : j = i
    · subst h; rw [look_cons_eq, look_cons_eq]
    · rw [look_cons_ne _ _ (by omega), look_cons_ne _ _ h, look_up k r i]
theorem look_up' (k : Nat) : ∀ (H : HL) (i : Nat) (e : Ent), look (upH k H) i = some e → ∃ j, i = j + k
  | [], i, e, h => by simp [upH, look] at h
  | (j, e') :: r, i, e, h => by
    by_cases hi : j + k = i
    · exact ⟨j, hi.symm⟩
    · have : look (upH k r) i = some e := by
        rw [← h]
        show _ = look ((j + k, e') :: upH k r) i
        rw [look_cons_ne _ _ hi]
      exact look_up' k r i e this
theorem Sat.up {B : Nat} {w : World} {H : HL} (k : Nat) (h : Sat B w H) : Sat B w (upH k H) := by
  refine ⟨fun i e hi => ?_, fun i j e f hij hi hj => ?_⟩
  · obtain ⟨j, rfl⟩ := look_up' k H i e hi
    rw [look_up] at hi
    exact h.ok j e hi
  · obtain ⟨i, rfl⟩ := look_up' k H i e hi
    obtain ⟨j, rfl⟩ := look_up' k H j f hj
    rw [look_up] at hi hj
    exact h.apart i j e f (by omega) hi hj
theorem Sat.down {B : Nat} {w : World} {H : HL} {H' : HL} (k : Nat) (h : Sat B w H) (hs : SubH (upH k H') H) : Sat B w H' := by
  have h1 := h.sub hs
  refine ⟨fun i e hi => h1.ok (i + k) e (by rw [look_up]; exact hi), fun i j e f hij hi hj => h1.apart (i + k) (j + k) e f (by omega) (by rw [look_up]; exact hi) (by rw [look_up]; exact hj)⟩
end Go.Proofs.Ytjflbnbofedlkaa.Hx

/-
  Boards: the program's methods.
-/




namespace Go.Proofs.Ytjflbnbofedlkaa
open Go Go.RowKit Hx
set_option linter.unusedVariables false
set_option linter.unusedSimpArgs false
set_option maxRecDepth 8000
theorem strKey_chk (e : Bool) (x : ByteArray) (w : World) (n : Nat) : (Instr.checkKey e (n + 1) 9 (.string x)).run Try.prog w = .ok () w := by
  rw [Instr.checkKey]
  simp only [Sem.run_bind, run_underlying (Try.underlying9), Result.andThen_ok]
  rfl
theorem score_chk (e : Bool) (a : ScoreR) (w : World) : (Instr.checkKey e 10000 24 (encScore.val a)).run Try.prog w = .ok () w := by
  show (Instr.checkKey e (9999 + 1) 24 (.agg #[.string a.name, .int .i64 a.start, .int .i64 a.time])).run Try.prog w = .ok () w
  rw [Instr.checkKey]
  have p0 := run_part_plain (P := Try.prog) w (e := 9) (by kernel_rfl) (xs := #[.string a.name, .int .i64 a.start, .int .i64 a.time]) (off := 0) rfl
  have p1 := run_part_plain (P := Try.prog) w (e := 3) (by kernel_rfl) (xs := #[.string a.name, .int .i64 a.start, .int .i64 a.time]) (off := 1) rfl
  have p2 := run_part_plain (P := Try.prog) w (e := 3) (by kernel_rfl) (xs := #[.string a.name, .int .i64 a.start, .int .i64 a.time]) (off := 2) rfl
  simp only [Sem.run_bind, run_underlying (Try.underlying24), Result.andThen_ok]
  simp [Sem.run_bind, p0, p1, p2, Result.andThen_ok, intKey_chk e _ w 9998, strKey_chk e _ w 9998]
theorem score_bits (a : ScoreR) : Instr.sameBits 10000 (encScore.val a) (encScore.val a) = true := by
  show Instr.sameBits (9999 + 1) (.agg #[.string a.name, .int .i64 a.start, .int .i64 a.time]) (.agg #[.string a.name, .int .i64 a.start, .int .i64 a.time]) = true
  simp [Instr.sameBits, beq_bytes]
theorem beq_bytes_iff (x y : ByteArray) : (x == y) = true ↔ x = y := by
  cases x; cases y
  show (ByteArray.beq _ _) = true ↔ _
  unfold ByteArray.beq
  simp
theorem score_eqs (a b : ScoreR) : eqs [Value.string a.name, .int .i64 a.start, .int .i64 a.time] [.string b.name, .int .i64 b.start, .int .i64 b.time] = decide (a = b) := by
  rw [Bool.eq_iff_iff, decide_eq_true_iff]
  simp only [eqs, eqV, Bool.and_eq_true, beq_bytes_iff, decide_eq_true_eq, Bool.and_true]
  cases a; cases b
  simp
theorem score_eq (a b : ScoreR) (w : World) : (Op.equal 24 (encScore.val a) (encScore.val b)).run Try.prog w = .ok (decide (a = b)) w := by
  have h := run_eqs (P := Try.prog) (t := 24) (us := [.string a.name, .int .i64 a.start, .int .i64 a.time]) (vs := [.string b.name, .int .i64 b.start, .int .i64 b.time]) (by kernel_rfl) (by kernel_rfl) w
  rw [score_eqs] at h
  exact h
theorem scoreK : KeyT Try.prog 24 encScore.val := KeyT.agg Try.underlying24 (fun _ _ => rfl) score_chk score_bits score_eq
abbrev I64 : Int → Value := Value.int .i64
theorem mk104 : MapK Try.prog 104 encScore.val I64 0 := ⟨_, _, Try.underlying104, scoreK, fun _ => Try.zeroValue3 _⟩
abbrev mB (E5 E6 E1 E2 : Ent) (bb bm : Nat) (n : Int) (D : NM) : HL := [(1103, .blk bb [(0, .map (some bm)), (1, .int .i64 n)] 106), (1101, .ob bm (MapO (pEnc encScore.val I64 D))), (1102, E5), (1106, E6), (105, E1), (107, E2)]
theorem match_Add (B : Nat) (w : World) (E5 E6 E1 E2 : Ent) (bb bm : Nat) (L : List ScoreR) (D : NM) (x : ScoreR) (hB0 : B ≤ w.heap.size) (hD : BrdOk L D) (hl : L.length ≤ 5000) (hn : x.name.size ≤ 9223372036854775807) (hs0 : Sat B w (mB E5 E6 E1 E2 bb bm L.length D)) :
    Calls Try.prog 23 #[.pointer (some ⟨bb, 0, none⟩), encScore.val x] w fun e w' => e = .returned (.int .i64 (addR L x).2) ∧ Below B w w' ∧ (∃ D', BrdOk (addR L x).1 D' ∧ Sat B w' (mB E5 E6 E1 E2 bb bm (addR L x).1.length D')) ∧ B ≤ w'.heap.size ∧ Kd (fun _ => True) w w' := by
  have hci := hD.is x
  have hcl := cnt_le L x
  refine enterQ (N := 32) (C := fun _ => True) (H := mB E5 E6 E1 E2 bb bm L.length D) (B := B) (args := [_, _]) Try.func23 rfl rfl rfl (hB0) (hs0) fun Q hQ => ?_
  refine wp_seq' fun K1 hK1 => ?_
  refine wp_reg ?_
  refine ol_box 3 rfl rfl rfl fun b3 => ?_
  refine ol_r (r_assign rfl) rfl ?_
  refine ol_nil (to_k0 (fun _ _ h => h) (hK1 _ _ _ _ _ ?_))
  clear hK1
  refine wp_seq' fun K2 hK2 => ?_
  refine wp_seq' fun K3 hK3 => ?_
  refine wp_reg ?_
  refine ol_r (r_lda (id := 3) (n := 3) rfl rfl rfl ag24) rfl ?_
  refine ol_call rfl rfl cb10 rfl (fun w1 hb1 hs1 hB1 => Calls.mono (match_CheckEntry x _ hn) ?_)
  rintro e w2 ⟨rfl, hb2⟩
  refine After.below rfl hb1 hs1 hB1 hb2 ?_
  clear hb2 hB1 hs1 hb1 w2 w1
  refine ol_r (r_assign rfl) rfl ?_
  refine ol_nil (to_k0 (fun _ _ h => h) (hK3 _ _ _ _ _ ?_))
  clear hK3
  refine wp_seq' fun K4 hK4 => ?_
  refine wp_reg ?_
  refine ol_r (r_move rfl) rfl ?_
  refine ol_r (r_neq rfl rfl) rfl ?_
  refine ol_nil (to_k0 (fun _ _ h => h) (hK4 _ _ _ _ _ ?_))
  clear hK4
  first | refine wp_condD rfl (fun hc9 => ?_) (fun hc9 => ?_) | refine wp_condN rfl (fun hc9 => ?_) (fun hc9 => ?_) | refine wp_condNB rfl (fun hc9 => ?_) (fun hc9 => ?_) | refine wp_cond' rfl (fun hc9 => ?_) (fun hc9 => ?_)
  ·refine wp_seq' fun K5 hK5 => ?_
   refine wp_reg ?_
   refine ol_r (r_move rfl) rfl ?_
   refine ol_r (r_assign rfl) rfl ?_
   refine ol_nil (to_k0 (fun _ _ h => h) (hK5 _ _ _ _ _ ?_))
   clear hK5
   refine hQ.ret (rvs1 (rv_t rfl)) (fun _ _ h => h) fun w hb hs hB hkd => ?_
   exact ⟨by rw [addR_e hc9], hb, ⟨D, by rw [addR_e hc9]; exact hD, by rw [addR_e hc9]; exact hs.sub (by repeat' first | exact subH_nil | refine subH_same rfl ?_)⟩, hB, hkd⟩
  ·refine wp_skip' (to_k0 (fun _ _ h => h) (hK2 _ _ _ _ _ ?_))
   clear hK2
   refine wp_seq' fun K6 hK6 => ?_
   refine wp_seq' fun K7 hK7 => ?_
   refine wp_reg ?_
   refine ol_r (r_move rfl) rfl ?_
   refine ol_r (r_nilS rfl (rfl)) rfl ?_
   refine ol_r (r_fa (o' := 1) rfl fl106_1 rfl) rfl ?_
   refine ol_r (r_ld (id := 1103) rfl rfl rfl sc3) rfl ?_
   refine ol_r (r_geq rfl rfl) rfl ?_
   refine ol_nil (to_k0 (fun _ _ h => h) (hK7 _ _ _ _ _ ?_))
   clear hK7
   first | refine wp_condD rfl (fun hc15 => ?_) (fun hc15 => ?_) | refine wp_condN rfl (fun hc15 => ?_) (fun hc15 => ?_) | refine wp_condNB rfl (fun hc15 => ?_) (fun hc15 => ?_) | refine wp_cond' rfl (fun hc15 => ?_) (fun hc15 => ?_)
   ·refine wp_seq' fun K8 hK8 => ?_
    refine wp_reg ?_
    refine ol_r (r_assign rfl) rfl ?_
    refine ol_nil (to_k0 (fun _ _ h => h) (hK8 _ _ _ _ _ ?_))
    clear hK8
    refine hQ.ret (rvs1 (rv_t rfl)) (fun _ _ h => h) fun w hb hs hB hkd => ?_
    have h3 := addR_3 (L := L) (Decidable.not_not.1 hc9) (by omega)
    exact ⟨by rw [h3], hb, ⟨D, by rw [h3]; exact hD, by rw [h3]; exact hs.sub (by repeat' first | exact subH_nil | refine subH_same rfl ?_)⟩, hB, hkd⟩
   ·refine wp_skip' (to_k0 (fun _ _ h => h) (hK6 _ _ _ _ _ ?_))
    clear hK6
    refine wp_seq' fun K9 hK9 => ?_
    refine wp_rega [(999, [(3, _), (105, _), (107, _), (1102, _), (1103, _), (1106, _)]), (7, [(1101, _)])] (by kernel_rfl) ⟨.inr (subH_same rfl (subH_same rfl (subH_same rfl (subH_same rfl (subH_same rfl (subH_same rfl subH_nil)))))), ⟨.inr (subH_same rfl subH_nil), trivial⟩⟩ ?_
    refine aq_r 0 999 rfl (by kernel_rfl) (by kernel_rfl) (by kernel_rfl) (.head _) (by kernel_rfl) (by kernel_rfl) rfl (r_move rfl) ?_
    refine aq_r 1 999 rfl (by kernel_rfl) (by kernel_rfl) (by kernel_rfl) (.head _) (by kernel_rfl) (by kernel_rfl) rfl (r_nilS rfl (rfl)) ?_
    refine aq_r 2 999 rfl (by kernel_rfl) (by kernel_rfl) (by kernel_rfl) (.head _) (by kernel_rfl) (by kernel_rfl) rfl (r_fa (o' := 0) rfl fl106_0 rfl) ?_
    refine aq_r 3 999 rfl (by kernel_rfl) (by kernel_rfl) (by kernel_rfl) (.head _) (by kernel_rfl) (by kernel_rfl) rfl (r_ld (id := 1103) rfl rfl rfl sc104) ?_
    refine aq_r 4 999 rfl (by kernel_rfl) (by kernel_rfl) (by kernel_rfl) (.head _) (by kernel_rfl) (by kernel_rfl) rfl (r_lda (id := 3) (n := 3) rfl rfl rfl ag24) ?_
    refine aq_two (i := 5) (j := 7) (by kernel_rfl) rfl rfl (fun K10 hK10 => ?_) (fun K10 hK10 => ?_)
    ·refine ol_r (r_look1 (K := encScore.val) (V := I64) (z := 0) (id := 1101) rfl rfl rfl mk104) rfl ?_
     refine ol_nil (to_k0 (fun _ _ h => h) (hK10 _ _ ⟨.inr (by repeat' first | exact subH_nil | refine subH_same rfl ?_ | (refine subH_blk rfl (by repeat' first | exact sub_nil | refine sub_cons rfl ?_) ?_)), ⟨.inr (by repeat' first | exact subH_nil | refine subH_same rfl ?_ | (refine subH_blk rfl (by repeat' first | exact sub_nil | refine sub_cons rfl ?_) ?_)), trivial⟩⟩ ?_))
     clear hK10
     refine aq_r 6 999 rfl (by kernel_rfl) (by kernel_rfl) (by kernel_rfl) (.head _) (by kernel_rfl) (by kernel_rfl) rfl (r_add rfl rfl (by omega)) ?_
     refine aq_one (i := 7) (by kernel_rfl) rfl fun K11 hK11 => ?_
     refine ol_mapentry (K := encScore.val) (V := I64) (z := 0) (k := x) (id := 1101) rfl rfl rfl mk104 trivial rfl fun st23 => ?_
     refine ol_nil (to_k0 (fun _ _ h => h) (hK11 _ _ ⟨.inr (by repeat' first | exact subH_nil | refine subH_same rfl ?_ | (refine subH_blk rfl (by repeat' first | exact sub_nil | refine sub_cons rfl ?_) ?_)), ⟨.inl (by kernel_rfl), trivial⟩⟩ ?_))
     clear hK11
     refine aq_r 8 999 rfl (by kernel_rfl) (by kernel_rfl) (by kernel_rfl) (.head _) (by kernel_rfl) (by kernel_rfl) rfl (r_extract rfl rfl) ?_
     refine aq_one (i := 9) (by kernel_rfl) rfl fun K12 hK12 => ?_
     refine ol_entrystore (K := encScore.val) (V := I64) (id := 1101) rfl rfl rfl rfl trivial ?_
     refine ol_nil (to_k0 (fun _ _ h => h) (hK12 _ _ ⟨.inr (by repeat' first | exact subH_nil | refine subH_same rfl ?_ | (refine subH_blk rfl (by repeat' first | exact sub_nil | refine sub_cons rfl ?_) ?_)), ⟨.inl (by kernel_rfl), trivial⟩⟩ ?_))
     clear hK12
     refine aq_done (by kernel_rfl) ?_
     refine (to_k0 (fun _ _ h => h) (hK9 _ _ _ _ _ ?_))
     clear hK9
     refine wp_seq' fun K13 hK13 => ?_
     refine wp_reg ?_
     refine ol_r (r_move rfl) rfl ?_
     refine ol_r (r_nilS rfl (rfl)) rfl ?_
     refine ol_r (r_fa (o' := 1) rfl fl106_1 rfl) rfl ?_
     refine ol_r (r_ld (id := 1103) rfl rfl rfl sc3) rfl ?_
     refine ol_r (r_add rfl rfl (by omega)) rfl ?_
     refine ol_r (r_nilS rfl (rfl)) rfl ?_
     refine ol_r (r_fa (o' := 1) rfl fl106_1 rfl) rfl ?_
     refine ol_store (id := 1103) rfl rfl rfl rfl sz3 rfl rfl (by first | decide | exact Nat.zero_lt_succ _ | simp) ?_
     refine ol_nil (to_k0 (fun _ _ h => h) (hK13 _ _ _ _ _ ?_))
     clear hK13
     refine wp_seq' fun K14 hK14 => ?_
     refine wp_reg ?_
     refine ol_r (r_assign rfl) rfl ?_
     refine ol_nil (to_k0 (fun _ _ h => h) (hK14 _ _ _ _ _ ?_))
     clear hK14
     refine hQ.ret (rvs1 (rv_t rfl)) (fun _ _ h => h) fun w hb hs hB hkd => ?_
     have h3 := addR_0 (L := L) (Decidable.not_not.1 hc9) (by omega)
     refine ⟨by rw [h3], hb, ⟨pS D x ((pO D x).getD 0 + 1), by rw [h3]; exact hD.put x, ?_⟩, hB, hkd⟩
     rw [h3, List.length_append, List.length_singleton]
     exact hs.sub (by repeat' first | exact subH_nil | refine subH_same rfl ?_ | refine subH_blk rfl (by repeat' first | exact sub_nil | refine sub_cons rfl ?_) ?_)
    ·refine ol_mapentry (K := encScore.val) (V := I64) (z := 0) (k := x) (id := 1101) rfl rfl rfl mk104 trivial rfl fun st23 => ?_
     refine ol_nil (to_k0 (fun _ _ h => h) (hK10 _ _ ⟨.inr (by repeat' first | exact subH_nil | refine subH_same rfl ?_ | (refine subH_blk rfl (by repeat' first | exact sub_nil | refine sub_cons rfl ?_) ?_)), ⟨.inl (by kernel_rfl), trivial⟩⟩ ?_))
     clear hK10
     refine aq_r 8 999 rfl (by kernel_rfl) (by kernel_rfl) (by kernel_rfl) (.head _) (by kernel_rfl) (by kernel_rfl) rfl (r_extract rfl rfl) ?_
     refine aq_one (i := 5) (by kernel_rfl) rfl fun K11 hK11 => ?_
     refine ol_r (r_lookE (K := encScore.val) (V := I64) (z := 0) (id := 1101) rfl rfl rfl mk104) rfl ?_
     refine ol_nil (to_k0 (fun _ _ h => h) (hK11 _ _ ⟨.inr (by repeat' first | exact subH_nil | refine subH_same rfl ?_ | (refine subH_blk rfl (by repeat' first | exact sub_nil | refine sub_cons rfl ?_) ?_)), ⟨.inl (by kernel_rfl), trivial⟩⟩ ?_))
     clear hK11
     refine aq_r 6 999 rfl (by kernel_rfl) (by kernel_rfl) (by kernel_rfl) (.head _) (by kernel_rfl) (by kernel_rfl) rfl (r_add rfl rfl (by omega)) ?_
     refine aq_one (i := 9) (by kernel_rfl) rfl fun K12 hK12 => ?_
     refine ol_entrystore (K := encScore.val) (V := I64) (id := 1101) rfl rfl rfl rfl trivial ?_
     refine ol_nil (to_k0 (fun _ _ h => h) (hK12 _ _ ⟨.inr (by repeat' first | exact subH_nil | refine subH_same rfl ?_ | (refine subH_blk rfl (by repeat' first | exact sub_nil | refine sub_cons rfl ?_) ?_)), ⟨.inl (by kernel_rfl), trivial⟩⟩ ?_))
     clear hK12
     refine aq_done (by kernel_rfl) ?_
     refine (to_k0 (fun _ _ h => h) (hK9 _ _ _ _ _ ?_))
     clear hK9
     refine wp_seq' fun K13 hK13 => ?_
     refine wp_reg ?_
     refine ol_r (r_move rfl) rfl ?_
     refine ol_r (r_nilS rfl (rfl)) rfl ?_
     refine ol_r (r_fa (o' := 1) rfl fl106_1 rfl) rfl ?_
     refine ol_r (r_ld (id := 1103) rfl rfl rfl sc3) rfl ?_
     refine ol_r (r_add rfl rfl (by omega)) rfl ?_
     refine ol_r (r_nilS rfl (rfl)) rfl ?_
     refine ol_r (r_fa (o' := 1) rfl fl106_1 rfl) rfl ?_
     refine ol_store (id := 1103) rfl rfl rfl rfl sz3 rfl rfl (by first | decide | exact Nat.zero_lt_succ _ | simp) ?_
     refine ol_nil (to_k0 (fun _ _ h => h) (hK13 _ _ _ _ _ ?_))
     clear hK13
     refine wp_seq' fun K14 hK14 => ?_
     refine wp_reg ?_
     refine ol_r (r_assign rfl) rfl ?_
     refine ol_nil (to_k0 (fun _ _ h => h) (hK14 _ _ _ _ _ ?_))
     clear hK14
     refine hQ.ret (rvs1 (rv_t rfl)) (fun _ _ h => h) fun w hb hs hB hkd => ?_
     have h3 := addR_0 (L := L) (Decidable.not_not.1 hc9) (by omega)
     refine ⟨by rw [h3], hb, ⟨pS D x ((pO D x).getD 0 + 1), by rw [h3]; exact hD.put x, ?_⟩, hB, hkd⟩
     rw [h3, List.length_append, List.length_singleton]
     exact hs.sub (by repeat' first | exact subH_nil | refine subH_same rfl ?_ | refine subH_blk rfl (by repeat' first | exact sub_nil | refine sub_cons rfl ?_) ?_)
theorem match_Remove (B : Nat) (w : World) (E5 E6 E1 E2 : Ent) (bb bm : Nat) (L : List ScoreR) (D : NM) (x : ScoreR) (hB0 : B ≤ w.heap.size) (hD : BrdOk L D) (hl : L.length ≤ 5000) (hn : x.name.size ≤ 9223372036854775807) (hs0 : Sat B w (mB E5 E6 E1 E2 bb bm L.length D)) :
    Calls Try.prog 25 #[.pointer (some ⟨bb, 0, none⟩), encScore.val x] w fun e w' => e = .returned (.int .i64 (takeR L x).2) ∧ Below B w w' ∧ (∃ D', BrdOk (takeR L x).1 D' ∧ Sat B w' (mB E5 E6 E1 E2 bb bm (takeR L x).1.length D')) ∧ B ≤ w'.heap.size ∧ Kd (fun _ => True) w w' := by
  have hci := hD.is x
  have hcl := cnt_le L x
  have hcp := @cnt_pos L x
  refine enterQ (N := 46) (C := fun _ => True) (H := mB E5 E6 E1 E2 bb bm L.length D) (B := B) (args := [_, _]) Try.func25 rfl rfl rfl (hB0) (hs0) fun Q hQ => ?_
  refine wp_seq' fun K1 hK1 => ?_
  refine wp_reg ?_
  refine ol_box 3 rfl rfl rfl fun b3 => ?_
  refine ol_r (r_assign rfl) rfl ?_
  refine ol_nil (to_k0 (fun _ _ h => h) (hK1 _ _ _ _ _ ?_))
  clear hK1
  refine wp_seq' fun K2 hK2 => ?_
  refine wp_seq' fun K3 hK3 => ?_
  refine wp_reg ?_
  refine ol_r (r_lda (id := 3) (n := 3) rfl rfl rfl ag24) rfl ?_
  refine ol_call rfl rfl cb10 rfl (fun w1 hb1 hs1 hB1 => Calls.mono (match_CheckEntry x _ hn) ?_)
  rintro e w2 ⟨rfl, hb2⟩
  refine After.below rfl hb1 hs1 hB1 hb2 ?_
  clear hb2 hB1 hs1 hb1 w2 w1
  refine ol_r (r_assign rfl) rfl ?_
  refine ol_nil (to_k0 (fun _ _ h => h) (hK3 _ _ _ _ _ ?_))
  clear hK3
  refine wp_seq' fun K4 hK4 => ?_
  refine wp_reg ?_
  refine ol_r (r_move rfl) rfl ?_
  refine ol_r (r_neq rfl rfl) rfl ?_
  refine ol_nil (to_k0 (fun _ _ h => h) (hK4 _ _ _ _ _ ?_))
  clear hK4
  first | refine wp_condD rfl (fun hc9 => ?_) (fun hc9 => ?_) | refine wp_condN rfl (fun hc9 => ?_) (fun hc9 => ?_) | refine wp_condNB rfl (fun hc9 => ?_) (fun hc9 => ?_) | refine wp_cond' rfl (fun hc9 => ?_) (fun hc9 => ?_)
  ·refine wp_seq' fun K5 hK5 => ?_
   refine wp_reg ?_
   refine ol_r (r_move rfl) rfl ?_
   refine ol_r (r_assign rfl) rfl ?_
   refine ol_nil (to_k0 (fun _ _ h => h) (hK5 _ _ _ _ _ ?_))
   clear hK5
   refine hQ.ret (rvs1 (rv_t rfl)) (fun _ _ h => h) fun w hb hs hB hkd => ?_
   exact ⟨by rw [takeR_e hc9], hb, ⟨D, by rw [takeR_e hc9]; exact hD, by rw [takeR_e hc9]; exact hs.sub (by repeat' first | exact subH_nil | refine subH_same rfl ?_)⟩, hB, hkd⟩
  ·refine wp_skip' (to_k0 (fun _ _ h => h) (hK2 _ _ _ _ _ ?_))
   clear hK2
   refine wp_seq' fun K6 hK6 => ?_
   refine wp_seq' fun K7 hK7 => ?_
   refine wp_regq (by kernel_rfl) (by kernel_rfl) ?_
   refine ql_r (r_move rfl) rfl ?_
   refine ql_r (r_nilS rfl (rfl)) rfl ?_
   refine ql_r (r_fa (o' := 0) rfl fl106_0 rfl) rfl ?_
   refine ql_r (r_ld (id := 1103) rfl rfl rfl sc104) rfl ?_
   refine ql_r (r_lda (id := 3) (n := 3) rfl rfl rfl ag24) rfl ?_
   refine ql_r (r_look1 (K := encScore.val) (V := I64) (z := 0) (id := 1101) rfl rfl rfl mk104) rfl ?_
   refine ql_r (r_eql rfl rfl) rfl ?_
   refine ql_nil (to_k0 (fun _ _ h => h) (hK7 _ _ _ _ _ ?_))
   clear hK7
   first | refine wp_condD rfl (fun hc17 => ?_) (fun hc17 => ?_) | refine wp_condN rfl (fun hc17 => ?_) (fun hc17 => ?_) | refine wp_condNB rfl (fun hc17 => ?_) (fun hc17 => ?_) | refine wp_cond' rfl (fun hc17 => ?_) (fun hc17 => ?_)
   ·refine wp_seq' fun K8 hK8 => ?_
    refine wp_reg ?_
    refine ol_r (r_assign rfl) rfl ?_
    refine ol_nil (to_k0 (fun _ _ h => h) (hK8 _ _ _ _ _ ?_))
    clear hK8
    refine hQ.ret (rvs1 (rv_t rfl)) (fun _ _ h => h) fun w hb hs hB hkd => ?_
    have h3 := takeR_4 (L := L) (Decidable.not_not.1 hc9) (fun h => by have := hcp.2 h; omega)
    exact ⟨by rw [h3], hb, ⟨D, by rw [h3]; exact hD, by rw [h3]; exact hs.sub (by repeat' first | exact subH_nil | refine subH_same rfl ?_)⟩, hB, hkd⟩
   ·refine wp_skip' (to_k0 (fun _ _ h => h) (hK6 _ _ _ _ _ ?_))
    clear hK6
    refine wp_seq' fun K9 hK9 => ?_
    refine wp_seq' fun K10 hK10 => ?_
    refine wp_rega [(999, [(3, _), (105, _), (107, _), (1102, _), (1103, _), (1106, _)]), (7, [(1101, _)])] (by kernel_rfl) ⟨.inr (subH_same rfl (subH_same rfl (subH_same rfl (subH_same rfl (subH_same rfl (subH_same rfl subH_nil)))))), ⟨.inr (subH_same rfl subH_nil), trivial⟩⟩ ?_
    refine aq_r 0 999 rfl (by kernel_rfl) (by kernel_rfl) (by kernel_rfl) (.head _) (by kernel_rfl) (by kernel_rfl) rfl (r_move rfl) ?_
    refine aq_r 1 999 rfl (by kernel_rfl) (by kernel_rfl) (by kernel_rfl) (.head _) (by kernel_rfl) (by kernel_rfl) rfl (r_nilS rfl (rfl)) ?_
    refine aq_r 2 999 rfl (by kernel_rfl) (by kernel_rfl) (by kernel_rfl) (.head _) (by kernel_rfl) (by kernel_rfl) rfl (r_fa (o' := 0) rfl fl106_0 rfl) ?_
    refine aq_r 3 999 rfl (by kernel_rfl) (by kernel_rfl) (by kernel_rfl) (.head _) (by kernel_rfl) (by kernel_rfl) rfl (r_ld (id := 1103) rfl rfl rfl sc104) ?_
    refine aq_r 4 999 rfl (by kernel_rfl) (by kernel_rfl) (by kernel_rfl) (.head _) (by kernel_rfl) (by kernel_rfl) rfl (r_lda (id := 3) (n := 3) rfl rfl rfl ag24) ?_
    refine aq_two (i := 5) (j := 7) (by kernel_rfl) rfl rfl (fun K11 hK11 => ?_) (fun K11 hK11 => ?_)
    ·refine ol_r (r_look1 (K := encScore.val) (V := I64) (z := 0) (id := 1101) rfl rfl rfl mk104) rfl ?_
     refine ol_nil (to_k0 (fun _ _ h => h) (hK11 _ _ ⟨.inr (by repeat' first | exact subH_nil | refine subH_same rfl ?_ | (refine subH_blk rfl (by repeat' first | exact sub_nil | refine sub_cons rfl ?_) ?_)), ⟨.inr (by repeat' first | exact subH_nil | refine subH_same rfl ?_ | (refine subH_blk rfl (by repeat' first | exact sub_nil | refine sub_cons rfl ?_) ?_)), trivial⟩⟩ ?_))
     clear hK11
     refine aq_r 6 999 rfl (by kernel_rfl) (by kernel_rfl) (by kernel_rfl) (.head _) (by kernel_rfl) (by kernel_rfl) rfl (r_sub rfl rfl (by omega)) ?_
     refine aq_one (i := 7) (by kernel_rfl) rfl fun K12 hK12 => ?_
     refine ol_mapentry (K := encScore.val) (V := I64) (z := 0) (k := x) (id := 1101) rfl rfl rfl mk104 trivial rfl fun st25 => ?_
     refine ol_nil (to_k0 (fun _ _ h => h) (hK12 _ _ ⟨.inr (by repeat' first | exact subH_nil | refine subH_same rfl ?_ | (refine subH_blk rfl (by repeat' first | exact sub_nil | refine sub_cons rfl ?_) ?_)), ⟨.inl (by kernel_rfl), trivial⟩⟩ ?_))
     clear hK12
     refine aq_r 8 999 rfl (by kernel_rfl) (by kernel_rfl) (by kernel_rfl) (.head _) (by kernel_rfl) (by kernel_rfl) rfl (r_extract rfl rfl) ?_
     refine aq_one (i := 9) (by kernel_rfl) rfl fun K13 hK13 => ?_
     refine ol_entrystore (K := encScore.val) (V := I64) (id := 1101) rfl rfl rfl rfl trivial ?_
     refine ol_nil (to_k0 (fun _ _ h => h) (hK13 _ _ ⟨.inr (by repeat' first | exact subH_nil | refine subH_same rfl ?_ | (refine subH_blk rfl (by repeat' first | exact sub_nil | refine sub_cons rfl ?_) ?_)), ⟨.inl (by kernel_rfl), trivial⟩⟩ ?_))
     clear hK13
     refine aq_done (by kernel_rfl) ?_
     refine (to_k0 (fun _ _ h => h) (hK10 _ _ _ _ _ ?_))
     clear hK10
     refine wp_seq' fun K14 hK14 => ?_
     refine wp_regq (by kernel_rfl) (by kernel_rfl) ?_
     obtain ⟨i, hi, _, h3⟩ := takeR_0 (L := L) (Decidable.not_not.1 hc9) (hcp.1 (by omega))
     have hel := erase_len hi
     obtain ⟨t1, t2⟩ := hD.take hi
     refine ql_r (r_move rfl) rfl ?_
     refine ql_r (r_nilS rfl (rfl)) rfl ?_
     refine ql_r (r_fa (o' := 0) rfl fl106_0 rfl) rfl ?_
     refine ql_r (r_ld (id := 1103) rfl rfl rfl sc104) rfl ?_
     refine ql_r (r_lda (id := 3) (n := 3) rfl rfl rfl ag24) rfl ?_
     refine ql_r (r_look1 (K := encScore.val) (V := I64) (z := 0) (id := 1101) rfl rfl rfl mk104) rfl ?_
     rw [pO_pS, if_pos rfl, Option.getD_some]
     refine ql_r (r_eql rfl rfl) rfl ?_
     refine ql_nil (to_k0 (fun _ _ h => h) (hK14 _ _ _ _ _ ?_))
     clear hK14
     first | refine wp_condD rfl (fun hc33 => ?_) (fun hc33 => ?_) | refine wp_condN rfl (fun hc33 => ?_) (fun hc33 => ?_) | refine wp_condNB rfl (fun hc33 => ?_) (fun hc33 => ?_) | refine wp_cond' rfl (fun hc33 => ?_) (fun hc33 => ?_)
     ·refine wp_regt 5 (by kernel_rfl) (by kernel_rfl) ?_
      simp only [List.take_succ_cons, List.take_zero, List.drop_succ_cons, List.drop_zero]
      refine sl_r (r_move rfl) rfl ?_
      refine sl_r (r_nilS rfl (rfl)) rfl ?_
      refine sl_r (r_fa (o' := 0) rfl fl106_0 rfl) rfl ?_
      refine sl_r (r_ld (id := 1103) rfl rfl rfl sc104) rfl ?_
      refine sl_r (r_lda (id := 3) (n := 3) rfl rfl rfl ag24) rfl ?_
      refine sl_nil ?_
      refine ol_mapdel (K := encScore.val) (V := I64) (z := 0) (k := x) (id := 1101) rfl rfl rfl mk104 trivial ?_
      refine ol_nil (to_k0 (fun _ _ h => h) (hK9 _ _ _ _ _ ?_))
      clear hK9
      refine wp_seq' fun K15 hK15 => ?_
      refine wp_reg ?_
      refine ol_r (r_move rfl) rfl ?_
      refine ol_r (r_nilS rfl (rfl)) rfl ?_
      refine ol_r (r_fa (o' := 1) rfl fl106_1 rfl) rfl ?_
      refine ol_r (r_ld (id := 1103) rfl rfl rfl sc3) rfl ?_
      refine ol_r (r_sub rfl rfl (by omega)) rfl ?_
      refine ol_r (r_nilS rfl (rfl)) rfl ?_
      refine ol_r (r_fa (o' := 1) rfl fl106_1 rfl) rfl ?_
      refine ol_store (id := 1103) rfl rfl rfl rfl sz3 rfl rfl (by first | decide | exact Nat.zero_lt_succ _ | simp) ?_
      refine ol_nil (to_k0 (fun _ _ h => h) (hK15 _ _ _ _ _ ?_))
      clear hK15
      refine wp_seq' fun K16 hK16 => ?_
      refine wp_reg ?_
      refine ol_r (r_assign rfl) rfl ?_
      refine ol_nil (to_k0 (fun _ _ h => h) (hK16 _ _ _ _ _ ?_))
      clear hK16
      refine hQ.ret (rvs1 (rv_t rfl)) (fun _ _ h => h) fun w hb hs hB hkd => ?_
      first
        | (refine ⟨by rw [h3], hb, ⟨_, by rw [h3]; exact t1 hc33, ?_⟩, hB, hkd⟩
           rw [h3, show (((L.take i ++ L.drop (i + 1)).length : Nat) : Int) = (L.length : Int) - 1 by omega]
           exact hs.sub (by repeat' first | exact subH_nil | refine subH_same rfl ?_ | refine subH_blk rfl (by repeat' first | exact sub_nil | refine sub_cons rfl ?_) ?_))
        | (refine ⟨by rw [h3], hb, ⟨_, by rw [h3]; exact t2 hc33, ?_⟩, hB, hkd⟩
           rw [h3, show (((L.take i ++ L.drop (i + 1)).length : Nat) : Int) = (L.length : Int) - 1 by omega]
           exact hs.sub (by repeat' first | exact subH_nil | refine subH_same rfl ?_ | refine subH_blk rfl (by repeat' first | exact sub_nil | refine sub_cons rfl ?_) ?_))
     ·refine wp_skip' (to_k0 (fun _ _ h => h) (hK9 _ _ _ _ _ ?_))
      clear hK9
      refine wp_seq' fun K17 hK17 => ?_
      refine wp_reg ?_
      refine ol_r (r_move rfl) rfl ?_
      refine ol_r (r_nilS rfl (rfl)) rfl ?_
      refine ol_r (r_fa (o' := 1) rfl fl106_1 rfl) rfl ?_
      refine ol_r (r_ld (id := 1103) rfl rfl rfl sc3) rfl ?_
      refine ol_r (r_sub rfl rfl (by omega)) rfl ?_
      refine ol_r (r_nilS rfl (rfl)) rfl ?_
      refine ol_r (r_fa (o' := 1) rfl fl106_1 rfl) rfl ?_
      refine ol_store (id := 1103) rfl rfl rfl rfl sz3 rfl rfl (by first | decide | exact Nat.zero_lt_succ _ | simp) ?_
      refine ol_nil (to_k0 (fun _ _ h => h) (hK17 _ _ _ _ _ ?_))
      clear hK17
      refine wp_seq' fun K18 hK18 => ?_
      refine wp_reg ?_
      refine ol_r (r_assign rfl) rfl ?_
      refine ol_nil (to_k0 (fun _ _ h => h) (hK18 _ _ _ _ _ ?_))
      clear hK18
      refine hQ.ret (rvs1 (rv_t rfl)) (fun _ _ h => h) fun w hb hs hB hkd => ?_
      first
        | (refine ⟨by rw [h3], hb, ⟨_, by rw [h3]; exact t1 hc33, ?_⟩, hB, hkd⟩
           rw [h3, show (((L.take i ++ L.drop (i + 1)).length : Nat) : Int) = (L.length : Int) - 1 by omega]
           exact hs.sub (by repeat' first | exact subH_nil | refine subH_same rfl ?_ | refine subH_blk rfl (by repeat' first | exact sub_nil | refine sub_cons rfl ?_) ?_))
        | (refine ⟨by rw [h3], hb, ⟨_, by rw [h3]; exact t2 hc33, ?_⟩, hB, hkd⟩
           rw [h3, show (((L.take i ++ L.drop (i + 1)).length : Nat) : Int) = (L.length : Int) - 1 by omega]
           exact hs.sub (by repeat' first | exact subH_nil | refine subH_same rfl ?_ | refine subH_blk rfl (by repeat' first | exact sub_nil | refine sub_cons rfl ?_) ?_))
    ·refine ol_mapentry (K := encScore.val) (V := I64) (z := 0) (k := x) (id := 1101) rfl rfl rfl mk104 trivial rfl fun st25 => ?_
     refine ol_nil (to_k0 (fun _ _ h => h) (hK11 _ _ ⟨.inr (by repeat' first | exact subH_nil | refine subH_same rfl ?_ | (refine subH_blk rfl (by repeat' first | exact sub_nil | refine sub_cons rfl ?_) ?_)), ⟨.inl (by kernel_rfl), trivial⟩⟩ ?_))
     clear hK11
     refine aq_r 8 999 rfl (by kernel_rfl) (by kernel_rfl) (by kernel_rfl) (.head _) (by kernel_rfl) (by kernel_rfl) rfl (r_extract rfl rfl) ?_
     refine aq_one (i := 5) (by kernel_rfl) rfl fun K12 hK12 => ?_
     refine ol_r (r_lookE (K := encScore.val) (V := I64) (z := 0) (id := 1101) rfl rfl rfl mk104) rfl ?_
     refine ol_nil (to_k0 (fun _ _ h => h) (hK12 _ _ ⟨.inr (by repeat' first | exact subH_nil | refine subH_same rfl ?_ | (refine subH_blk rfl (by repeat' first | exact sub_nil | refine sub_cons rfl ?_) ?_)), ⟨.inl (by kernel_rfl), trivial⟩⟩ ?_))
     clear hK12
     refine aq_r 6 999 rfl (by kernel_rfl) (by kernel_rfl) (by kernel_rfl) (.head _) (by kernel_rfl) (by kernel_rfl) rfl (r_sub rfl rfl (by omega)) ?_
     refine aq_one (i := 9) (by kernel_rfl) rfl fun K13 hK13 => ?_
     refine ol_entrystore (K := encScore.val) (V := I64) (id := 1101) rfl rfl rfl rfl trivial ?_
     refine ol_nil (to_k0 (fun _ _ h => h) (hK13 _ _ ⟨.inr (by repeat' first | exact subH_nil | refine subH_same rfl ?_ | (refine subH_blk rfl (by repeat' first | exact sub_nil | refine sub_cons rfl ?_) ?_)), ⟨.inl (by kernel_rfl), trivial⟩⟩ ?_))
     clear hK13
     refine aq_done (by kernel_rfl) ?_
     refine (to_k0 (fun _ _ h => h) (hK10 _ _ _ _ _ ?_))
     clear hK10
     refine wp_seq' fun K14 hK14 => ?_
     refine wp_regq (by kernel_rfl) (by kernel_rfl) ?_
     obtain ⟨i, hi, _, h3⟩ := takeR_0 (L := L) (Decidable.not_not.1 hc9) (hcp.1 (by omega))
     have hel := erase_len hi
     obtain ⟨t1, t2⟩ := hD.take hi
     refine ql_r (r_move rfl) rfl ?_
     refine ql_r (r_nilS rfl (rfl)) rfl ?_
     refine ql_r (r_fa (o' := 0) rfl fl106_0 rfl) rfl ?_
     refine ql_r (r_ld (id := 1103) rfl rfl rfl sc104) rfl ?_
     refine ql_r (r_lda (id := 3) (n := 3) rfl rfl rfl ag24) rfl ?_
     refine ql_r (r_look1 (K := encScore.val) (V := I64) (z := 0) (id := 1101) rfl rfl rfl mk104) rfl ?_
     rw [pO_pS, if_pos rfl, Option.getD_some]
     refine ql_r (r_eql rfl rfl) rfl ?_
     refine ql_nil (to_k0 (fun _ _ h => h) (hK14 _ _ _ _ _ ?_))
     clear hK14
     first | refine wp_condD rfl (fun hc33 => ?_) (fun hc33 => ?_) | refine wp_condN rfl (fun hc33 => ?_) (fun hc33 => ?_) | refine wp_condNB rfl (fun hc33 => ?_) (fun hc33 => ?_) | refine wp_cond' rfl (fun hc33 => ?_) (fun hc33 => ?_)
     ·refine wp_regt 5 (by kernel_rfl) (by kernel_rfl) ?_
      simp only [List.take_succ_cons, List.take_zero, List.drop_succ_cons, List.drop_zero]
      refine sl_r (r_move rfl) rfl ?_
      refine sl_r (r_nilS rfl (rfl)) rfl ?_
      refine sl_r (r_fa (o' := 0) rfl fl106_0 rfl) rfl ?_
      refine sl_r (r_ld (id := 1103) rfl rfl rfl sc104) rfl ?_
      refine sl_r (r_lda (id := 3) (n := 3) rfl rfl rfl ag24) rfl ?_
      refine sl_nil ?_
      refine ol_mapdel (K := encScore.val) (V := I64) (z := 0) (k := x) (id := 1101) rfl rfl rfl mk104 trivial ?_
      refine ol_nil (to_k0 (fun _ _ h => h) (hK9 _ _ _ _ _ ?_))
      clear hK9
      refine wp_seq' fun K15 hK15 => ?_
      refine wp_reg ?_
      refine ol_r (r_move rfl) rfl ?_
      refine ol_r (r_nilS rfl (rfl)) rfl ?_
      refine ol_r (r_fa (o' := 1) rfl fl106_1 rfl) rfl ?_
      refine ol_r (r_ld (id := 1103) rfl rfl rfl sc3) rfl ?_
      refine ol_r (r_sub rfl rfl (by omega)) rfl ?_
      refine ol_r (r_nilS rfl (rfl)) rfl ?_
      refine ol_r (r_fa (o' := 1) rfl fl106_1 rfl) rfl ?_
      refine ol_store (id := 1103) rfl rfl rfl rfl sz3 rfl rfl (by first | decide | exact Nat.zero_lt_succ _ | simp) ?_
      refine ol_nil (to_k0 (fun _ _ h => h) (hK15 _ _ _ _ _ ?_))
      clear hK15
      refine wp_seq' fun K16 hK16 => ?_
      refine wp_reg ?_
      refine ol_r (r_assign rfl) rfl ?_
      refine ol_nil (to_k0 (fun _ _ h => h) (hK16 _ _ _ _ _ ?_))
      clear hK16
      refine hQ.ret (rvs1 (rv_t rfl)) (fun _ _ h => h) fun w hb hs hB hkd => ?_
      first
        | (refine ⟨by rw [h3], hb, ⟨_, by rw [h3]; exact t1 hc33, ?_⟩, hB, hkd⟩
           rw [h3, show (((L.take i ++ L.drop (i + 1)).length : Nat) : Int) = (L.length : Int) - 1 by omega]
           exact hs.sub (by repeat' first | exact subH_nil | refine subH_same rfl ?_ | refine subH_blk rfl (by repeat' first | exact sub_nil | refine sub_cons rfl ?_) ?_))
        | (refine ⟨by rw [h3], hb, ⟨_, by rw [h3]; exact t2 hc33, ?_⟩, hB, hkd⟩
           rw [h3, show (((L.take i ++ L.drop (i + 1)).length : Nat) : Int) = (L.length : Int) - 1 by omega]
           exact hs.sub (by repeat' first | exact subH_nil | refine subH_same rfl ?_ | refine subH_blk rfl (by repeat' first | exact sub_nil | refine sub_cons rfl ?_) ?_))
     ·refine wp_skip' (to_k0 (fun _ _ h => h) (hK9 _ _ _ _ _ ?_))
      clear hK9
      refine wp_seq' fun K17 hK17 => ?_
      refine wp_reg ?_
      refine ol_r (r_move rfl) rfl ?_
      refine ol_r (r_nilS rfl (rfl)) rfl ?_
      refine ol_r (r_fa (o' := 1) rfl fl106_1 rfl) rfl ?_
      refine ol_r (r_ld (id := 1103) rfl rfl rfl sc3) rfl ?_
      refine ol_r (r_sub rfl rfl (by omega)) rfl ?_
      refine ol_r (r_nilS rfl (rfl)) rfl ?_
      refine ol_r (r_fa (o' := 1) rfl fl106_1 rfl) rfl ?_
      refine ol_store (id := 1103) rfl rfl rfl rfl sz3 rfl rfl (by first | decide | exact Nat.zero_lt_succ _ | simp) ?_
      refine ol_nil (to_k0 (fun _ _ h => h) (hK17 _ _ _ _ _ ?_))
      clear hK17
      refine wp_seq' fun K18 hK18 => ?_
      refine wp_reg ?_
      refine ol_r (r_assign rfl) rfl ?_
      refine ol_nil (to_k0 (fun _ _ h => h) (hK18 _ _ _ _ _ ?_))
      clear hK18
      refine hQ.ret (rvs1 (rv_t rfl)) (fun _ _ h => h) fun w hb hs hB hkd => ?_
      first
        | (refine ⟨by rw [h3], hb, ⟨_, by rw [h3]; exact t1 hc33, ?_⟩, hB, hkd⟩
           rw [h3, show (((L.take i ++ L.drop (i + 1)).length : Nat) : Int) = (L.length : Int) - 1 by omega]
           exact hs.sub (by repeat' first | exact subH_nil | refine subH_same rfl ?_ | refine subH_blk rfl (by repeat' first | exact sub_nil | refine sub_cons rfl ?_) ?_))
        | (refine ⟨by rw [h3], hb, ⟨_, by rw [h3]; exact t2 hc33, ?_⟩, hB, hkd⟩
           rw [h3, show (((L.take i ++ L.drop (i + 1)).length : Nat) : Int) = (L.length : Int) - 1 by omega]
           exact hs.sub (by repeat' first | exact subH_nil | refine subH_same rfl ?_ | refine subH_blk rfl (by repeat' first | exact sub_nil | refine sub_cons rfl ?_) ?_))
end Go.Proofs.Ytjflbnbofedlkaa

/-
  Boards: the program's other methods.
-/

namespace Go.Proofs.Ytjflbnbofedlkaa
open Go Go.RowKit Hx
set_option linter.unusedVariables false
set_option linter.unusedSimpArgs false
set_option maxRecDepth 8000
theorem keysN_len (D : NM) : (pKeys D).length = D.length := by rw [pKeys, List.length_map]
theorem keysN_get {D : NM} {j : Nat} {k : ScoreR} {v : Int} (h : D[j]? = some (k, v)) : (pKeys D)[j]? = some k := by rw [pKeys, List.getElem?_map, h]; rfl
theorem match_BPlaces (w : World) (bb bm : Nat) (n : Int) (L : List ScoreR) (D : NM) (hD : BrdOk L D) (hl : L.length ≤ 5000) (hBk : Blk w.heap.size w bb [(0, .map (some bm)), (1, .int .i64 n)]) (hM : Ob w.heap.size w bm (MapO (pEnc encScore.val I64 D))) :
    Calls Try.prog 29 #[.pointer (some ⟨bb, 0, none⟩)] w fun e w' => ∃ b m k, e = .returned (.slice b m k) ∧ Fresh encPlace 32 w w' b m k (placesS L) := by
  have hDl := hD.len
  refine enterQ (N := 20) (C := fun _ => True) (H := []) (B := w.heap.size) (args := [_]) Try.func29 rfl rfl rfl (Nat.le_refl _) (Sat.nil _ _) fun Q hQ => ?_
  refine wp_seq' fun K1 hK1 => ?_
  refine wp_reg ?_
  refine ol_r (r_assign rfl) rfl ?_
  refine ol_nil (to_k0 (fun _ _ h => h) (hK1 _ _ _ _ _ ?_))
  clear hK1
  refine wp_seq' fun K2 hK2 => ?_
  refine wp_reg ?_
  refine ol_nilrow 3 24 3 ?_
  refine ol_r (r_assign rfl) rfl ?_
  refine ol_nil (to_k0 (fun _ _ h => h) (hK2 _ _ _ _ _ ?_))
  clear hK2
  refine wp_seq' fun K3 hK3 => ?_
  refine wp_seq' fun K4 hK4 => ?_
  refine wp_reg ?_
  refine ol_r (r_move rfl) rfl ?_
  refine ol_r (r_nilS rfl (rfl)) rfl ?_
  refine ol_r (r_fa (o' := 0) rfl fl106_0 rfl) rfl ?_
  refine ol_r (r_ldw rfl (fun w1 hb1 hs1 hB1 => Blk.loads (o := 0) hBk hb1 sc104 rfl)) rfl ?_
  refine ol_rangeR (K := encScore.val) (V := I64) (z := 0) 9 hM rfl mk104 rfl fun r9 bs9 ck9 hbs9 hMb9 => ?_
  refine ol_nil (to_k0 (fun _ _ h => h) (hK4 _ _ _ _ _ ?_))
  clear hK4
  refine wp_block' ?_
  apply wp_loopM (σ := List Nat × List ScoreR × Option Addr × Nat × Nat) (fun s => s.2.2.2.1 = s.2.1.length ∧ Vis (pKeys D) s.1 s.2.1) (fun s => [(3, .slice s.2.2.1 s.2.2.2.1 s.2.2.2.2)]) [(2, _), (9, _)] (fun s => [(3, .row s.2.2.1 s.2.2.2.1 s.2.2.2.2 (encScore.enc s.2.1) 24 3), (9, .ob r9 (IterO bm bs9 ck9 s.1))]) [] (fun s => D.length - s.1.length) (([], [], none, 0, 0))
  ·try dsimp only
   exact ⟨rfl, Vis.nil _⟩
  ·exact (sub_cons rfl sub_nil)
  ·exact (sub_cons rfl (sub_cons rfl sub_nil))
  ·exact (subH_row rfl (by first | (dsimp only; rfl; done) | (rfl; done) | (dsimp only; done)) (subH_same rfl subH_nil))
  ·exact subH_nil
  ·rintro ⟨js, ks, oa, m, oc⟩ ⟨hm, hV⟩
   dsimp only at hm hV ⊢
   have hvl := hV.len
   have hvb := hV.le
   rw [keysN_len] at hvb
   intro K5 hK5
   refine wp_seq' fun K6 hK6 => ?_
   refine wp_reg ?_
   refine ol_nextG (K := encScore.val) (V := I64) (idi := 9) rfl rfl (mapB_ro hMb9) hbs9.2.1 hbs9.2.2 trivial rfl (fun hall10 => ?_) (fun j10 k10 v10 hj10 hv10 => ?_)
   ·refine ol_r (r_extract rfl rfl) rfl ?_
    refine ol_nil (to_k0 (fun _ _ h => h) (hK6 _ _ _ _ _ ?_))
    clear hK6
    refine wp_seq' fun K7 hK7 => ?_
    refine wp_condF rfl ?_
    refine wp_exit' (to_k0 (fun _ _ h => h) (hK3 _ _ _ _ _ ?_))
    clear hK3
    refine wp_seq' fun K8 hK8 => ?_
    refine wp_reg ?_
    refine ol_r (r_move rfl) rfl ?_
    refine ol_call rfl rfl cb42 rfl (fun w1 hb1 hs1 hB1 => Calls.mono (match_places _ _ _ ks _ (Sat.rd hs1 (E := encScore) (id := 3) rfl rfl) (by omega)) ?_)
    rintro e w2 ⟨a19, n19, c19, rfl, hf19⟩
    refine After.fresh (id := 19) rfl hb1 hs1 hB1 hf19 ?_
    have hl19 := hf19.len; clear hf19 hB1 hs1 hb1 w2 w1
    refine ol_r (r_assign rfl) rfl ?_
    refine ol_nil (to_k0 (fun _ _ h => h) (hK8 _ _ _ _ _ ?_))
    clear hK8
    refine hQ.ret (rvs1 (rv_t rfl)) (fun _ _ h => h) fun w hb hs hB hkd => ?_
    have hp := hV.all (fun j hj => hall10 j (by rwa [keysN_len] at hj))
    have hpl : placesS L = placesS ks := placesS_congr fun x => by rw [hp.mem_iff, hD.mem]
    exact ⟨_, _, _, rfl, hb, by rw [hpl]; exact hs.ok 19 _ rfl⟩
   ·refine ol_r (r_extract rfl rfl) rfl ?_
    refine ol_nil (to_k0 (fun _ _ h => h) (hK6 _ _ _ _ _ ?_))
    clear hK6
    refine wp_seq' fun K9 hK9 => ?_
    refine wp_condT rfl ?_
    refine wp_skip' (to_k0 (fun _ _ h => h) (hK9 _ _ _ _ _ ?_))
    clear hK9
    refine wp_block' ?_
    refine wp_seq' fun K10 hK10 => ?_
    refine wp_reg ?_
    refine ol_r (r_entry (K := encScore.val) (V := I64) (idi := 9) rfl rfl (mapB_ro hMb9) hbs9.2.1 hv10) rfl ?_
    refine ol_r (r_extract rfl rfl) rfl ?_
    have hmr := hV.more hj10 (List.getElem?_eq_some_iff.1 (keysN_get hv10)).1
    rw [keysN_len] at hmr
    refine ol_alloc 4 z24 rfl fun b4 => ?_
    refine ol_store (id := 4) rfl rfl rfl rfl sz24 rfl rfl (by first | decide | exact Nat.zero_lt_succ _ | simp) ?_
    refine ol_nil (to_k0 (fun _ _ h => h) (hK10 _ _ _ _ _ ?_))
    clear hK10
    refine wp_reg ?_
    refine ol_r (r_move rfl) rfl ?_
    refine ol_r (r_lda (id := 4) (n := 3) rfl rfl rfl ag24) rfl ?_
    refine ol_bs1 16 rfl rfl rw22 rfl rfl rfl fun a16 => ?_
    refine ol_append1 (id := 3) (id2 := 16) rfl rfl rfl rfl rfl rw22 (by omega) rfl fun a17 c17 => ?_
    refine ol_r (r_assign rfl) rfl ?_
    refine ol_nil (to_k0 (fun _ _ h => h) (hK5 ((js ++ [j10], ks ++ [k10], _, _, _)) _ _ ?_ ?_ (sub_cons rfl sub_nil) (sub_cons rfl (sub_cons rfl sub_nil)) (by exact (subH_row rfl (by first | (dsimp only; rw [Enc.enc_append]; rfl; done) | (rw [Enc.enc_append]; rfl; done) | (dsimp only; done)) (subH_same rfl subH_nil))) subH_nil))
    ·try dsimp only
     exact ⟨by rw [List.length_append, hm]; rfl, hV.step hj10 (keysN_get hv10)⟩
    ·try dsimp only
     rw [List.length_append, List.length_singleton]; omega
theorem match_BSize (w : World) (bb bm : Nat) (n : Int) (hBk : Blk w.heap.size w bb [(0, .map (some bm)), (1, .int .i64 n)]) :
    Calls Try.prog 31 #[.pointer (some ⟨bb, 0, none⟩)] w fun e w' => e = .returned (.int .i64 n) ∧ Below w.heap.size w w' := by
  refine enterQ (N := 7) (C := fun _ => True) (H := []) (B := w.heap.size) (args := [_]) Try.func31 rfl rfl rfl (Nat.le_refl _) (Sat.nil _ _) fun Q hQ => ?_
  refine wp_seq' fun K1 hK1 => ?_
  refine wp_reg ?_
  refine ol_r (r_assign rfl) rfl ?_
  refine ol_nil (to_k0 (fun _ _ h => h) (hK1 _ _ _ _ _ ?_))
  clear hK1
  refine wp_seq' fun K2 hK2 => ?_
  refine wp_reg ?_
  refine ol_r (r_move rfl) rfl ?_
  refine ol_r (r_nilS rfl (rfl)) rfl ?_
  refine ol_r (r_fa (o' := 1) rfl fl106_1 rfl) rfl ?_
  refine ol_r (r_ldw rfl (fun w1 hb1 hs1 hB1 => Blk.loads (o := 1) hBk hb1 sc3 rfl)) rfl ?_
  refine ol_r (r_assign rfl) rfl ?_
  refine ol_nil (to_k0 (fun _ _ h => h) (hK2 _ _ _ _ _ ?_))
  clear hK2
  refine hQ.ret (rvs1 (rv_t rfl)) (fun _ _ h => h) fun w hb hs hB hkd => ?_
  exact ⟨rfl, hb⟩
theorem match_New (w : World) :
    Calls Try.prog 21 #[] w fun e w' => ∃ bb bm, e = .returned (.pointer (some ⟨bb, 0, none⟩)) ∧ Below w.heap.size w w' ∧ Sat w.heap.size w' [(1003, .blk bb [(0, .map (some bm)), (1, .int .i64 0)] 106), (1001, .ob bm (MapO (pEnc encScore.val I64 [])))] := by
  refine enterQ (N := 4) (C := fun _ => True) (H := []) (B := w.heap.size) (args := []) Try.func21 rfl rfl rfl (Nat.le_refl _) (Sat.nil _ _) fun Q hQ => ?_
  refine wp_seq' fun K1 hK1 => ?_
  refine wp_reg ?_
  refine ol_r (r_assign rfl) rfl ?_
  refine ol_nil (to_k0 (fun _ _ h => h) (hK1 _ _ _ _ _ ?_))
  clear hK1
  refine wp_seq' fun K2 hK2 => ?_
  refine wp_reg ?_
  refine ol_mkmapE (encScore.val) (I64) 1 rfl fun b1 => ?_
  refine ol_r (r_build rfl (fun _ => bd106_0 _ _)) rfl ?_
  refine ol_box 3 rfl rfl rfl fun b3 => ?_
  refine ol_r (r_assign rfl) rfl ?_
  refine ol_nil (to_k0 (fun _ _ h => h) (hK2 _ _ _ _ _ ?_))
  clear hK2
  refine hQ.ret (rvs1 (rv_t rfl)) (fun _ _ h => h) fun w hb hs hB hkd => ?_
  exact ⟨_, _, rfl, hb, (hs.up 1000).sub (by repeat' first | exact subH_nil | refine subH_same rfl ?_ | refine subH_blk rfl (by repeat' first | exact sub_nil | refine sub_cons rfl ?_) ?_)⟩
end Go.Proofs.Ytjflbnbofedlkaa

/-
  More rules: appends of a part of a slice that is one's own.
-/

namespace Go.Proofs.Ytjflbnbofedlkaa.Hx
open Go Go.RowKit
set_option linter.unusedVariables false
set_option linter.unusedSimpArgs false
section
variable {P : Program} {N : Fr} {B : Nat} {w0 : World} {Q : Exit → Act → World → Prop} {al : AL} {H : HL} {ops rest : List Oper} {d : Nat} {ty : TypeId} {pos : String} {after : Array Edge}
theorem Runs.val {op : Op} {v v' : Value} (e : v = v') (h : Runs P N B w0 op ty al H v) : Runs P N B w0 op ty al H v' := e ▸ h
theorem Rd.partAt {α : Type} {E : Enc α} {a p : Option Addr} {n cap q l h C : Nat} {xs : List α} {w : World} (hl : Rd E C w a n cap xs) (e : sliced a l h cap E.size = .slice p (h - l) q) (h1 : l ≤ h) (h2 : h ≤ n) : Rd E C w p (h - l) q ((xs.drop l).take (h - l)) := by
  obtain ⟨a', c', e', h3⟩ := hl.part h1 h2
  rw [e] at e'; cases e'; exact h3
theorem Sat.tail {B id : Nat} {e : Ent} {H : HL} {w : World} (h : Sat B w ((id, e) :: H)) (hn : look H id = none) : Sat B w H :=
  ⟨fun i f hf => h.ok i f (by
    by_cases hi : id = i
    · subst hi; rw [hn] at hf; cases hf
    · rwa [look_cons_ne _ _ hi]), fun i j f g hij hf hg => h.apart i j f g hij (by
    by_cases hi : id = i
    · subst hi; rw [hn] at hf; cases hf
    · rwa [look_cons_ne _ _ hi]) (by
    by_cases hi : id = j
    · subst hi; rw [hn] at hg; cases hg
    · rwa [look_cons_ne _ _ hi])⟩
theorem ol_appendNW {s x : Operand} {m c : Nat} {ad : Option Addr} {t e : TypeId} {size bytes : Nat} {α : Type} (E : Enc α) {ys : List α} (id : Nat) (hl : ∀ w1, Below B w0 w1 → Sat B w1 H → B ≤ w1.heap.size → Rd E w1.heap.size w1 ad m c ys) (hn : look H id = none) (hs : ev al s = some (.slice none 0 0)) (hx : ev al x = some (.slice ad m c))
    (hz : size = E.size) (hT : RowT P t e size bytes) (hb : m ≤ 9223372036854775807 ∧ m * bytes ≤ 140737488355328) (hd : Nat.blt d N.n = true)
    (k : ∀ a' cap', OL P N B w0 ops rest Q ((d, .slice a' m cap') :: al) ((id, .row a' m cap' (E.enc ys) e size) :: H)) :
    OL P N B w0 ops ({ dst := some d, op := .call { callee := .builtin .append, args := #[s, x], argTypes := #[t, t] }, type := ty, pos, after, guard := none } :: rest) Q al H := by
  intro a0 w hst
  have hl0 := hl w hst.below hst.sat hst.base
  have hlen := hl0.len
  cases ad with
  | none =>
    have hm : m = 0 := by
      cases m with
      | zero => rfl
      | succ m => have := hl0.isSome (by omega); simp at this
    subst hm
    have hys : ys = [] := List.eq_nil_of_length_eq_zero hlen
    subst hys
    exact ol_r (r_append_nn hs hx hT) hd (ol_nilrow id e size (k none 0)) a0 w hst
  | some p =>
    refine ol_nilrow id e size ?_ a0 w hst
    refine ol_append (id := id) (news := E.enc ys) hs (look_cons_eq ..) hx hT (by rw [Enc.enc_len, hlen, hz]) (E.ones_enc ys) (fun w1 hb1 hs1 hB1 => ⟨p, rfl, (hl w1 hb1 (hs1.tail hn) hB1).flat rfl⟩) (by simpa using hb) hd fun a' c' => ?_
    have h := k a' c'
    simp only [Nat.zero_add, List.nil_append]
    exact fun a w hst => h a w (hst.step hst.regs hst.below (Sat.shadow hst.sat) hst.base (Kd.refl _ _))
theorem ol_appendRW {α : Type} (E : Enc α) {s x : Operand} {id n cap m c : Nat} {a ad : Option Addr} {xs ys : List α} {t e : TypeId} {size bytes : Nat} (hl : ∀ w1, Below B w0 w1 → Sat B w1 H → B ≤ w1.heap.size → Rd E w1.heap.size w1 ad m c ys) (hs : ev al s = some (.slice a n cap)) (hr : look H id = some (.row a n cap (E.enc xs) e size))
    (hx : ev al x = some (.slice ad m c)) (hz : size = E.size) (hT : RowT P t e size bytes)
    (hb : n + m ≤ 9223372036854775807 ∧ (n + m) * bytes ≤ 140737488355328) (hd : Nat.blt d N.n = true)
    (k : ∀ a' cap', OL P N B w0 ops rest Q ((d, .slice a' (n + m) cap') :: al) ((id, .row a' (n + m) cap' (E.enc (xs ++ ys)) e size) :: H)) :
    OL P N B w0 ops ({ dst := some d, op := .call { callee := .builtin .append, args := #[s, x], argTypes := #[t, t] }, type := ty, pos, after, guard := none } :: rest) Q al H := by
  intro a0 w hst
  have hl0 := hl w hst.below hst.sat hst.base
  have hlen := hl0.len
  cases ad with
  | none =>
    have hm : m = 0 := by
      cases m with
      | zero => rfl
      | succ m => have := hl0.isSome (by omega); simp at this
    subst hm
    have hys : ys = [] := List.eq_nil_of_length_eq_zero hlen
    subst hys
    refine ol_append0 hs hr hx hT hd ?_ a0 w hst
    have h := k a cap
    simpa using h
  | some p =>
    refine ol_append (id := id) (news := E.enc ys) hs hr hx hT (by rw [Enc.enc_len, hlen, hz]) (E.ones_enc ys) (fun w1 hb1 hs1 hB1 => ⟨p, rfl, (hl w1 hb1 hs1 hB1).flat rfl⟩) hb hd (fun a' c' => ?_) a0 w hst
    have h := k a' c'
    rwa [Enc.enc_append] at h
end
end Go.Proofs.Ytjflbnbofedlkaa.Hx

/-
  Boards: the reference's methods.
-/



namespace Go.Proofs.Ytjflbnbofedlkaa
open Go Go.RowKit Hx
set_option linter.unusedVariables false
set_option linter.unusedSimpArgs false
set_option maxRecDepth 8000
abbrev rB (E3 E4 E1 E2 : Ent) (xb : Nat) (a : Option Addr) (c : Nat) (L : List ScoreR) : HL := [(1103, E3), (1101, E4), (1102, .blk xb [(0, .slice a L.length c)] 108), (1106, .row a L.length c (encScore.enc L) 24 3), (105, E1), (107, E2)]
theorem ref5_Add (B : Nat) (w : World) (E3 E4 E1 E2 : Ent) (xb : Nat) (a : Option Addr) (c : Nat) (L : List ScoreR) (x : ScoreR) (hB0 : B ≤ w.heap.size) (hl : L.length ≤ 5000) (hn : x.name.size ≤ 9223372036854775807) (hs0 : Sat B w (rB E3 E4 E1 E2 xb a c L)) :
    Calls Try.prog 24 #[.pointer (some ⟨xb, 0, none⟩), encScore.val x] w fun e w' => e = .returned (.int .i64 (addR L x).2) ∧ Below B w w' ∧ (∃ a' c', Sat B w' (rB E3 E4 E1 E2 xb a' c' (addR L x).1)) ∧ B ≤ w'.heap.size ∧ Kd (fun _ => True) w w' := by
  refine enterQ (N := 27) (C := fun _ => True) (H := rB E3 E4 E1 E2 xb a c L) (B := B) (args := [_, _]) Try.func24 rfl rfl rfl (hB0) (hs0) fun Q hQ => ?_
  refine wp_seq' fun K1 hK1 => ?_
  refine wp_reg ?_
  refine ol_box 3 rfl rfl rfl fun b3 => ?_
  refine ol_r (r_assign rfl) rfl ?_
  refine ol_nil (to_k0 (fun _ _ h => h) (hK1 _ _ _ _ _ ?_))
  clear hK1
  refine wp_seq' fun K2 hK2 => ?_
  refine wp_seq' fun K3 hK3 => ?_
  refine wp_reg ?_
  refine ol_r (r_lda (id := 3) (n := 3) rfl rfl rfl ag24) rfl ?_
  refine ol_call rfl rfl cb11 rfl (fun w1 hb1 hs1 hB1 => Calls.mono (ref5_CheckEntry x _ hn) ?_)
  rintro e w2 ⟨rfl, hb2⟩
  refine After.below rfl hb1 hs1 hB1 hb2 ?_
  clear hb2 hB1 hs1 hb1 w2 w1
  refine ol_r (r_assign rfl) rfl ?_
  refine ol_nil (to_k0 (fun _ _ h => h) (hK3 _ _ _ _ _ ?_))
  clear hK3
  refine wp_seq' fun K4 hK4 => ?_
  refine wp_reg ?_
  refine ol_r (r_move rfl) rfl ?_
  refine ol_r (r_neq rfl rfl) rfl ?_
  refine ol_nil (to_k0 (fun _ _ h => h) (hK4 _ _ _ _ _ ?_))
  clear hK4
  first | refine wp_condD rfl (fun hc9 => ?_) (fun hc9 => ?_) | refine wp_condN rfl (fun hc9 => ?_) (fun hc9 => ?_) | refine wp_condNB rfl (fun hc9 => ?_) (fun hc9 => ?_) | refine wp_cond' rfl (fun hc9 => ?_) (fun hc9 => ?_)
  ·refine wp_seq' fun K5 hK5 => ?_
   refine wp_reg ?_
   refine ol_r (r_move rfl) rfl ?_
   refine ol_r (r_assign rfl) rfl ?_
   refine ol_nil (to_k0 (fun _ _ h => h) (hK5 _ _ _ _ _ ?_))
   clear hK5
   refine hQ.ret (rvs1 (rv_t rfl)) (fun _ _ h => h) fun w hb hs hB hkd => ?_
   exact ⟨by rw [addR_e hc9], hb, ⟨a, c, by rw [addR_e hc9]; exact hs.sub (by repeat' first | exact subH_nil | refine subH_same rfl ?_)⟩, hB, hkd⟩
  ·refine wp_skip' (to_k0 (fun _ _ h => h) (hK2 _ _ _ _ _ ?_))
   clear hK2
   refine wp_seq' fun K6 hK6 => ?_
   refine wp_seq' fun K7 hK7 => ?_
   refine wp_reg ?_
   refine ol_r (r_move rfl) rfl ?_
   refine ol_r (r_nilS rfl (rfl)) rfl ?_
   refine ol_r (r_fa (o' := 0) rfl fl108_0 rfl) rfl ?_
   refine ol_r (r_ld (id := 1102) rfl rfl rfl sc22) rfl ?_
   refine ol_r (r_len rfl sl22) rfl ?_
   refine ol_r (r_geq rfl rfl) rfl ?_
   refine ol_nil (to_k0 (fun _ _ h => h) (hK7 _ _ _ _ _ ?_))
   clear hK7
   first | refine wp_condD rfl (fun hc16 => ?_) (fun hc16 => ?_) | refine wp_condN rfl (fun hc16 => ?_) (fun hc16 => ?_) | refine wp_condNB rfl (fun hc16 => ?_) (fun hc16 => ?_) | refine wp_cond' rfl (fun hc16 => ?_) (fun hc16 => ?_)
   ·refine wp_seq' fun K8 hK8 => ?_
    refine wp_reg ?_
    refine ol_r (r_assign rfl) rfl ?_
    refine ol_nil (to_k0 (fun _ _ h => h) (hK8 _ _ _ _ _ ?_))
    clear hK8
    refine hQ.ret (rvs1 (rv_t rfl)) (fun _ _ h => h) fun w hb hs hB hkd => ?_
    have h3 := addR_3 (L := L) (Decidable.not_not.1 hc9) (by omega)
    exact ⟨by rw [h3], hb, ⟨a, c, by rw [h3]; exact hs.sub (by repeat' first | exact subH_nil | refine subH_same rfl ?_)⟩, hB, hkd⟩
   ·refine wp_skip' (to_k0 (fun _ _ h => h) (hK6 _ _ _ _ _ ?_))
    clear hK6
    refine wp_seq' fun K9 hK9 => ?_
    refine wp_rega [(999, [(3, _), (105, _), (107, _), (1101, _), (1103, _)]), (10, [(1102, _)]), (7, [(1106, _)])] (by kernel_rfl) ⟨.inr (subH_same rfl (subH_same rfl (subH_same rfl (subH_same rfl (subH_same rfl subH_nil))))), ⟨.inr (subH_same rfl subH_nil), ⟨.inr (subH_same rfl subH_nil), trivial⟩⟩⟩ ?_
    refine aq_r 0 999 rfl (by kernel_rfl) (by kernel_rfl) (by kernel_rfl) (.head _) (by kernel_rfl) (by kernel_rfl) rfl (r_move rfl) ?_
    refine aq_r 1 999 rfl (by kernel_rfl) (by kernel_rfl) (by kernel_rfl) (.head _) (by kernel_rfl) (by kernel_rfl) rfl (r_move rfl) ?_
    refine aq_r 2 999 rfl (by kernel_rfl) (by kernel_rfl) (by kernel_rfl) (.head _) (by kernel_rfl) (by kernel_rfl) rfl (r_nilS rfl (rfl)) ?_
    refine aq_r 3 999 rfl (by kernel_rfl) (by kernel_rfl) (by kernel_rfl) (.head _) (by kernel_rfl) (by kernel_rfl) rfl (r_fa (o' := 0) rfl fl108_0 rfl) ?_
    refine aq_r 4 10 rfl (by kernel_rfl) (by kernel_rfl) (by kernel_rfl) (.tail _ (.head _)) (by kernel_rfl) (by kernel_rfl) rfl (r_ld (id := 1102) rfl rfl rfl sc22) ?_
    refine aq_r 5 999 rfl (by kernel_rfl) (by kernel_rfl) (by kernel_rfl) (.head _) (by kernel_rfl) (by kernel_rfl) rfl (r_lda (id := 3) (n := 3) rfl rfl rfl ag24) ?_
    refine aq_one (i := 6) (by kernel_rfl) rfl fun K10 hK10 => ?_
    refine ol_bs1 23 rfl rfl rw22 rfl rfl rfl fun a23 => ?_
    refine ol_nil (to_k0 (fun _ _ h => h) (hK10 _ _ ⟨.inr (by repeat' first | exact subH_nil | refine subH_same rfl ?_ | (refine subH_blk rfl (by repeat' first | exact sub_nil | refine sub_cons rfl ?_) ?_)), ⟨.inr (by repeat' first | exact subH_nil | refine subH_same rfl ?_ | (refine subH_blk rfl (by repeat' first | exact sub_nil | refine sub_cons rfl ?_) ?_)), ⟨.inr (by repeat' first | exact subH_nil | refine subH_same rfl ?_ | (refine subH_blk rfl (by repeat' first | exact sub_nil | refine sub_cons rfl ?_) ?_)), trivial⟩⟩⟩ ?_))
    clear hK10
    refine aq_one (i := 7) (by kernel_rfl) rfl fun K11 hK11 => ?_
    refine ol_append1 (id := 1106) (id2 := 23) rfl rfl rfl rfl rfl rw22 (by omega) rfl fun a24 c24 => ?_
    refine ol_nil (to_k0 (fun _ _ h => h) (hK11 _ _ ⟨.inr (by repeat' first | exact subH_nil | refine subH_same rfl ?_ | (refine subH_blk rfl (by repeat' first | exact sub_nil | refine sub_cons rfl ?_) ?_)), ⟨.inr (by repeat' first | exact subH_nil | refine subH_same rfl ?_ | (refine subH_blk rfl (by repeat' first | exact sub_nil | refine sub_cons rfl ?_) ?_)), ⟨.inl (by kernel_rfl), trivial⟩⟩⟩ ?_))
    clear hK11
    refine aq_r 8 999 rfl (by kernel_rfl) (by kernel_rfl) (by kernel_rfl) (.head _) (by kernel_rfl) (by kernel_rfl) rfl (r_nilS rfl (rfl)) ?_
    refine aq_r 9 999 rfl (by kernel_rfl) (by kernel_rfl) (by kernel_rfl) (.head _) (by kernel_rfl) (by kernel_rfl) rfl (r_fa (o' := 0) rfl fl108_0 rfl) ?_
    refine aq_one (i := 10) (by kernel_rfl) rfl fun K12 hK12 => ?_
    refine ol_store (id := 1102) rfl rfl rfl rfl sz22 rfl rfl (by first | decide | exact Nat.zero_lt_succ _ | simp) ?_
    refine ol_nil (to_k0 (fun _ _ h => h) (hK12 _ _ ⟨.inr (by repeat' first | exact subH_nil | refine subH_same rfl ?_ | (refine subH_blk rfl (by repeat' first | exact sub_nil | refine sub_cons rfl ?_) ?_)), ⟨.inl (by kernel_rfl), ⟨.inl (by kernel_rfl), trivial⟩⟩⟩ ?_))
    clear hK12
    refine aq_done (by kernel_rfl) ?_
    refine (to_k0 (fun _ _ h => h) (hK9 _ _ _ _ _ ?_))
    clear hK9
    refine wp_seq' fun K13 hK13 => ?_
    refine wp_reg ?_
    refine ol_r (r_assign rfl) rfl ?_
    refine ol_nil (to_k0 (fun _ _ h => h) (hK13 _ _ _ _ _ ?_))
    clear hK13
    refine hQ.ret (rvs1 (rv_t rfl)) (fun _ _ h => h) fun w hb hs hB hkd => ?_
    have h3 := addR_0 (L := L) (Decidable.not_not.1 hc9) (by omega)
    refine ⟨by rw [h3], hb, ⟨a24, c24, ?_⟩, hB, hkd⟩
    rw [h3]
    unfold rB
    rw [List.length_append, List.length_singleton, Enc.enc_append]
    exact hs.sub (by repeat' first | exact subH_nil | refine subH_same rfl ?_ | refine subH_blk rfl (by repeat' first | exact sub_nil | refine sub_cons rfl ?_) ?_)
theorem ref5_Remove (B : Nat) (w : World) (E3 E4 E1 E2 : Ent) (xb : Nat) (a : Option Addr) (c : Nat) (L : List ScoreR) (x : ScoreR) (hB0 : B ≤ w.heap.size) (hl : L.length ≤ 5000) (hn : x.name.size ≤ 9223372036854775807) (hs0 : Sat B w (rB E3 E4 E1 E2 xb a c L)) :
    Calls Try.prog 26 #[.pointer (some ⟨xb, 0, none⟩), encScore.val x] w fun e w' => e = .returned (.int .i64 (takeR L x).2) ∧ Below B w w' ∧ (∃ a' c', Sat B w' (rB E3 E4 E1 E2 xb a' c' (takeR L x).1)) ∧ B ≤ w'.heap.size ∧ Kd (fun _ => True) w w' := by
  have hr0 : Rd encScore w.heap.size w a L.length c L := Sat.rd hs0 (E := encScore) (id := 1106) rfl rfl
  have hroom := hr0.room
  refine enterQ (N := 45) (C := fun _ => True) (H := rB E3 E4 E1 E2 xb a c L) (B := B) (args := [_, _]) Try.func26 rfl rfl rfl (hB0) (hs0) fun Q hQ => ?_
  refine wp_seq' fun K1 hK1 => ?_
  refine wp_reg ?_
  refine ol_box 3 rfl rfl rfl fun b3 => ?_
  refine ol_r (r_assign rfl) rfl ?_
  refine ol_nil (to_k0 (fun _ _ h => h) (hK1 _ _ _ _ _ ?_))
  clear hK1
  refine wp_seq' fun K2 hK2 => ?_
  refine wp_seq' fun K3 hK3 => ?_
  refine wp_reg ?_
  refine ol_r (r_lda (id := 3) (n := 3) rfl rfl rfl ag24) rfl ?_
  refine ol_call rfl rfl cb11 rfl (fun w1 hb1 hs1 hB1 => Calls.mono (ref5_CheckEntry x _ hn) ?_)
  rintro e w2 ⟨rfl, hb2⟩
  refine After.below rfl hb1 hs1 hB1 hb2 ?_
  clear hb2 hB1 hs1 hb1 w2 w1
  refine ol_r (r_assign rfl) rfl ?_
  refine ol_nil (to_k0 (fun _ _ h => h) (hK3 _ _ _ _ _ ?_))
  clear hK3
  refine wp_seq' fun K4 hK4 => ?_
  refine wp_reg ?_
  refine ol_r (r_move rfl) rfl ?_
  refine ol_r (r_neq rfl rfl) rfl ?_
  refine ol_nil (to_k0 (fun _ _ h => h) (hK4 _ _ _ _ _ ?_))
  clear hK4
  first | refine wp_condD rfl (fun hc11 => ?_) (fun hc11 => ?_) | refine wp_condN rfl (fun hc11 => ?_) (fun hc11 => ?_) | refine wp_condNB rfl (fun hc11 => ?_) (fun hc11 => ?_) | refine wp_cond' rfl (fun hc11 => ?_) (fun hc11 => ?_)
  ·refine wp_seq' fun K5 hK5 => ?_
   refine wp_reg ?_
   refine ol_r (r_move rfl) rfl ?_
   refine ol_r (r_assign rfl) rfl ?_
   refine ol_nil (to_k0 (fun _ _ h => h) (hK5 _ _ _ _ _ ?_))
   clear hK5
   refine hQ.ret (rvs1 (rv_t rfl)) (fun _ _ h => h) fun w hb hs hB hkd => ?_
   exact ⟨by rw [takeR_e hc11], hb, ⟨a, c, by rw [takeR_e hc11]; exact hs.sub (by repeat' first | exact subH_nil | refine subH_same rfl ?_)⟩, hB, hkd⟩
  ·refine wp_skip' (to_k0 (fun _ _ h => h) (hK2 _ _ _ _ _ ?_))
   clear hK2
   refine wp_seq' fun K6 hK6 => ?_
   refine wp_seq' fun K7 hK7 => ?_
   refine wp_reg ?_
   refine ol_r (r_move rfl) rfl ?_
   refine ol_r (r_nilS rfl (rfl)) rfl ?_
   refine ol_r (r_fa (o' := 0) rfl fl108_0 rfl) rfl ?_
   refine ol_r (r_ld (id := 1102) rfl rfl rfl sc22) rfl ?_
   refine ol_r (r_len rfl sl22) rfl ?_
   refine ol_r (r_move rfl) rfl ?_
   refine ol_nil (to_k0 (fun _ _ h => h) (hK7 _ _ _ _ _ ?_))
   clear hK7
   refine wp_block' ?_
   apply wp_loopM (σ := Nat) (fun s => s ≤ L.length ∧ ∀ i, i < s → L[i]? ≠ some x) (fun s => [(18, .int .i64 s)]) [(0, _), (3, _), (16, _), (17, _)] (fun s => []) [(3, _), (105, _), (107, _), (1101, _), (1102, _), (1103, _), (1106, _)] (fun s => L.length - s) (0)
   ·try dsimp only
    exact ⟨Nat.zero_le _, fun i hi => by omega⟩
   ·exact (sub_cons rfl sub_nil)
   ·exact (sub_cons rfl (sub_cons rfl (sub_cons rfl (sub_cons rfl sub_nil))))
   ·exact subH_nil
   ·exact (subH_same rfl (subH_same rfl (subH_same rfl (subH_same rfl (subH_same rfl (subH_same rfl (subH_same rfl subH_nil)))))))
   ·rintro k ⟨hk, hP⟩
    intro K8 hK8
    refine wp_seq' fun K9 hK9 => ?_
    refine wp_reg ?_
    refine ol_r (r_lss rfl rfl) rfl ?_
    refine ol_nil (to_k0 (fun _ _ h => h) (hK9 _ _ _ _ _ ?_))
    clear hK9
    refine wp_seq' fun K10 hK10 => ?_
    first | refine wp_condD rfl (fun hc19 => ?_) (fun hc19 => ?_) | refine wp_condN rfl (fun hc19 => ?_) (fun hc19 => ?_) | refine wp_condNB rfl (fun hc19 => ?_) (fun hc19 => ?_) | refine wp_cond' rfl (fun hc19 => ?_) (fun hc19 => ?_)
    ·refine wp_skip' (to_k0 (fun _ _ h => h) (hK10 _ _ _ _ _ ?_))
     clear hK10
     refine wp_seq' fun K11 hK11 => ?_
     refine wp_block' ?_
     refine wp_seq' fun K12 hK12 => ?_
     refine wp_reg ?_
     refine ol_r (r_move rfl) rfl ?_
     refine ol_ixo (id := 1106) encScore _ rfl rfl rfl rfl sl22 (by omega) rfl fun x21 hx21 => ?_
     try simp only [Int.toNat_natCast] at hx21
     try simp only [Int.toNat_natCast] at hx21
     refine ol_r (r_ldw rfl (fun w1 hb1 hs1 hB1 => ld_own (id := 1106) hs1 rfl rfl ty24 hx21)) rfl ?_
     refine ol_alloc 7 z24 rfl fun b7 => ?_
     refine ol_r (r_assign rfl) rfl ?_
     refine ol_store (id := 7) rfl rfl rfl rfl sz24 rfl rfl (by first | decide | exact Nat.zero_lt_succ _ | simp) ?_
     refine ol_nil (to_k0 (fun _ _ h => h) (hK12 _ _ _ _ _ ?_))
     clear hK12
     refine wp_seq' fun K13 hK13 => ?_
     refine wp_reg ?_
     refine ol_r (r_lda (id := 3) (n := 3) rfl rfl rfl ag24) rfl ?_
     refine ol_r (r_lda (id := 7) (n := 3) rfl rfl rfl ag24) rfl ?_
     refine ol_r (r_eqs rfl rfl (by kernel_rfl) (fun w => run_eqs (by kernel_rfl) (by kernel_rfl) w)) rfl ?_
     refine ol_nil (to_k0 (fun _ _ h => h) (hK13 _ _ _ _ _ ?_))
     clear hK13
     first | refine wp_condD rfl (fun hc25 => ?_) (fun hc25 => ?_) | refine wp_condN rfl (fun hc25 => ?_) (fun hc25 => ?_) | refine wp_condNB rfl (fun hc25 => ?_) (fun hc25 => ?_) | refine wp_cond' rfl (fun hc25 => ?_) (fun hc25 => ?_)
     ·refine wp_seq' fun K14 hK14 => ?_
      refine wp_rega [(999, [(3, _), (7, _), (105, _), (107, _), (1101, _), (1103, _), (1106, _)]), (18, [(1102, _)])] (by kernel_rfl) ⟨.inr (subH_same rfl (subH_same rfl (subH_same rfl (subH_same rfl (subH_same rfl (subH_same rfl (subH_same rfl subH_nil))))))), ⟨.inr (subH_same rfl subH_nil), trivial⟩⟩ ?_
      obtain rfl : x = x21 := by rw [score_eqs] at hc25; simpa using hc25
      have hki := kIdx_first hP hx21 rfl
      have hkl := (List.getElem?_eq_some_iff.1 hx21).1
      obtain ⟨p1, q1, e1, _⟩ := hr0.part (l := 0) (h := k) (by omega) (by omega)
      obtain ⟨p2, q2, e2, _⟩ := hr0.part (l := k + 1) (h := L.length) (by omega) (by omega)
      refine aq_r 0 999 rfl (by kernel_rfl) (by kernel_rfl) (by kernel_rfl) (.head _) (by kernel_rfl) (by kernel_rfl) rfl (r_move rfl) ?_
      refine aq_r 1 999 rfl (by kernel_rfl) (by kernel_rfl) (by kernel_rfl) (.head _) (by kernel_rfl) (by kernel_rfl) rfl (r_move rfl) ?_
      refine aq_r 2 999 rfl (by kernel_rfl) (by kernel_rfl) (by kernel_rfl) (.head _) (by kernel_rfl) (by kernel_rfl) rfl (r_nilS rfl (rfl)) ?_
      refine aq_r 3 999 rfl (by kernel_rfl) (by kernel_rfl) (by kernel_rfl) (.head _) (by kernel_rfl) (by kernel_rfl) rfl (r_fa (o' := 0) rfl fl108_0 rfl) ?_
      refine aq_r 4 18 rfl (by kernel_rfl) (by kernel_rfl) (by kernel_rfl) (.tail _ (.head _)) (by kernel_rfl) (by kernel_rfl) rfl (r_ld (id := 1102) rfl rfl rfl sc22) ?_
      refine aq_r 5 999 rfl (by kernel_rfl) (by kernel_rfl) (by kernel_rfl) (.head _) (by kernel_rfl) (by kernel_rfl) rfl (r_move rfl) ?_
      refine aq_r 6 999 rfl (by kernel_rfl) (by kernel_rfl) (by kernel_rfl) (.head _) (by kernel_rfl) (by kernel_rfl) rfl (Runs.val e1 (r_sl (l := none) (h := some (k : Int)) rfl rfl rfl sl22 (by simp only [Option.getD_some, Option.getD_none]; omega) (by omega))) ?_
      refine aq_r 8 999 rfl (by kernel_rfl) (by kernel_rfl) (by kernel_rfl) (.head _) (by kernel_rfl) (by kernel_rfl) rfl (r_move rfl) ?_
      refine aq_r 9 999 rfl (by kernel_rfl) (by kernel_rfl) (by kernel_rfl) (.head _) (by kernel_rfl) (by kernel_rfl) rfl (r_nilS rfl (rfl)) ?_
      refine aq_r 10 999 rfl (by kernel_rfl) (by kernel_rfl) (by kernel_rfl) (.head _) (by kernel_rfl) (by kernel_rfl) rfl (r_fa (o' := 0) rfl fl108_0 rfl) ?_
      refine aq_r 11 18 rfl (by kernel_rfl) (by kernel_rfl) (by kernel_rfl) (.tail _ (.head _)) (by kernel_rfl) (by kernel_rfl) rfl (r_ld (id := 1102) rfl rfl rfl sc22) ?_
      refine aq_r 12 999 rfl (by kernel_rfl) (by kernel_rfl) (by kernel_rfl) (.head _) (by kernel_rfl) (by kernel_rfl) rfl (r_move rfl) ?_
      refine aq_r 13 999 rfl (by kernel_rfl) (by kernel_rfl) (by kernel_rfl) (.head _) (by kernel_rfl) (by kernel_rfl) rfl (r_add rfl rfl (by omega)) ?_
      refine aq_r 14 999 rfl (by kernel_rfl) (by kernel_rfl) (by kernel_rfl) (.head _) (by kernel_rfl) (by kernel_rfl) rfl (Runs.val e2 (r_sl (l := some ((k : Int) + 1)) (h := none) rfl rfl rfl sl22 (by simp only [Option.getD_some, Option.getD_none]; omega) (by omega))) ?_
      refine aq_one (i := 7) (by kernel_rfl) rfl fun K15 hK15 => ?_
      refine ol_appendNW encScore 33 (fun w1 hb1 hs1 hB1 => (Sat.rd hs1 (E := encScore) (id := 1106) rfl rfl).partAt e1 (by omega) (by omega)) rfl rfl rfl rfl rw22 (by omega) rfl fun a33 c33 => ?_
      refine ol_nil (to_k0 (fun _ _ h => h) (hK15 _ _ ⟨.inr (by repeat' first | exact subH_nil | refine subH_same rfl ?_ | (refine subH_blk rfl (by repeat' first | exact sub_nil | refine sub_cons rfl ?_) ?_)), ⟨.inr (by repeat' first | exact subH_nil | refine subH_same rfl ?_ | (refine subH_blk rfl (by repeat' first | exact sub_nil | refine sub_cons rfl ?_) ?_)), trivial⟩⟩ ?_))
      clear hK15
      refine aq_one (i := 15) (by kernel_rfl) rfl fun K16 hK16 => ?_
      refine ol_appendRW (id := 33) encScore (fun w1 hb1 hs1 hB1 => (Sat.rd hs1 (E := encScore) (id := 1106) rfl rfl).partAt e2 (by omega) (by omega)) rfl rfl rfl rfl rw22 (by omega) rfl fun a41 c41 => ?_
      refine ol_nil (to_k0 (fun _ _ h => h) (hK16 _ _ ⟨.inr (by repeat' first | exact subH_nil | refine subH_same rfl ?_ | (refine subH_blk rfl (by repeat' first | exact sub_nil | refine sub_cons rfl ?_) ?_)), ⟨.inr (by repeat' first | exact subH_nil | refine subH_same rfl ?_ | (refine subH_blk rfl (by repeat' first | exact sub_nil | refine sub_cons rfl ?_) ?_)), trivial⟩⟩ ?_))
      clear hK16
      refine aq_r 16 999 rfl (by kernel_rfl) (by kernel_rfl) (by kernel_rfl) (.head _) (by kernel_rfl) (by kernel_rfl) rfl (r_nilS rfl (rfl)) ?_
      refine aq_r 17 999 rfl (by kernel_rfl) (by kernel_rfl) (by kernel_rfl) (.head _) (by kernel_rfl) (by kernel_rfl) rfl (r_fa (o' := 0) rfl fl108_0 rfl) ?_
      refine aq_one (i := 18) (by kernel_rfl) rfl fun K17 hK17 => ?_
      refine ol_store (id := 1102) rfl rfl rfl rfl sz22 rfl rfl (by first | decide | exact Nat.zero_lt_succ _ | simp) ?_
      refine ol_nil (to_k0 (fun _ _ h => h) (hK17 _ _ ⟨.inr (by repeat' first | exact subH_nil | refine subH_same rfl ?_ | (refine subH_blk rfl (by repeat' first | exact sub_nil | refine sub_cons rfl ?_) ?_)), ⟨.inl (by kernel_rfl), trivial⟩⟩ ?_))
      clear hK17
      refine aq_done (by kernel_rfl) ?_
      refine (to_k0 (fun _ _ h => h) (hK14 _ _ _ _ _ ?_))
      clear hK14
      refine wp_seq' fun K18 hK18 => ?_
      refine wp_reg ?_
      refine ol_r (r_assign rfl) rfl ?_
      refine ol_nil (to_k0 (fun _ _ h => h) (hK18 _ _ _ _ _ ?_))
      clear hK18
      refine hQ.ret (rvs1 (rv_t rfl)) (fun _ _ h => h) fun w hb hs hB hkd => ?_
      have hkl2 := (List.getElem?_eq_some_iff.1 hx21).1
      obtain ⟨i, hi, hki2, h3⟩ := takeR_0 (L := L) (Decidable.not_not.1 hc11) (List.mem_of_getElem? hx21)
      rw [hki] at hki2
      cases hki2
      have hel := erase_len hi
      have h4 : (List.drop 0 L).take (k - 0) ++ (L.drop (k + 1)).take (L.length - (k + 1)) = L.take k ++ L.drop (k + 1) := by
        rw [List.drop_zero, Nat.sub_zero, List.take_of_length_le (l := L.drop (k + 1)) (by rw [List.length_drop]; omega)]
      refine ⟨by rw [h3], hb, ⟨a41, c41, ?_⟩, hB, hkd⟩
      rw [h3]
      unfold rB
      rw [← h4, show ((List.drop 0 L).take (k - 0) ++ (L.drop (k + 1)).take (L.length - (k + 1))).length = k - 0 + (L.length - (k + 1)) by rw [h4]; omega]
      exact hs.kle [(1103, 1103), (1101, 1101), (1102, 1102), (33, 1106), (105, 105), (107, 107)] (kle_cons rfl (Ent.le_refl _) (kle_cons rfl (Ent.le_refl _) (kle_cons rfl ⟨rfl, rfl, Sub.out (sub_cons rfl sub_nil)⟩ (kle_cons rfl (Ent.le_refl _) (kle_cons rfl (Ent.le_refl _) (kle_cons rfl (Ent.le_refl _) kle_nil)))))) (by decide)
     ·refine wp_skip' (to_k0 (fun _ _ h => h) (hK11 _ _ _ _ _ ?_))
      clear hK11
      refine wp_reg ?_
      refine ol_r (r_add rfl rfl (by omega)) rfl ?_
      refine ol_r (r_move rfl) rfl ?_
      refine ol_nil (to_k0 (fun _ _ h => h) (hK8 (k + 1) _ _ ?_ ?_ (sub_cons rfl sub_nil) (sub_cons rfl (sub_cons rfl (sub_cons rfl (sub_cons rfl sub_nil)))) (by exact subH_nil) (subH_same rfl (subH_same rfl (subH_same rfl (subH_same rfl (subH_same rfl (subH_same rfl (subH_same rfl subH_nil)))))))))
      ·try dsimp only
       refine ⟨by omega, fun i hi => ?_⟩
       by_cases hik : i = k
       · subst hik
         intro h
         rw [hx21] at h
         cases h
         rw [score_eqs] at hc25
         simp at hc25
       · exact hP i (by omega)
      ·try dsimp only
       omega
    ·refine wp_exit' (to_k0 (fun _ _ h => h) (hK6 _ _ _ _ _ ?_))
     clear hK6
     refine wp_seq' fun K19 hK19 => ?_
     refine wp_reg ?_
     refine ol_r (r_assign rfl) rfl ?_
     refine ol_nil (to_k0 (fun _ _ h => h) (hK19 _ _ _ _ _ ?_))
     clear hK19
     refine hQ.ret (rvs1 (rv_t rfl)) (fun _ _ h => h) fun w hb hs hB hkd => ?_
     have h3 := takeR_4 (L := L) (Decidable.not_not.1 hc11) (fun h => by
       obtain ⟨i, hi⟩ := List.getElem?_of_mem h
       exact hP i (by have := (List.getElem?_eq_some_iff.1 hi).1; omega) hi)
     exact ⟨by rw [h3], hb, ⟨a, c, by rw [h3]; exact hs.sub (by repeat' first | exact subH_nil | refine subH_same rfl ?_)⟩, hB, hkd⟩
end Go.Proofs.Ytjflbnbofedlkaa

/-
  Boards: the reference's other methods; slices.Index of entries.
-/

namespace Go.Proofs.Ytjflbnbofedlkaa
open Go Go.RowKit Hx
set_option linter.unusedVariables false
set_option linter.unusedSimpArgs false
set_option maxRecDepth 8000
theorem ref5_BPlaces (w : World) (xb : Nat) (a : Option Addr) (c : Nat) (L : List ScoreR) (hl : L.length ≤ 5000) (hBk : Blk w.heap.size w xb [(0, .slice a L.length c)]) (hx : Rd encScore w.heap.size w a L.length c L) :
    Calls Try.prog 30 #[.pointer (some ⟨xb, 0, none⟩)] w fun e w' => ∃ b m k, e = .returned (.slice b m k) ∧ Fresh encPlace 32 w w' b m k (placesS L) := by
  refine enterQ (N := 8) (C := fun _ => True) (H := []) (B := w.heap.size) (args := [_]) Try.func30 rfl rfl rfl (Nat.le_refl _) (Sat.nil _ _) fun Q hQ => ?_
  refine wp_seq' fun K1 hK1 => ?_
  refine wp_reg ?_
  refine ol_r (r_assign rfl) rfl ?_
  refine ol_nil (to_k0 (fun _ _ h => h) (hK1 _ _ _ _ _ ?_))
  clear hK1
  refine wp_seq' fun K2 hK2 => ?_
  refine wp_reg ?_
  refine ol_r (r_move rfl) rfl ?_
  refine ol_r (r_nilS rfl (rfl)) rfl ?_
  refine ol_r (r_fa (o' := 0) rfl fl108_0 rfl) rfl ?_
  refine ol_r (r_ldw rfl (fun w1 hb1 hs1 hB1 => Blk.loads (o := 0) hBk hb1 sc22 rfl)) rfl ?_
  refine ol_call rfl rfl cb43 rfl (fun w1 hb1 hs1 hB1 => Calls.mono (ref5_places _ _ _ L _ (hx.at hb1 hB1) (by omega)) ?_)
  rintro e w2 ⟨a7, n7, c7, rfl, hf7⟩
  refine After.fresh (id := 7) rfl hb1 hs1 hB1 hf7 ?_
  have hl7 := hf7.len; clear hf7 hB1 hs1 hb1 w2 w1
  refine ol_r (r_assign rfl) rfl ?_
  refine ol_nil (to_k0 (fun _ _ h => h) (hK2 _ _ _ _ _ ?_))
  clear hK2
  refine hQ.ret (rvs1 (rv_t rfl)) (fun _ _ h => h) fun w hb hs hB hkd => ?_
  exact ⟨_, _, _, rfl, hb, hs.ok 7 _ rfl⟩
theorem ref5_BSize (w : World) (xb : Nat) (a : Option Addr) (c : Nat) (L : List ScoreR) (hBk : Blk w.heap.size w xb [(0, .slice a L.length c)]) :
    Calls Try.prog 32 #[.pointer (some ⟨xb, 0, none⟩)] w fun e w' => e = .returned (.int .i64 L.length) ∧ Below w.heap.size w w' := by
  refine enterQ (N := 8) (C := fun _ => True) (H := []) (B := w.heap.size) (args := [_]) Try.func32 rfl rfl rfl (Nat.le_refl _) (Sat.nil _ _) fun Q hQ => ?_
  refine wp_seq' fun K1 hK1 => ?_
  refine wp_reg ?_
  refine ol_r (r_assign rfl) rfl ?_
  refine ol_nil (to_k0 (fun _ _ h => h) (hK1 _ _ _ _ _ ?_))
  clear hK1
  refine wp_seq' fun K2 hK2 => ?_
  refine wp_reg ?_
  refine ol_r (r_move rfl) rfl ?_
  refine ol_r (r_nilS rfl (rfl)) rfl ?_
  refine ol_r (r_fa (o' := 0) rfl fl108_0 rfl) rfl ?_
  refine ol_r (r_ldw rfl (fun w1 hb1 hs1 hB1 => Blk.loads (o := 0) hBk hb1 sc22 rfl)) rfl ?_
  refine ol_r (r_len rfl sl22) rfl ?_
  refine ol_r (r_assign rfl) rfl ?_
  refine ol_nil (to_k0 (fun _ _ h => h) (hK2 _ _ _ _ _ ?_))
  clear hK2
  refine hQ.ret (rvs1 (rv_t rfl)) (fun _ _ h => h) fun w hb hs hB hkd => ?_
  exact ⟨rfl, hb⟩
theorem ref5_New (w : World) :
    Calls Try.prog 22 #[] w fun e w' => ∃ xb, e = .returned (.pointer (some ⟨xb, 0, none⟩)) ∧ Below w.heap.size w w' ∧ Sat w.heap.size w' [(1002, .blk xb [(0, .slice none 0 0)] 108)] := by
  refine enterQ (N := 3) (C := fun _ => True) (H := []) (B := w.heap.size) (args := []) Try.func22 rfl rfl rfl (Nat.le_refl _) (Sat.nil _ _) fun Q hQ => ?_
  refine wp_seq' fun K1 hK1 => ?_
  refine wp_reg ?_
  refine ol_r (r_assign rfl) rfl ?_
  refine ol_nil (to_k0 (fun _ _ h => h) (hK1 _ _ _ _ _ ?_))
  clear hK1
  refine wp_seq' fun K2 hK2 => ?_
  refine wp_reg ?_
  refine ol_r (r_build rfl (fun _ => bd108 _)) rfl ?_
  refine ol_box 2 rfl rfl rfl fun b2 => ?_
  refine ol_r (r_assign rfl) rfl ?_
  refine ol_nil (to_k0 (fun _ _ h => h) (hK2 _ _ _ _ _ ?_))
  clear hK2
  refine hQ.ret (rvs1 (rv_t rfl)) (fun _ _ h => h) fun w hb hs hB hkd => ?_
  exact ⟨_, rfl, hb, (hs.up 1000).sub (by repeat' first | exact subH_nil | refine subH_same rfl ?_ | refine subH_blk rfl (by repeat' first | exact sub_nil | refine sub_cons rfl ?_) ?_)⟩
theorem index_score (a : Option Addr) (n c : Nat) (xs : List ScoreR) (v : ScoreR) (w : World) (hx : Rd encScore w.heap.size w a n c xs) :
    Calls Try.prog 27 #[.slice a n c, encScore.val v] w fun e w' => e = .returned (.int .i64 (idxSc xs v)) ∧ Below w.heap.size w w' := by
  have hxf := hx.fit
  have hxl := hx.len
  refine enterQ (N := 19) (C := fun _ => True) (H := []) (B := w.heap.size) (args := [_, _]) Try.func27 rfl rfl rfl (Nat.le_refl _) (Sat.nil _ _) fun Q hQ => ?_
  refine wp_seq' fun K1 hK1 => ?_
  refine wp_reg ?_
  refine ol_box 3 rfl rfl rfl fun b3 => ?_
  refine ol_r (r_assign rfl) rfl ?_
  refine ol_nil (to_k0 (fun _ _ h => h) (hK1 _ _ _ _ _ ?_))
  clear hK1
  refine wp_seq' fun K2 hK2 => ?_
  refine wp_seq' fun K3 hK3 => ?_
  refine wp_reg ?_
  refine ol_r (r_move rfl) rfl ?_
  refine ol_r (r_len rfl sl22) rfl ?_
  refine ol_r (r_move rfl) rfl ?_
  refine ol_nil (to_k0 (fun _ _ h => h) (hK3 _ _ _ _ _ ?_))
  clear hK3
  refine wp_block' ?_
  apply wp_loopM (σ := Nat) (fun s => s ≤ n ∧ ∀ i, i < s → xs[i]? ≠ some v) (fun s => [(8, .int .i64 s)]) [(0, _), (3, _), (7, _)] (fun s => []) [(3, _)] (fun s => n - s) (0)
  ·try dsimp only
   exact ⟨Nat.zero_le _, fun i hi => by omega⟩
  ·exact (sub_cons rfl sub_nil)
  ·exact (sub_cons rfl (sub_cons rfl (sub_cons rfl sub_nil)))
  ·exact subH_nil
  ·exact (subH_same rfl subH_nil)
  ·rintro k ⟨hk, hP⟩
   intro K4 hK4
   refine wp_seq' fun K5 hK5 => ?_
   refine wp_reg ?_
   refine ol_r (r_lss rfl rfl) rfl ?_
   refine ol_nil (to_k0 (fun _ _ h => h) (hK5 _ _ _ _ _ ?_))
   clear hK5
   refine wp_seq' fun K6 hK6 => ?_
   first | refine wp_condD rfl (fun hc9 => ?_) (fun hc9 => ?_) | refine wp_condN rfl (fun hc9 => ?_) (fun hc9 => ?_) | refine wp_condNB rfl (fun hc9 => ?_) (fun hc9 => ?_) | refine wp_cond' rfl (fun hc9 => ?_) (fun hc9 => ?_)
   ·refine wp_skip' (to_k0 (fun _ _ h => h) (hK6 _ _ _ _ _ ?_))
    clear hK6
    refine wp_seq' fun K7 hK7 => ?_
    refine wp_block' ?_
    refine wp_seq' fun K8 hK8 => ?_
    refine wp_reg ?_
    refine ol_r (r_move rfl) rfl ?_
    refine ol_r (r_assign rfl) rfl ?_
    refine ol_nil (to_k0 (fun _ _ h => h) (hK8 _ _ _ _ _ ?_))
    clear hK8
    refine wp_seq' fun K9 hK9 => ?_
    refine wp_regq (by kernel_rfl) (by kernel_rfl) ?_
    refine ql_r (r_lda (id := 3) (n := 3) rfl rfl rfl ag24) rfl ?_
    refine ql_r (r_move rfl) rfl ?_
    refine ql_r (r_move rfl) rfl ?_
    refine ql_ixr hx rfl rfl sl22 (by omega) rfl fun x14 hx14 => ?_
    try simp only [Int.toNat_natCast] at hx14
    refine ql_r (r_ldw rfl (fun w1 hb1 hs1 hB1 => Rd.loads hx ty24 hx14 hb1)) rfl ?_
    refine ql_r (r_eqs rfl rfl (by kernel_rfl) (fun w => run_eqs (by kernel_rfl) (by kernel_rfl) w)) rfl ?_
    refine ql_nil (to_k0 (fun _ _ h => h) (hK9 _ _ _ _ _ ?_))
    clear hK9
    first | refine wp_condD rfl (fun hc16 => ?_) (fun hc16 => ?_) | refine wp_condN rfl (fun hc16 => ?_) (fun hc16 => ?_) | refine wp_condNB rfl (fun hc16 => ?_) (fun hc16 => ?_) | refine wp_cond' rfl (fun hc16 => ?_) (fun hc16 => ?_)
    ·refine wp_seq' fun K10 hK10 => ?_
     refine wp_reg ?_
     refine ol_r (r_move rfl) rfl ?_
     refine ol_r (r_assign rfl) rfl ?_
     refine ol_nil (to_k0 (fun _ _ h => h) (hK10 _ _ _ _ _ ?_))
     clear hK10
     refine hQ.ret (rvs1 (rv_t rfl)) (fun _ _ h => h) fun w hb hs hB hkd => ?_
     have hv : x14 = v := by rw [score_eqs] at hc16; simpa [eq_comm] using hc16
     exact ⟨by rw [idxSc, kIdx_first hP hx14 hv], hb⟩
    ·refine wp_skip' (to_k0 (fun _ _ h => h) (hK7 _ _ _ _ _ ?_))
     clear hK7
     refine wp_reg ?_
     refine ol_r (r_add rfl rfl (by omega)) rfl ?_
     refine ol_r (r_move rfl) rfl ?_
     refine ol_nil (to_k0 (fun _ _ h => h) (hK4 (k + 1) _ _ ?_ ?_ (sub_cons rfl sub_nil) (sub_cons rfl (sub_cons rfl (sub_cons rfl sub_nil))) (by exact subH_nil) (subH_same rfl subH_nil)))
     ·try dsimp only
      refine ⟨by omega, fun i hi => ?_⟩
      by_cases hik : i = k
      · subst hik
        intro h
        rw [hx14] at h
        cases h
        rw [score_eqs] at hc16
        simp at hc16
      · exact hP i (by omega)
     ·try dsimp only
      omega
   ·refine wp_exit' (to_k0 (fun _ _ h => h) (hK2 _ _ _ _ _ ?_))
    clear hK2
    refine wp_seq' fun K11 hK11 => ?_
    refine wp_reg ?_
    refine ol_r (r_assign rfl) rfl ?_
    refine ol_nil (to_k0 (fun _ _ h => h) (hK11 _ _ _ _ _ ?_))
    clear hK11
    refine hQ.ret (rvs1 (rv_t rfl)) (fun _ _ h => h) fun w hb hs hB hkd => ?_
    exact ⟨by rw [idxSc, kIdx_miss (fun i hi => hP i (by omega))], hb⟩
end Go.Proofs.Ytjflbnbofedlkaa

/-
  More rules: copy into an own row, an own row made longer within its room, the append of a make, slices.overlaps.
-/




namespace Go.Proofs.Ytjflbnbofedlkaa.Hx
open Go Go.RowKit
set_option linter.unusedVariables false
set_option linter.unusedSimpArgs false
section
variable {P : Program} {N : Fr} {B : Nat} {w0 : World} {Q : Exit → Act → World → Prop} {al : AL} {H : HL} {ops rest : List Oper} {d : Nat} {ty : TypeId} {pos : String} {after : Array Edge}
theorem sliced_in {g i n cap size : Nat} (h : i < n) (hc : n ≤ cap) : sliced (some ⟨g, 0, none⟩) i n cap size = .slice (some ⟨g, i * size, none⟩) (n - i) (cap - i) := by
  unfold sliced; rw [if_neg (by omega)]; simp [Addr.add]
  try exact fun h => h.symm
/-- A row of H read from its k-th element on. -/
theorem tail_src {w : World} {id n cap i size : Nat} {a : Option Addr} {xs : List Value} {e : TypeId} (hs : Sat B w H) (hr : look H id = some (.row a n cap xs e size)) (hi : i < n) : ∃ g, sliced a i n cap size = .slice (some ⟨g, i * size, none⟩) (n - i) (cap - i) ∧ a = some ⟨g, 0, none⟩ ∧ ∀ j u, (xs.drop (i * size))[j]? = some u → w.cell? ((⟨g, i * size, none⟩ : Addr).add j) = some u := by
  obtain ⟨h1', h2⟩ := (hs.ok _ _ hr : w.ownsRow B e size (.slice a n cap) n xs)
  rcases h2 with ⟨hv, hn⟩ | ⟨g, cap', cur, hv, hb, hg, hnc, hcm, hcs, htake⟩
  · omega
  cases hv
  refine ⟨g, sliced_in hi hnc, rfl, fun j u hj => ?_⟩
  rw [List.getElem?_drop, ← htake, List.getElem?_take] at hj
  split at hj
  · rw [add_none, World.cell?, hg]
    simpa using hj
  · cases hj
theorem Enc.enc_drop {α : Type} (E : Enc α) (xs : List α) (i : Nat) (h : i ≤ xs.length) : (E.enc xs).drop (i * E.size) = E.enc (xs.drop i) := by
  have h1 : E.enc xs = E.enc (xs.take i) ++ E.enc (xs.drop i) := by rw [← Enc.enc_append, List.take_append_drop]
  rw [h1]
  exact List.drop_left' (by rw [E.enc_len, List.length_take, Nat.min_eq_left h])
theorem Enc.enc_take' {α : Type} (E : Enc α) (xs : List α) (i : Nat) (h : i ≤ xs.length) : (E.enc xs).take (i * E.size) = E.enc (xs.take i) := by
  have h1 : E.enc xs = E.enc (xs.take i) ++ E.enc (xs.drop i) := by rw [← Enc.enc_append, List.take_append_drop]
  rw [h1]
  exact List.take_left' (by rw [E.enc_len, List.length_take, Nat.min_eq_left h])
theorem copy_typed {α : Type} (E : Enc α) {xs ys : List α} {i : Nat} (h : i + ys.length ≤ xs.length) : (E.enc xs).take (i * E.size) ++ E.enc ys ++ (E.enc xs).drop (i * E.size + ys.length * E.size) = E.enc (xs.take i ++ ys ++ xs.drop (i + ys.length)) := by
  rw [← Nat.add_mul, E.enc_take' xs i (by omega), E.enc_drop xs _ h, Enc.enc_append, Enc.enc_append]
theorem row_eq {id n cap size : Nat} {a : Option Addr} {α : Type} {E : Enc α} {xs : List Value} {zs : List α} {e : TypeId} {l : List Oper} (h : xs = E.enc zs) (k : OL P N B w0 ops l Q al ((id, .row a n cap (E.enc zs) e size) :: H)) : OL P N B w0 ops l Q al ((id, .row a n cap xs e size) :: H) := by subst h; exact k
end
end Go.Proofs.Ytjflbnbofedlkaa.Hx

/-
  More rules: append within a row of one's own.
-/

namespace Go.Proofs.Ytjflbnbofedlkaa.Hx
open Go Go.RowKit
set_option linter.unusedVariables false
set_option linter.unusedSimpArgs false
section
variable {P : Program} {N : Fr} {B : Nat} {w0 : World} {Q : Exit → Act → World → Prop} {al : AL} {H : HL} {ops rest : List Oper} {d : Nat} {ty : TypeId} {pos : String} {after : Array Edge}
theorem ol_appendIn {x s : Operand} {id n cap m c i : Nat} {a ad : Option Addr} {xs news : List Value} {t e : TypeId} {size bytes : Nat} (hs : ev al s = some (.slice a i cap)) (hr : look H id = some (.row a n cap xs e size))
    (hx : ev al x = some (.slice ad m c)) (hT : RowT P t e size bytes) (hl : news.length = m * size) (h1 : ∀ u ∈ news, one u = true)
    (hnews : ∀ w, Below B w0 w → Sat B w H → B ≤ w.heap.size → ∃ p, ad = some p ∧ ∀ j u, news[j]? = some u → w.cell? (p.add j) = some u)
    (hi : i + m ≤ n) (hm : 0 < m) (hd : Nat.blt d N.n = true)
    (k : OL P N B w0 ops rest Q ((d, .slice a (i + m) cap) :: al) ((id, .row a n cap (xs.take (i * size) ++ news ++ xs.drop (i * size + m * size)) e size) :: H)) :
    OL P N B w0 ops ({ dst := some d, op := .call { callee := .builtin .append, args := #[s, x], argTypes := #[t, t] }, type := ty, pos, after, guard := none } :: rest) Q al H := by
  obtain ⟨hu, i0, z, hi0, hz, hsz, hby, hzz, hpos⟩ := hT
  intro a0 w hst
  refine wpList_plain rfl fun K hK => ?_
  obtain ⟨p, rfl, hp⟩ := hnews w hst.below hst.sat hst.base
  obtain ⟨h1', h2⟩ := (hst.sat.ok _ _ hr : w.ownsRow B e size (.slice a n cap) n xs)
  rcases h2 with ⟨hv, hn⟩ | ⟨g, cap', cur, hv, hb, hg, hnc, hcm, hcs, htake⟩
  · omega
  cases hv
  have hlt := (Array.getElem?_eq_some_iff.1 hg).1
  have b1 : i * size + m * size ≤ n * size := by rw [← Nat.add_mul]; exact Nat.mul_le_mul_right _ hi
  have hcapm : n * size ≤ cap * size := Nat.mul_le_mul_right _ hnc
  obtain ⟨cur', r1, r2, r3⟩ := run_storeCells (P := P) g e news (i * size) 0 cur w hg (by omega) h1
  have hfc : (Builtin.firstCells size m (.slice (some p) m c)).run P w = .ok news.toArray w := run_firstCells_some w size m p m c news hl hp
  have hrun : (execOp a0.eval { dst := some d, op := .call { callee := .builtin .append, args := #[s, x], argTypes := #[t, t] }, type := ty, pos, after, guard := none }).run P w = .ok (.value (.slice (some ⟨g, 0, none⟩) (i + m) cap)) { w with heap := w.heap.setIfInBounds g (.cells cur' e (0, 0)) } := by
    have hz0 : ((⟨g, 0, none⟩ : Addr).add (i * size)) = ⟨g, i * size, none⟩ := by simp [Addr.add]; try exact fun h => h.symm
    simp [BigFrame.execOp_builtin, BigFrame.builtin_append, hst.regs.eval hx, hst.regs.eval hs, Builtin.append_, run_underlying hu, Builtin.lenOf, sizeOf, typeInfo, hi0, hsz, hfc, hz0, r1, show i + m ≤ cap by omega]
  unfold Oper.wp
  rw [hrun, Oper.upon_value]
  refine hK _ _ (k _ _ (hst.step (hst.regs.put (by simpa using hd) _) (Below.setBlk hst.below hb _) ?_ (by simpa using hst.base) (Kd.one g (fun k _ hk => setBlk_other w g k _ hk) (fun o ho => .inl (by rw [hg] at ho; cases ho; rfl)))))
  refine hst.sat.turn hr (e' := .row (some ⟨g, 0, none⟩) n cap (xs.take (i * size) ++ news ++ xs.drop (i * size + m * size)) e size) ?_ (fun k _ hk => setBlk_other w g k _ (fun e => hk (by simp [Ent.own, e]))) (fun b' hb' => .inl hb')
  refine ⟨by rw [List.length_append, List.length_append, List.length_take, List.length_drop]; omega, .inr ⟨g, cap, cur', rfl, hb, by simp [hlt], hnc, hcm, by rw [r2, hcs], ?_⟩⟩
  apply List.ext_getElem?
  intro j
  have hxj : j < n * size → xs[j]? = cur[j]? := fun hj => by rw [← htake, List.getElem?_take, if_pos hj, Array.getElem?_toList]
  have hlt' : (xs.take (i * size)).length = i * size := by rw [List.length_take]; omega
  rw [List.getElem?_take]
  by_cases hj : j < n * size
  · rw [if_pos hj, Array.getElem?_toList, r3 j, List.append_assoc]
    by_cases c1 : j < i * size
    · rw [if_neg (by omega), List.getElem?_append_left (by omega), List.getElem?_take, if_pos c1, hxj hj]
    · rw [List.getElem?_append_right (by omega), hlt']
      by_cases c2 : j < i * size + m * size
      · rw [if_pos (by omega), List.getElem?_append_left (by omega)]; rfl
      · rw [if_neg (by omega), List.getElem?_append_right (by omega), List.getElem?_drop, ← hxj hj]
        congr 1; omega
  · rw [if_neg hj, List.getElem?_eq_none]
    rw [List.length_append, List.length_append, hlt', List.length_drop]; omega
theorem r_sl3 {s lo hi mx : Operand} {n cap : Nat} {a : Option Addr} {l h m : Int} {t : TypeId} {size : Nat} (hs : ev al s = some (.slice a n cap)) (hlo : evo al (some lo) = some (some l)) (hhi : evo al (some hi) = some (some h)) (hmx : evo al (some mx) = some (some m)) (hT : Slc P t size)
    (h0 : 0 ≤ l ∧ l ≤ h ∧ h ≤ m ∧ m ≤ cap) (hc : n ≤ cap) : Runs P N B w0 (.slice t s (some lo) (some hi) (some mx)) ty al H (sliced a l.toNat h.toNat m.toNat size) := fun x w hst => by
  obtain ⟨e, hu, hz⟩ := hT
  have hu' : P.underlying t = some (.slice (P.elem t)) := by rw [hu, show P.elem t = e by simp [Program.elem, hu]]
  have hz' : (sizeOf (P.elem t)).run P w = .ok size w := by rw [show P.elem t = e by simp [Program.elem, hu]]; exact run_sizeOf hz w
  have e1 := evo_eval hst.regs hlo
  have e2 := evo_eval hst.regs hhi
  have e3 := evo_eval hst.regs hmx
  simp only [execOp, hst.regs.eval hs, e1, e2, e3, Sem.run_bind, run_sliceAt_slice w t _ _ _ _ hu']
  have h1 := run_slice_any w t a n cap hu' ((some l).map (Value.int .i64)) ((some h).map (Value.int .i64)) ((some m).map (Value.int .i64))
  rw [h1]
  have hb : (Instr.sliceBounds true n cap ((some l).map (Value.int .i64)) ((some h).map (Value.int .i64)) ((some m).map (Value.int .i64))).run P w = .ok (l.toNat, h.toNat, m.toNat) w := by
    simp [Instr.sliceBounds, run_sliceBound_if]
    rw [if_pos (by omega), if_pos (by omega), if_pos (by omega)]
  rw [hb]
  simp [hz', Result.andThen]
theorem ol_appendIn0 {s x : Operand} {id n cap c i : Nat} {a ad : Option Addr} {xs : List Value} {t e : TypeId} {size bytes : Nat} (hs : ev al s = some (.slice a i cap)) (hr : look H id = some (.row a n cap xs e size))
    (hx : ev al x = some (.slice ad 0 c)) (hT : RowT P t e size bytes) (hi : i ≤ n) (hd : Nat.blt d N.n = true)
    (k : OL P N B w0 ops rest Q ((d, .slice a i cap) :: al) H) :
    OL P N B w0 ops ({ dst := some d, op := .call { callee := .builtin .append, args := #[s, x], argTypes := #[t, t] }, type := ty, pos, after, guard := none } :: rest) Q al H := by
  obtain ⟨hu, i0, z, hi0, hz, hsz, hby, hzz, hpos⟩ := hT
  intro a0 w hst
  have hok : w.ownsRow B e size (.slice a n cap) n xs := hst.sat.ok _ _ hr
  have hc : n ≤ cap := by
    rcases hok.2 with ⟨h1, h2⟩ | ⟨g, cap', cur, hv, hb, hg, h3, h4, h5⟩
    · omega
    · cases hv; exact h3
  refine ol_r (v := .slice a i cap) (fun a1 w hst => ?_) hd k a0 w hst
  have hfc : (Builtin.firstCells size 0 (.slice ad 0 c)).run P w = .ok #[] w := by
    cases ad with
    | none => simp [Builtin.firstCells]
    | some p => exact run_firstCells_some w size 0 p 0 c [] (by simp) (by simp)
  cases a <;> simp [BigFrame.execOp_builtin, BigFrame.builtin_append, hst.regs.eval hx, hst.regs.eval hs, Builtin.append_, run_underlying hu, Builtin.lenOf, sizeOf, typeInfo, hi0, hsz, hfc, show i ≤ cap by omega, storeCells]
end
end Go.Proofs.Ytjflbnbofedlkaa.Hx

/-
  More rules: the end of an owned row set to zero.
-/


namespace Go.Proofs.Ytjflbnbofedlkaa.Hx
open Go Go.RowKit
set_option linter.unusedVariables false
set_option linter.unusedSimpArgs false
section
variable {P : Program} {N : Fr} {B : Nat} {w0 : World} {Q : Exit → Act → World → Prop} {al : AL} {H : HL} {ops rest : List Oper} {d : Nat} {ty : TypeId} {pos : String} {after : Array Edge}
theorem Enc.enc_take {α : Type} (E : Enc α) (xs : List α) (i : Nat) (h : i ≤ xs.length) : (E.enc xs).take (i * E.size) = E.enc (xs.take i) := by
  have h1 : E.enc xs = E.enc (xs.take i) ++ E.enc (xs.drop i) := by rw [← Enc.enc_append, List.take_append_drop]
  rw [h1]
  exact List.take_left' (by rw [E.enc_len, List.length_take, Nat.min_eq_left h])
theorem mem_zeroCells {us : Array Value} {n : Nat} (hn : 0 < us.size) {v : Value} (h : v ∈ (Builtin.zeroCells us n).toList) : v ∈ us.toList := by
  unfold Builtin.zeroCells at h
  simp only [Array.toList_map, List.mem_map] at h
  obtain ⟨i, _, rfl⟩ := h
  have hlt : i % us.size < us.size := Nat.mod_lt _ hn
  simp [hlt]
theorem ol_clearO {α : Type} (E : Enc α) {s : Operand} {id n cap i : Nat} {a : Option Addr} {xs : List α} {t e : TypeId} {size : Nat} {z : Value}
    (hs : ev al s = some (sliced a i n cap size)) (hr : look H id = some (.row a n cap (E.enc xs) e size)) (hz : size = E.size) (hu : P.underlying t = some (.slice e)) (hzr : ∀ w, (zeroValue e).run P w = .ok z w) (hul : z.cells.size = size) (h1 : z.cells.toList.all one = true) (hi : i ≤ n)
    (k : ∀ vs, vs.take (i * size) = E.enc (xs.take i) → OL P N B w0 ops rest Q al ((id, .row a n cap vs e size) :: H)) :
    OL P N B w0 ops ({ dst := none, op := .call { callee := .builtin .clear, args := #[s], argTypes := #[t] }, type := ty, pos, after, guard := none } :: rest) Q al H := by
  subst hz
  intro a0 w hst
  refine wpList_plain rfl fun K hK => ?_
  have hok : w.ownsRow B e E.size (.slice a n cap) n (E.enc xs) := hst.sat.ok _ _ hr
  have hlen : xs.length = n := (hst.sat.rd hr rfl).len
  have hcap : n ≤ cap := by
    rcases hok.2 with ⟨h3, h4⟩ | ⟨g, cap', cur, hv, hb, hg, hnc, hcm, hcs, htake⟩
    · omega
    · cases hv; exact hnc
  by_cases hin : i = n
  · subst hin
    have hrun : (execOp a0.eval { dst := none, op := .call { callee := .builtin .clear, args := #[s], argTypes := #[t] }, type := ty, pos, after, guard := none }).run P w = .ok (.value (.tuple #[])) w := by
      have e1 : sliced a i i cap E.size = .slice (if cap = i then a else a.map (·.add (i * E.size))) 0 (cap - i) := by unfold sliced; rw [Nat.sub_self]
      rw [e1] at hs
      generalize (if cap = i then a else a.map (·.add (i * E.size))) = ad at hs
      cases ad <;> simp [BigFrame.execOp_builtin, BigFrame.builtin_clear, hst.regs.eval hs, Builtin.clear_, run_underlying hu]
    unfold Oper.wp
    rw [hrun, Oper.upon_value]
    refine hK _ _ (k (E.enc xs) ?_ _ _ ⟨hst.regs, hst.below, hst.sat.again hr, hst.base, hst.kd, hst.marks⟩)
    rw [← hlen]
    exact Enc.enc_take E xs _ (Nat.le_refl _)
  obtain ⟨h1', h2⟩ := hok
  rcases h2 with ⟨hv, hn⟩ | ⟨g, cap', cur, hv, hb, hg, hnc, hcm, hcs, htake⟩
  · omega
  cases hv
  have hlt := (Array.getElem?_eq_some_iff.1 hg).1
  have e1 : sliced (some ⟨g, 0, none⟩) i n cap E.size = .slice (some ⟨g, i * E.size, none⟩) (n - i) (cap - i) := by
    unfold sliced; rw [if_neg (by omega)]; simp [Addr.add]
    try exact fun h => h.symm
  rw [e1] at hs
  have hmul : i * E.size + (n - i) * E.size = n * E.size := by rw [← Nat.add_mul]; congr 1; omega
  have hcapm : n * E.size ≤ cap * E.size := Nat.mul_le_mul_right _ hnc
  have hzl : (Builtin.zeroCells z.cells (n - i)).toList.length = (n - i) * E.size := by rw [Array.length_toList, size_zeroCells, hul]
  obtain ⟨cur', r1, r2, r3⟩ := run_storeCells (P := P) g e (Builtin.zeroCells z.cells (n - i)).toList (i * E.size) 0 cur w hg (by rw [hzl]; omega) (fun u hu' => List.all_eq_true.1 h1 u (mem_zeroCells (by rw [hul]; exact E.pos) hu'))
  obtain ⟨m, hm⟩ : ∃ m, n - i = m + 1 := ⟨n - i - 1, by omega⟩
  have hrun : (execOp a0.eval { dst := none, op := .call { callee := .builtin .clear, args := #[s], argTypes := #[t] }, type := ty, pos, after, guard := none }).run P w = .ok (.value (.tuple #[])) { w with heap := w.heap.setIfInBounds g (.cells cur' e (0, 0)) } := by
    rw [hm] at hs r1
    simp [BigFrame.execOp_builtin, BigFrame.builtin_clear, hst.regs.eval hs, Builtin.clear_, run_underlying hu, hzr, r1]
  unfold Oper.wp
  rw [hrun, Oper.upon_value]
  refine hK _ _ (k (cur'.toList.take (n * E.size)) ?_ _ _ (hst.step hst.regs (Below.setBlk hst.below hb _) ?_ (by simpa using hst.base) (Kd.one g (fun k _ hk => setBlk_other w g k _ hk) (fun o ho => .inl (by rw [hg] at ho; cases ho; rfl)))))
  · rw [← Enc.enc_take E xs i (by omega), List.take_take, Nat.min_eq_left (by omega)]
    apply List.ext_getElem?
    intro j
    rw [List.getElem?_take, List.getElem?_take]
    by_cases hj : j < i * E.size
    · rw [if_pos hj, if_pos hj, Array.getElem?_toList, r3 j, if_neg (by omega), ← htake, List.getElem?_take, if_pos (by omega), Array.getElem?_toList]
    · rw [if_neg hj, if_neg hj]
  · refine hst.sat.turn hr (e' := .row (some ⟨g, 0, none⟩) n cap (cur'.toList.take (n * E.size)) e E.size) ?_ (fun k _ hk => setBlk_other w g k _ (fun e => hk (by simp [Ent.own, e]))) (fun b' hb' => .inl hb')
    exact ⟨by rw [List.length_take, Array.length_toList, r2, hcs]; exact Nat.min_eq_left hcapm, .inr ⟨g, cap, cur', rfl, hb, by simp [hlt], hnc, hcm, by rw [r2, hcs], rfl⟩⟩
end
end Go.Proofs.Ytjflbnbofedlkaa.Hx

/-
  slices.Delete of one entry.
-/



namespace Go.Proofs.Ytjflbnbofedlkaa
open Go Go.RowKit Hx
set_option linter.unusedVariables false
set_option linter.unusedSimpArgs false
set_option maxRecDepth 8000
namespace Hx
theorem ol_delE {P : Program} {N : Fr} {B : Nat} {w0 : World} {Q : Exit → Act → World → Prop} {al : AL} {H : HL} {ops rest : List Oper} {d : Nat} {ty : TypeId} {pos : String} {after : Array Edge} {α : Type} (E : Enc α) {s x : Operand} {id n cap i q g : Nat} {p : Option Addr} {xs : List α} {t e : TypeId} {size bytes : Nat}
    (hp : sliced (some ⟨g, 0, none⟩) (i + 1) n cap E.size = .slice p (n - (i + 1)) q) (hs : ev al s = some (.slice (some ⟨g, 0, none⟩) i cap)) (hr : look H id = some (.row (some ⟨g, 0, none⟩) n cap (E.enc xs) e size)) (hx : ev al x = some (.slice p (n - (i + 1)) q)) (hz : size = E.size) (hT : RowT P t e size bytes) (hi : i < n) (hd : Nat.blt d N.n = true)
    (k : OL P N B w0 ops rest Q ((d, .slice (some ⟨g, 0, none⟩) (n - 1) cap) :: al) ((id, .row (some ⟨g, 0, none⟩) n cap (E.enc (xs.take i ++ xs.drop (i + 1) ++ xs.drop (n - 1))) e size) :: H)) :
    OL P N B w0 ops ({ dst := some d, op := .call { callee := .builtin .append, args := #[s, x], argTypes := #[t, t] }, type := ty, pos, after, guard := none } :: rest) Q al H := by
  subst hz
  intro a0 w hst
  have hlen : xs.length = n := (hst.sat.rd hr rfl).len
  by_cases hj : i + 1 < n
  · refine ol_appendIn (i := i) (m := n - (i + 1)) (news := E.enc (xs.drop (i + 1))) hs hr hx hT (by rw [Enc.enc_len, List.length_drop, hlen]) (E.ones_enc _) (fun w1 hb1 hs1 hB1 => ?_) (by omega) (by omega) hd ?_ a0 w hst
    · obtain ⟨g', h1, h2, h3⟩ := tail_src hs1 hr hj
      rw [hp] at h1
      cases h1
      exact ⟨_, rfl, fun j u hu => h3 j u (by rw [Enc.enc_drop E xs (i + 1) (by omega)]; exact hu)⟩
    · rw [show i + (n - (i + 1)) = n - 1 by omega]
      refine row_eq (E := E) ?_ k
      have h := copy_typed E (xs := xs) (ys := xs.drop (i + 1)) (i := i) (by rw [List.length_drop]; omega)
      rw [List.length_drop, hlen, show i + (n - (i + 1)) = n - 1 by omega] at h
      exact h
  · obtain rfl : n = i + 1 := by omega
    have hx' : ev al x = some (.slice p 0 q) := by rw [hx]; simp
    refine ol_appendIn0 (i := i) hs hr hx' hT (by omega) hd ?_ a0 w hst
    intro a1 w1 hst1
    refine k a1 w1 ?_
    have hy : xs.take i ++ xs.drop (i + 1) ++ xs.drop (i + 1 - 1) = xs := by
      rw [List.drop_eq_nil_of_le (by omega : xs.length ≤ i + 1), List.append_nil, Nat.add_sub_cancel, List.take_append_drop]
    rw [hy]
    exact hst1.step hst1.regs hst1.below (hst1.sat.again hr) hst1.base (Kd.refl _ _)
end Hx
abbrev dH (E1 E2 E3 E4 E5 : Ent) (a : Option Addr) (n c : Nat) (xs : List ScoreR) : HL := [(1103, E1), (1101, E2), (1102, E3), (1106, E4), (107, E5), (105, .row a n c (encScore.enc xs) 24 3)]
theorem delete_score (B : Nat) (w : World) (E1 E2 E3 E4 E5 : Ent) (a : Option Addr) (n c i : Nat) (xs : List ScoreR) (hB0 : B ≤ w.heap.size) (hi : i < n) (hs0 : Sat B w (dH E1 E2 E3 E4 E5 a n c xs)) :
    Calls Try.prog 28 #[.slice a n c, .int .i64 i, .int .i64 ((i : Int) + 1)] w fun e w' => e = .returned (.slice a (n - 1) c) ∧ Below B w w' ∧ Sat B w' (dH E1 E2 E3 E4 E5 a (n - 1) c (xs.take i ++ xs.drop (i + 1))) ∧ B ≤ w'.heap.size ∧ Kd (fun _ => True) w w' := by
  have hrow : w.ownsRow B 24 3 (.slice a n c) n (encScore.enc xs) := hs0.ok 105 _ rfl
  have hr0 : Rd encScore w.heap.size w a n c xs := Sat.rd hs0 (E := encScore) (id := 105) rfl rfl
  have hlen := hr0.len
  have hroom := hr0.room
  have hfit := hr0.fit
  obtain ⟨g, rfl⟩ : ∃ g, a = some ⟨g, 0, none⟩ := by
    rcases hrow.2 with ⟨_, h⟩ | ⟨g, cap', cur, hv, _⟩
    · omega
    · cases hv; exact ⟨g, rfl⟩
  have e22 : sliced (some ⟨g, 0, none⟩) 0 i c 3 = .slice (some ⟨g, 0, none⟩) i c := by simp [sliced, Addr.add]
  obtain ⟨p, q, e25⟩ : ∃ p q, sliced (some ⟨g, 0, none⟩) (i + 1) n c 3 = .slice p (n - (i + 1)) q := ⟨_, _, rfl⟩
  refine enterQ (N := 33) (C := fun _ => True) (H := dH E1 E2 E3 E4 E5 (some ⟨g, 0, none⟩) n c xs) (B := B) (args := [_, _, _]) Try.func28 rfl rfl rfl (hB0) (hs0) fun Q hQ => ?_
  refine wp_seq' fun K1 hK1 => ?_
  refine wp_reg ?_
  refine ol_r (r_assign rfl) rfl ?_
  refine ol_nil (to_k0 (fun _ _ h => h) (hK1 _ _ _ _ _ ?_))
  clear hK1
  refine wp_seq' fun K2 hK2 => ?_
  refine wp_reg ?_
  refine ol_r (r_move rfl) rfl ?_
  refine ol_r (r_move rfl) rfl ?_
  refine ol_r (r_move rfl) rfl ?_
  refine ol_r (r_move rfl) rfl ?_
  refine ol_r (r_len rfl sl22) rfl ?_
  refine ol_r (r_sl3 (l := (i : Int)) (h := (i : Int) + 1) (m := (n : Int)) rfl rfl rfl rfl sl22 (by omega) (by omega)) rfl ?_
  refine ol_nil (to_k0 (fun _ _ h => h) (hK2 _ _ _ _ _ ?_))
  clear hK2
  refine wp_seq' fun K3 hK3 => ?_
  refine wp_seq' fun K4 hK4 => ?_
  refine wp_reg ?_
  refine ol_r (r_move rfl) rfl ?_
  refine ol_r (r_move rfl) rfl ?_
  refine ol_r (r_eql rfl rfl) rfl ?_
  refine ol_nil (to_k0 (fun _ _ h => h) (hK4 _ _ _ _ _ ?_))
  clear hK4
  first | refine wp_condD rfl (fun hc16 => ?_) (fun hc16 => ?_) | refine wp_condN rfl (fun hc16 => ?_) (fun hc16 => ?_) | refine wp_condNB rfl (fun hc16 => ?_) (fun hc16 => ?_) | refine wp_cond' rfl (fun hc16 => ?_) (fun hc16 => ?_)
  ·exfalso
   omega
  ·refine wp_skip' (to_k0 (fun _ _ h => h) (hK3 _ _ _ _ _ ?_))
   clear hK3
   refine wp_seq' fun K5 hK5 => ?_
   refine wp_reg ?_
   refine ol_r (r_move rfl) rfl ?_
   refine ol_r (r_len rfl sl22) rfl ?_
   refine ol_r (r_assign rfl) rfl ?_
   refine ol_nil (to_k0 (fun _ _ h => h) (hK5 _ _ _ _ _ ?_))
   clear hK5
   refine wp_seq' fun K6 hK6 => ?_
   refine wp_regt 6 (by kernel_rfl) (by kernel_rfl) ?_
   simp only [List.take_succ_cons, List.take_zero, List.drop_succ_cons, List.drop_zero]
   refine sl_r (r_move rfl) rfl ?_
   refine sl_r (r_move rfl) rfl ?_
   refine sl_r (Runs.val e22 (r_sl (l := none) (h := some (i : Int)) rfl rfl rfl sl22 (by simp only [Option.getD_some, Option.getD_none]; omega) (by omega))) rfl ?_
   refine sl_r (r_move rfl) rfl ?_
   refine sl_r (r_move rfl) rfl ?_
   refine sl_r (Runs.val e25 (r_sl (l := some ((i : Int) + 1)) (h := none) rfl rfl rfl sl22 (by simp only [Option.getD_some, Option.getD_none]; omega) (by omega))) rfl ?_
   refine sl_nil ?_
   refine ol_delE (id := 105) encScore e25 rfl rfl rfl rfl rw22 hi rfl ?_
   refine ol_r (r_assign rfl) rfl ?_
   refine ol_nil (to_k0 (fun _ _ h => h) (hK6 _ _ _ _ _ ?_))
   clear hK6
   refine wp_seq' fun K7 hK7 => ?_
   refine wp_reg ?_
   refine ol_r (r_move rfl) rfl ?_
   refine ol_r (r_move rfl) rfl ?_
   refine ol_r (r_len rfl sl22) rfl ?_
   refine ol_r (r_move rfl) rfl ?_
   refine ol_r (r_sl (l := some ((n - 1 : Nat) : Int)) (h := some (n : Int)) rfl rfl rfl sl22 (by simp only [Option.getD_some]; omega) (by omega)) rfl ?_
   refine ol_clearO encScore (id := 105) rfl rfl rfl Try.underlying22 Try.zeroValue24 rfl rfl (by simp only [Option.getD_some, Option.getD_none]; omega) fun vs31 hvs31 => ?_
   simp only [Option.getD_some, Option.getD_none, Int.toNat_natCast] at hvs31
   refine ol_nil (to_k0 (fun _ _ h => h) (hK7 _ _ _ _ _ ?_))
   clear hK7
   refine wp_seq' fun K8 hK8 => ?_
   refine wp_reg ?_
   refine ol_r (r_move rfl) rfl ?_
   refine ol_r (r_assign rfl) rfl ?_
   refine ol_nil (to_k0 (fun _ _ h => h) (hK8 _ _ _ _ _ ?_))
   clear hK8
   refine hQ.ret (rvs1 (rv_t rfl)) (fun _ _ h => h) fun w hb hs hB hkd => ?_
   have hcut := hs.cut (id := 105) rfl (h := n - 1) (by simp only [Option.getD_some, Int.toNat_natCast]; omega)
   have hy : (xs.take i ++ xs.drop (i + 1) ++ xs.drop (n - 1)).take (n - 1) = xs.take i ++ xs.drop (i + 1) := by
     rw [List.take_left' (by rw [List.length_append, List.length_take, List.length_drop]; omega)]
   refine ⟨rfl, hb, ?_, hB, hkd⟩
   have hv := hvs31
   rw [hy] at hv
   have h5 := hcut.sub (H' := [(1103, _), (1101, _), (1102, _), (1106, _), (107, _), (105, _)]) (by repeat' first | exact subH_nil | refine subH_same rfl ?_)
   rw [show vs31.take ((n - 1) * 3) = encScore.enc (xs.take i ++ xs.drop (i + 1)) from hv] at h5
   exact h5
end Go.Proofs.Ytjflbnbofedlkaa

/-
  A list the other way round. No program stands here.
-/

namespace Go.Proofs.Ytjflbnbofedlkaa
set_option linter.unusedVariables false
def Rv {α : Type} (xs : List α) (k : Nat) (zs : List α) : Prop := zs.length = xs.length ∧ ∀ j, j < xs.length → zs[j]? = xs[if j < k ∨ xs.length - 1 - j < k then xs.length - 1 - j else j]?
theorem Rv.start {α : Type} (xs : List α) : Rv xs 0 xs := ⟨rfl, fun j _ => by rw [if_neg (by omega)]⟩
theorem Rv.step {α : Type} {xs zs : List α} {k : Nat} {x y : α} (h : Rv xs k zs) (hx : zs[k]? = some x) (hy : zs[xs.length - 1 - k]? = some y) (hk : k < xs.length - 1 - k) : Rv xs (k + 1) ((zs.set k y).set (xs.length - 1 - k) x) := by
  refine ⟨by simp [h.1], fun j hj => ?_⟩
  have h1 := h.2 k (by omega)
  have h2 := h.2 (xs.length - 1 - k) (by omega)
  rw [hx, if_neg (by omega)] at h1
  rw [hy, if_neg (by omega)] at h2
  have h3 := h.2 j hj
  rw [List.getElem?_set, List.getElem?_set]
  by_cases e1 : xs.length - 1 - k = j
  · rw [if_pos e1, if_pos (by rw [List.length_set, h.1]; exact e1 ▸ hj), if_pos (by omega), show xs.length - 1 - j = k by omega]; exact h1
  · rw [if_neg e1]
    by_cases e2 : k = j
    · rw [if_pos e2, if_pos (by rw [h.1]; omega), if_pos (by omega), ← e2]; exact h2
    · rw [if_neg e2, h3]
      by_cases e3 : j < k ∨ xs.length - 1 - j < k
      · rw [if_pos e3, if_pos (by omega)]
      · rw [if_neg e3, if_neg (by omega)]
theorem Rv.stop {α : Type} {xs zs : List α} {k : Nat} (h : Rv xs k zs) (hk : xs.length ≤ 2 * k + 1) : zs = xs.reverse := by
  refine List.ext_getElem? fun j => ?_
  by_cases hj : j < xs.length
  · rw [h.2 j hj, List.getElem?_reverse hj]
    by_cases e : j < k ∨ xs.length - 1 - j < k
    · rw [if_pos e]
    · rw [if_neg e]; congr 1; omega
  · rw [List.getElem?_eq_none (by rw [h.1]; omega), List.getElem?_eq_none (by rw [List.length_reverse]; omega)]
end Go.Proofs.Ytjflbnbofedlkaa

/-
  slices.Reverse of entries; MatchBoardsMatchSpec.
-/



namespace Go.Proofs.Ytjflbnbofedlkaa
open Go Go.RowKit Hx
set_option linter.unusedVariables false
set_option linter.unusedSimpArgs false
set_option maxRecDepth 8000
theorem reverse_score (B : Nat) (w : World) (E1 E2 E3 E4 E5 : Ent) (a : Option Addr) (n c : Nat) (xs : List ScoreR) (hn2 : n ≤ 1000000) (hB0 : B ≤ w.heap.size) (hs0 : Sat B w (dH E1 E2 E3 E4 E5 a n c xs)) :
    Calls Try.prog 33 #[.slice a n c] w fun e w' => e = .returned (.tuple #[]) ∧ Below B w w' ∧ Sat B w' (dH E1 E2 E3 E4 E5 a n c xs.reverse) ∧ B ≤ w'.heap.size ∧ Kd (fun _ => True) w w' := by
  have hn : xs.length = n := (Sat.rd hs0 (E := encScore) (id := 105) rfl rfl).len
  refine enterQ (N := 28) (C := fun _ => True) (H := dH E1 E2 E3 E4 E5 a n c xs) (B := B) (args := [_]) Try.func33 rfl rfl rfl (hB0) (hs0) fun Q hQ => ?_
  refine wp_seq' fun K1 hK1 => ?_
  refine wp_reg ?_
  refine ol_r (r_move rfl) rfl ?_
  refine ol_r (r_len rfl sl22) rfl ?_
  refine ol_r (r_sub rfl rfl (by omega)) rfl ?_
  refine ol_r (r_assign rfl) rfl ?_
  refine ol_r (r_assign rfl) rfl ?_
  refine ol_nil (to_k0 (fun _ _ h => h) (hK1 _ _ _ _ _ ?_))
  clear hK1
  refine wp_block' ?_
  apply wp_loopM (σ := Nat × List ScoreR) (fun s => s.1 ≤ n ∧ Rv xs s.1 s.2) (fun s => [(2, .int .i64 s.1), (3, .int .i64 ((n : Int) - 1 - s.1))]) [(0, _)] (fun s => [(105, .row a n c (encScore.enc s.2) 24 3)]) [(107, _), (1101, _), (1102, _), (1103, _), (1106, _)] (fun s => n - s.1) ((0, xs))
  ·try dsimp only
   exact ⟨Nat.zero_le _, Rv.start xs⟩
  ·exact (sub_cons (by first | rfl | (first | rfl | (rw [show (n : Int) - 1 - ((0 : Nat) : Int) = (n : Int) - 1 by omega]; rfl))) (sub_cons (by first | rfl | (first | rfl | (rw [show (n : Int) - 1 - ((0 : Nat) : Int) = (n : Int) - 1 by omega]; rfl))) sub_nil))
  ·exact (sub_cons rfl sub_nil)
  ·exact (subH_row rfl (by first | (dsimp only; rfl; done) | (rfl; done) | (dsimp only; done)) subH_nil)
  ·exact (subH_same rfl (subH_same rfl (subH_same rfl (subH_same rfl (subH_same rfl subH_nil)))))
  ·rintro ⟨k, zs⟩ ⟨hk, hR⟩
   dsimp only at hk hR ⊢
   have hzl := hR.1
   intro K2 hK2
   refine wp_seq' fun K3 hK3 => ?_
   refine wp_seq' fun K4 hK4 => ?_
   refine wp_reg ?_
   refine ol_r (r_move rfl) rfl ?_
   refine ol_r (r_move rfl) rfl ?_
   refine ol_r (r_lss rfl rfl) rfl ?_
   refine ol_nil (to_k0 (fun _ _ h => h) (hK4 _ _ _ _ _ ?_))
   clear hK4
   first | refine wp_condD rfl (fun hc9 => ?_) (fun hc9 => ?_) | refine wp_condN rfl (fun hc9 => ?_) (fun hc9 => ?_) | refine wp_condNB rfl (fun hc9 => ?_) (fun hc9 => ?_) | refine wp_cond' rfl (fun hc9 => ?_) (fun hc9 => ?_)
   ·refine wp_skip' (to_k0 (fun _ _ h => h) (hK3 _ _ _ _ _ ?_))
    clear hK3
    refine wp_seq' fun K5 hK5 => ?_
    refine wp_block' ?_
    refine wp_rega [(999, [(107, _), (1101, _), (1102, _), (1103, _), (1106, _)]), (13, [(105, _)])] (by kernel_rfl) ⟨.inr (subH_same rfl (subH_same rfl (subH_same rfl (subH_same rfl (subH_same rfl subH_nil))))), ⟨.inr (subH_same rfl subH_nil), trivial⟩⟩ ?_
    refine aq_r 0 999 rfl (by kernel_rfl) (by kernel_rfl) (by kernel_rfl) (.head _) (by kernel_rfl) (by kernel_rfl) rfl (r_move rfl) ?_
    refine aq_r 1 999 rfl (by kernel_rfl) (by kernel_rfl) (by kernel_rfl) (.head _) (by kernel_rfl) (by kernel_rfl) rfl (r_move rfl) ?_
    refine aq_r 2 999 rfl (by kernel_rfl) (by kernel_rfl) (by kernel_rfl) (.head _) (by kernel_rfl) (by kernel_rfl) rfl (r_move rfl) ?_
    refine aq_r 3 999 rfl (by kernel_rfl) (by kernel_rfl) (by kernel_rfl) (.head _) (by kernel_rfl) (by kernel_rfl) rfl (r_move rfl) ?_
    refine aq_r 4 999 rfl (by kernel_rfl) (by kernel_rfl) (by kernel_rfl) (.head _) (by kernel_rfl) (by kernel_rfl) rfl (r_move rfl) ?_
    refine aq_r 5 999 rfl (by kernel_rfl) (by kernel_rfl) (by kernel_rfl) (.head _) (by kernel_rfl) (by kernel_rfl) rfl (r_move rfl) ?_
    refine aq_ixo 6 13 rfl (by kernel_rfl) (by kernel_rfl) (by kernel_rfl) (.tail _ (.head _)) (by kernel_rfl) (by kernel_rfl) rfl (id := 105) encScore _ rfl rfl rfl rfl sl22 (by omega) (by omega) fun x20 hx20 => ?_
    try simp only [Int.toNat_natCast] at hx20
    try simp only [Int.toNat_natCast] at hx20
    refine aq_r 7 13 rfl (by kernel_rfl) (by kernel_rfl) (by kernel_rfl) (.tail _ (.head _)) (by kernel_rfl) (by kernel_rfl) rfl (r_ldw rfl (fun w1 hb1 hs1 hB1 => ld_own (id := 105) hs1 rfl rfl ty24 hx20)) ?_
    refine aq_r 8 999 rfl (by kernel_rfl) (by kernel_rfl) (by kernel_rfl) (.head _) (by kernel_rfl) (by kernel_rfl) rfl (r_move rfl) ?_
    refine aq_r 9 999 rfl (by kernel_rfl) (by kernel_rfl) (by kernel_rfl) (.head _) (by kernel_rfl) (by kernel_rfl) rfl (r_move rfl) ?_
    refine aq_one (i := 10) (by kernel_rfl) rfl fun K6 hK6 => ?_
    refine ol_ixo (id := 105) encScore _ rfl rfl rfl rfl sl22 (by omega) rfl fun x24 hx24 => ?_
    try simp only [Int.toNat_natCast] at hx24
    try simp only [Int.toNat_natCast] at hx24
    refine ol_nil (to_k0 (fun _ _ h => h) (hK6 _ _ ⟨.inr (by repeat' first | exact subH_nil | refine subH_same rfl ?_ | (refine subH_blk rfl (by repeat' first | exact sub_nil | refine sub_cons rfl ?_) ?_)), ⟨.inr (by repeat' first | exact subH_nil | refine subH_same rfl ?_ | (refine subH_blk rfl (by repeat' first | exact sub_nil | refine sub_cons rfl ?_) ?_)), trivial⟩⟩ ?_))
    clear hK6
    refine aq_r 11 13 rfl (by kernel_rfl) (by kernel_rfl) (by kernel_rfl) (.tail _ (.head _)) (by kernel_rfl) (by kernel_rfl) rfl (r_ldw rfl (fun w1 hb1 hs1 hB1 => ld_own (id := 105) hs1 rfl rfl ty24 hx24)) ?_
    refine aq_ixo 12 13 rfl (by kernel_rfl) (by kernel_rfl) (by kernel_rfl) (.tail _ (.head _)) (by kernel_rfl) (by kernel_rfl) rfl (id := 105) encScore _ rfl rfl rfl rfl sl22 (by omega) (by omega) fun x26 hx26 => ?_
    try simp only [Int.toNat_natCast] at hx26
    try simp only [Int.toNat_natCast] at hx26
    refine aq_one (i := 13) (by kernel_rfl) rfl fun K7 hK7 => ?_
    refine ol_storeRow (id := 105) _ _ _ rfl rfl rfl rfl sz24 (by omega) ?_
    refine ol_nil (to_k0 (fun _ _ h => h) (hK7 _ _ ⟨.inr (by repeat' first | exact subH_nil | refine subH_same rfl ?_ | (refine subH_blk rfl (by repeat' first | exact sub_nil | refine sub_cons rfl ?_) ?_)), ⟨.inl (by kernel_rfl), trivial⟩⟩ ?_))
    clear hK7
    refine aq_one (i := 14) (by kernel_rfl) rfl fun K8 hK8 => ?_
    refine ol_ixo (id := 105) encScore _ rfl rfl rfl rfl sl22 (by omega) rfl fun x27 hx27 => ?_
    try simp only [Int.toNat_natCast] at hx27
    try simp only [Int.toNat_natCast] at hx27
    refine ol_nil (to_k0 (fun _ _ h => h) (hK8 _ _ ⟨.inr (by repeat' first | exact subH_nil | refine subH_same rfl ?_ | (refine subH_blk rfl (by repeat' first | exact sub_nil | refine sub_cons rfl ?_) ?_)), ⟨.inl (by kernel_rfl), trivial⟩⟩ ?_))
    clear hK8
    refine aq_one (i := 15) (by kernel_rfl) rfl fun K9 hK9 => ?_
    refine ol_storeRow (id := 105) _ _ _ rfl rfl rfl rfl sz24 (by omega) ?_
    refine ol_nil (to_k0 (fun _ _ h => h) (hK9 _ _ ⟨.inr (by repeat' first | exact subH_nil | refine subH_same rfl ?_ | (refine subH_blk rfl (by repeat' first | exact sub_nil | refine sub_cons rfl ?_) ?_)), ⟨.inl (by kernel_rfl), trivial⟩⟩ ?_))
    clear hK9
    refine aq_done (by kernel_rfl) ?_
    refine (to_k0 (fun _ _ h => h) (hK5 _ _ _ _ _ ?_))
    clear hK5
    refine wp_reg ?_
    refine ol_r (r_move rfl) rfl ?_
    refine ol_r (r_add rfl rfl (by omega)) rfl ?_
    refine ol_r (r_move rfl) rfl ?_
    refine ol_r (r_sub rfl rfl (by omega)) rfl ?_
    refine ol_r (r_assign rfl) rfl ?_
    refine ol_r (r_assign rfl) rfl ?_
    refine ol_nil (to_k0 (fun _ _ h => h) (hK2 ((k + 1, (zs.set ((k : Nat) : Int).toNat x20).set ((n : Int) - 1 - (k : Int)).toNat x24)) _ _ ?_ ?_ (sub_cons (by first | rfl | (first | rfl | (rw [show (n : Int) - 1 - ((k + 1 : Nat) : Int) = (n : Int) - 1 - (k : Int) - 1 by omega]; rfl))) (sub_cons (by first | rfl | (first | rfl | (rw [show (n : Int) - 1 - ((k + 1 : Nat) : Int) = (n : Int) - 1 - (k : Int) - 1 by omega]; rfl))) sub_nil)) (sub_cons rfl sub_nil) (by exact (subH_row rfl (by first | (dsimp only; rfl; done) | (rfl; done) | (dsimp only; done)) subH_nil)) (subH_same rfl (subH_same rfl (subH_same rfl (subH_same rfl (subH_same rfl subH_nil)))))))
    ·try dsimp only
     rw [Int.toNat_natCast]
     rw [show ((n : Int) - 1 - (k : Int)).toNat = xs.length - 1 - k by omega] at hx20 ⊢
     exact ⟨by omega, hR.step hx24 hx20 (by omega)⟩
    ·try dsimp only
     omega
   ·refine wp_exit' (hQ.fall rvs0 (fun _ _ h => h) fun w hb hs hB hkd => ?_)
    have hz := hR.stop (by omega)
    subst hz
    exact ⟨rfl, hb, hs.sub (by repeat' first | exact subH_nil | refine subH_same rfl ?_), hB, hkd⟩
end Go.Proofs.Ytjflbnbofedlkaa

/-
  MatchBoardsMatchSpec.
-/

namespace Go.Proofs.Ytjflbnbofedlkaa
open Go Go.RowKit Hx
set_option linter.unusedVariables false
set_option linter.unusedSimpArgs false
set_option maxRecDepth 8000
def encBoardStep : Enc StepR := { size := 4, cells := fun x => [.int .i64 x.kind, .string x.sc.name, .int .i64 x.sc.start, .int .i64 x.sc.time], val := fun x => .agg #[.int .i64 x.kind, .string x.sc.name, .int .i64 x.sc.start, .int .i64 x.sc.time], len := fun _ => rfl, ones := fun _ u h => (by simp at h; rcases h with h | h | h | h <;> subst h <;> rfl), pos := by decide, vc := fun _ => rfl }
theorem ty62 : Ty Try.prog 62 encBoardStep := .inr ⟨ag62, fun _ => rfl⟩
structure LBd (L : List ScoreR) (D : NM) (m : Nat) : Prop where
  d : BrdOk L D
  l : L.length ≤ 5000
  c : ∀ x ∈ L, chkEn x = 0
  n : ∀ x ∈ L, x.name.size ≤ 9223372036854775807
  m : m = L.length
theorem LBd.add {L : List ScoreR} {D D2 : NM} {m : Nat} {x : ScoreR} (h : LBd L D m) (hD : BrdOk (L ++ [x]) D2) (h1 : chkEn x = 0) (h2 : L.length < 5000) (h3 : x.name.size ≤ 9223372036854775807) : LBd (L ++ [x]) D2 (m + 1) :=
  ⟨hD, by rw [List.length_append, List.length_singleton]; omega, fun y hy => (by
    rcases List.mem_append.1 hy with hy | hy
    · exact h.c y hy
    · rw [List.mem_singleton.1 hy]; exact h1), fun y hy => (by
    rcases List.mem_append.1 hy with hy | hy
    · exact h.n y hy
    · rw [List.mem_singleton.1 hy]; exact h3), by rw [List.length_append, List.length_singleton, h.m]⟩
theorem LBd.same {L L' : List ScoreR} {D D2 : NM} {m : Nat} (h : LBd L D m) (hL : L' = L) (hD : BrdOk L' D2) : LBd L' D2 m := by
  subst hL; exact ⟨hD, h.l, h.c, h.n, h.m⟩
theorem LBd.del {L : List ScoreR} {D D2 : NM} {m i : Nat} {x : ScoreR} (h : LBd L D m) (hi : L[i]? = some x) (hD : BrdOk (L.take i ++ L.drop (i + 1)) D2) : LBd (L.take i ++ L.drop (i + 1)) D2 (m - 1) := by
  have hl := erase_len hi
  have hs : ∀ y ∈ L.take i ++ L.drop (i + 1), y ∈ L := fun y hy => by
    rcases List.mem_append.1 hy with hy | hy
    · exact List.mem_of_mem_take hy
    · exact List.mem_of_mem_drop hy
  exact ⟨hD, by have := h.l; omega, fun y hy => h.c y (hs y hy), fun y hy => h.n y (hs y hy), by rw [h.m]; omega⟩
theorem law_boards (a : Option Addr) (n c : Nat) (xs : List StepR) (w : World) (hx : Rd encBoardStep w.heap.size w a n c xs) (hnm : ∀ x ∈ xs, x.sc.name.size ≤ 9223372036854775807) :
    Calls Try.prog 6 #[.slice a n c] w fun e w' => e = .returned (.bool true) ∧ Below w.heap.size w w' := by
  have hln := hx.len
  have hlf := hx.fit
  refine enterQ (N := 101) (C := fun _ => True) (H := []) (B := w.heap.size) (args := [_]) Try.func6 rfl rfl rfl (Nat.le_refl _) (Sat.nil _ _) fun Q hQ => ?_
  refine wp_seq' fun K1 hK1 => ?_
  refine wp_reg ?_
  refine ol_r (r_assign rfl) rfl ?_
  refine ol_nil (to_k0 (fun _ _ h => h) (hK1 _ _ _ _ _ ?_))
  clear hK1
  refine wp_seq' fun K2 hK2 => ?_
  refine wp_reg ?_
  refine ol_call rfl rfl cb21 rfl (fun w1 hb1 hs1 hB1 => ?_)
  refine Calls.mono (match_New _) ?_
  rintro e w2 ⟨bb, bm, rfl, hb2, hs2⟩
  refine After.more rfl hb1 hs1 hB1 hb2 hs2 ?_
  clear hs2 hb2 hB1 hs1 hb1 w2 w1
  refine ol_call rfl rfl cb22 rfl (fun w1 hb1 hs1 hB1 => ?_)
  refine Calls.mono (ref5_New _) ?_
  rintro e w2 ⟨xb, rfl, hb2, hs2⟩
  refine After.more rfl hb1 hs1 hB1 hb2 hs2 ?_
  clear hs2 hb2 hB1 hs1 hb1 w2 w1
  refine ol_nilrow 1006 24 3 ?_
  refine ol_r (r_assign rfl) rfl ?_
  refine ol_r (r_assign rfl) rfl ?_
  refine ol_nil (to_k0 (fun _ _ h => h) (hK2 _ _ _ _ _ ?_))
  clear hK2
  refine wp_seq' fun K3 hK3 => ?_
  refine wp_reg ?_
  refine ol_nilrow 5 24 3 ?_
  refine ol_r (r_assign rfl) rfl ?_
  refine ol_nil (to_k0 (fun _ _ h => h) (hK3 _ _ _ _ _ ?_))
  clear hK3
  refine wp_seq' fun K4 hK4 => ?_
  refine wp_seq' fun K5 hK5 => ?_
  refine wp_reg ?_
  refine ol_r (r_move rfl) rfl ?_
  refine ol_r (r_len rfl sl56) rfl ?_
  refine ol_r (r_move rfl) rfl ?_
  refine ol_nil (to_k0 (fun _ _ h => h) (hK5 _ _ _ _ _ ?_))
  clear hK5
  refine wp_block' ?_
  apply wp_loopM (σ := Nat × List ScoreR × NM × Option Addr × Nat × Option Addr × Nat × Nat) (fun s => s.1 ≤ n ∧ LBd s.2.1 s.2.2.1 s.2.2.2.2.2.2.2) (fun s => [(17, .int .i64 s.1), (5, .slice s.2.2.2.2.2.1 s.2.2.2.2.2.2.2 s.2.2.2.2.2.2.1)]) [(3, _), (4, _), (15, _), (16, _)] (fun s => [(1003, .blk bb [(0, .map (some bm)), (1, .int .i64 s.2.1.length)] 106), (1001, .ob bm (MapO (pEnc encScore.val I64 s.2.2.1))), (1002, .blk xb [(0, .slice s.2.2.2.1 s.2.1.length s.2.2.2.2.1)] 108), (1006, .row s.2.2.2.1 s.2.1.length s.2.2.2.2.1 (encScore.enc s.2.1) 24 3), (5, .row s.2.2.2.2.2.1 s.2.2.2.2.2.2.2 s.2.2.2.2.2.2.1 (encScore.enc s.2.1) 24 3)]) [] (fun s => n - s.1) ((0, [], [], none, 0, none, 0, 0))
  ·try dsimp only
   exact ⟨Nat.zero_le _, BrdOk.nil, by simp, fun x h => by simp at h, fun x h => by simp at h, rfl⟩
  ·exact (sub_cons rfl (sub_cons rfl sub_nil))
  ·exact (sub_cons rfl (sub_cons rfl (sub_cons rfl (sub_cons rfl sub_nil))))
  ·exact (subH_blk rfl (sub_cons rfl (sub_cons rfl sub_nil)) (subH_same rfl (subH_blk rfl (sub_cons rfl sub_nil) (subH_row rfl (by first | (dsimp only; rfl; done) | (rfl; done) | (dsimp only; done)) (subH_row rfl (by first | (dsimp only; rfl; done) | (rfl; done) | (dsimp only; done)) subH_nil)))))
  ·exact subH_nil
  ·rintro ⟨k, L, D, ra, rc, ta, tc, m⟩ ⟨hk, hd⟩
   dsimp only at hk hd ⊢
   intro K6 hK6
   refine wp_seq' fun K7 hK7 => ?_
   refine wp_reg ?_
   refine ol_r (r_lss rfl rfl) rfl ?_
   refine ol_nil (to_k0 (fun _ _ h => h) (hK7 _ _ _ _ _ ?_))
   clear hK7
   refine wp_seq' fun K8 hK8 => ?_
   first | refine wp_condD rfl (fun hc18 => ?_) (fun hc18 => ?_) | refine wp_condN rfl (fun hc18 => ?_) (fun hc18 => ?_) | refine wp_condNB rfl (fun hc18 => ?_) (fun hc18 => ?_) | refine wp_cond' rfl (fun hc18 => ?_) (fun hc18 => ?_)
   ·refine wp_skip' (to_k0 (fun _ _ h => h) (hK8 _ _ _ _ _ ?_))
    clear hK8
    refine wp_seq' fun K9 hK9 => ?_
    refine wp_block' ?_
    refine wp_seq' fun K10 hK10 => ?_
    refine wp_reg ?_
    refine ol_ixr hx rfl rfl sl56 (by omega) rfl fun x19 hx19 => ?_
    try simp only [Int.toNat_natCast] at hx19
    refine ol_r (r_ldw rfl (fun w1 hb1 hs1 hB1 => Rd.loads hx ty62 hx19 hb1)) rfl ?_
    refine ol_alloc 7 z62 rfl fun b7 => ?_
    refine ol_store (id := 7) rfl rfl rfl rfl sz62 rfl rfl (by first | decide | exact Nat.zero_lt_succ _ | simp) ?_
    refine ol_nil (to_k0 (fun _ _ h => h) (hK10 _ _ _ _ _ ?_))
    clear hK10
    apply wp_seq_cutM (σ := List ScoreR × NM × Option Addr × Nat × Option Addr × Nat × Nat) (fun s => LBd s.1 s.2.1 s.2.2.2.2.2.2) (fun s => [(5, .slice s.2.2.2.2.1 s.2.2.2.2.2.2 s.2.2.2.2.2.1)]) [(3, _), (4, _), (15, _), (16, _), (17, _)] (fun s => [(1003, .blk bb [(0, .map (some bm)), (1, .int .i64 s.1.length)] 106), (1001, .ob bm (MapO (pEnc encScore.val I64 s.2.1))), (1002, .blk xb [(0, .slice s.2.2.1 s.1.length s.2.2.2.1)] 108), (1006, .row s.2.2.1 s.1.length s.2.2.2.1 (encScore.enc s.1) 24 3), (5, .row s.2.2.2.2.1 s.2.2.2.2.2.2 s.2.2.2.2.2.1 (encScore.enc s.1) 24 3)]) [(7, _)]
    ·exact (sub_cons rfl (sub_cons rfl (sub_cons rfl (sub_cons rfl (sub_cons rfl sub_nil)))))
    ·exact (subH_same rfl subH_nil)
    ·intro K11 hK11
     refine wp_seq' fun K12 hK12 => ?_
     refine wp_reg ?_
     refine ol_r (r_fa (o' := 0) rfl fl62_0 rfl) rfl ?_
     refine ol_r (r_ld (id := 7) rfl rfl rfl sc3) rfl ?_
     refine ol_nil (to_k0 (fun _ _ h => h) (hK12 _ _ _ _ _ ?_))
     clear hK12
     refine wp_block' ?_
     refine wp_seq' fun K13 hK13 => ?_
     refine wp_reg ?_
     refine ol_r (r_eql rfl rfl) rfl ?_
     refine ol_r (r_assign rfl) rfl ?_
     refine ol_nil (to_k0 (fun _ _ h => h) (hK13 _ _ _ _ _ ?_))
     clear hK13
     first | refine wp_condD rfl (fun hc23 => ?_) (fun hc23 => ?_) | refine wp_condN rfl (fun hc23 => ?_) (fun hc23 => ?_) | refine wp_condNB rfl (fun hc23 => ?_) (fun hc23 => ?_) | refine wp_cond' rfl (fun hc23 => ?_) (fun hc23 => ?_)
     ·refine wp_seq' fun K14 hK14 => ?_
      refine wp_reg ?_
      refine ol_r (r_move rfl) rfl ?_
      refine ol_r (r_fa (o' := 1) rfl fl62_1 rfl) rfl ?_
      refine ol_r (r_lda (id := 7) (n := 3) rfl rfl rfl ag24) rfl ?_
      refine ol_call rfl rfl cb23 rfl (fun w1 hb1 hs1 hB1 => ?_)
      refine Calls.mono (match_Add _ _ _ _ _ _ bb bm L D x19.sc hB1 hd.d hd.l (hnm _ (List.mem_of_getElem? hx19)) ((hs1.up 100).sub (by repeat' first | exact subH_nil | refine subH_same rfl ?_))) ?_
      rintro e w2 ⟨rfl, hbw, ⟨D2, hD2, hs2⟩, hB2, hkd2⟩
      refine After.sat rfl hb1 hbw (hs2.down 100 (H' := [(1003, _), (1001, _), (1002, _), (1006, _), (5, _), (7, _)]) (by repeat' first | exact subH_nil | refine subH_same rfl ?_)) hB2 hkd2 ?_
      clear hkd2 hB2 hs2 hbw hB1 hs1 hb1 w2 w1
      refine ol_r (r_assign rfl) rfl ?_
      refine ol_nil (to_k0 (fun _ _ h => h) (hK14 _ _ _ _ _ ?_))
      clear hK14
      refine wp_seq' fun K15 hK15 => ?_
      refine wp_seq' fun K16 hK16 => ?_
      refine wp_reg ?_
      refine ol_r (r_move rfl) rfl ?_
      refine ol_r (r_move rfl) rfl ?_
      refine ol_r (r_fa (o' := 1) rfl fl62_1 rfl) rfl ?_
      refine ol_r (r_lda (id := 7) (n := 3) rfl rfl rfl ag24) rfl ?_
      refine ol_call rfl rfl cb24 rfl (fun w1 hb1 hs1 hB1 => ?_)
      refine Calls.mono (ref5_Add _ _ _ _ _ _ xb ra rc L x19.sc hB1 hd.l (hnm _ (List.mem_of_getElem? hx19)) ((hs1.up 100).sub (by repeat' first | exact subH_nil | refine subH_same rfl ?_))) ?_
      rintro e w2 ⟨rfl, hbw, ⟨a2, c2, hs2⟩, hB2, hkd2⟩
      refine After.sat rfl hb1 hbw (hs2.down 100 (H' := [(1003, _), (1001, _), (1002, _), (1006, _), (5, _), (7, _)]) (by repeat' first | exact subH_nil | refine subH_same rfl ?_)) hB2 hkd2 ?_
      clear hkd2 hB2 hs2 hbw hB1 hs1 hb1 w2 w1
      refine ol_r (r_neq rfl rfl) rfl ?_
      refine ol_nil (to_k0 (fun _ _ h => h) (hK16 _ _ _ _ _ ?_))
      clear hK16
      first | refine wp_condD rfl (fun hc34 => ?_) (fun hc34 => ?_) | refine wp_condN rfl (fun hc34 => ?_) (fun hc34 => ?_) | refine wp_condNB rfl (fun hc34 => ?_) (fun hc34 => ?_) | refine wp_cond' rfl (fun hc34 => ?_) (fun hc34 => ?_)
      ·exfalso
       exact hc34 rfl
      ·refine wp_skip' (to_k0 (fun _ _ h => h) (hK15 _ _ _ _ _ ?_))
       clear hK15
       refine wp_seq' fun K17 hK17 => ?_
       refine wp_reg ?_
       refine ol_r (r_move rfl) rfl ?_
       refine ol_r (r_eql rfl rfl) rfl ?_
       refine ol_nil (to_k0 (fun _ _ h => h) (hK17 _ _ _ _ _ ?_))
       clear hK17
       first | refine wp_condD rfl (fun hc36 => ?_) (fun hc36 => ?_) | refine wp_condN rfl (fun hc36 => ?_) (fun hc36 => ?_) | refine wp_condNB rfl (fun hc36 => ?_) (fun hc36 => ?_) | refine wp_cond' rfl (fun hc36 => ?_) (fun hc36 => ?_)
       ·refine wp_reg ?_
        obtain ⟨hA1, hA2, hA3⟩ := addR_zero hc36
        rw [hA1] at hD2 ⊢
        have hmL := hd.m
        refine ol_r (r_move rfl) rfl ?_
        refine ol_r (r_fa (o' := 1) rfl fl62_1 rfl) rfl ?_
        refine ol_r (r_lda (id := 7) (n := 3) rfl rfl rfl ag24) rfl ?_
        refine ol_bs1 40 rfl rfl rw22 rfl rfl rfl fun a40 => ?_
        refine ol_append1 (id := 5) (id2 := 40) rfl rfl rfl rfl rfl rw22 (by omega) rfl fun a41 c41 => ?_
        refine ol_r (r_assign rfl) rfl ?_
        refine ol_nil (to_k0 (fun _ _ h => h) (hK11 ((L ++ [x19.sc], D2, a2, c2, a41, c41, m + 1)) _ _ ?_ (sub_cons rfl sub_nil) (sub_cons rfl (sub_cons rfl (sub_cons rfl (sub_cons rfl (sub_cons rfl sub_nil))))) (subH_blk rfl (by repeat' first | exact sub_nil | refine sub_cons rfl ?_) (subH_same rfl (subH_blk rfl (by repeat' first | exact sub_nil | refine sub_cons rfl ?_) (subH_row rfl (by first | (dsimp only; first | rfl | (rw [Enc.enc_append]; rfl) | (rw [addR_same hc36]; done) | (rw [takeR_same phs60]; done); done) | (first | rfl | (rw [Enc.enc_append]; rfl) | (rw [addR_same hc36]; done) | (rw [takeR_same phs60]; done); done) | (dsimp only; done)) (subH_row rfl (by first | (dsimp only; first | rfl | (rw [Enc.enc_append]; rfl) | (rw [addR_same hc36]; done) | (rw [takeR_same phs60]; done); done) | (first | rfl | (rw [Enc.enc_append]; rfl) | (rw [addR_same hc36]; done) | (rw [takeR_same phs60]; done); done) | (dsimp only; done)) subH_nil))))) (subH_same rfl subH_nil)))
        try dsimp only
        first
        | exact hd.add hD2 hA2 hA3 (hnm _ (List.mem_of_getElem? hx19))
        | exact hd.same (addR_same hc36) hD2
        | exact hd.del hi1 hD2
        | exact hd.same (takeR_same phs60) hD2
        | exact hd
       ·refine wp_skip' (to_k0 (fun _ _ h => h) (hK11 (((addR L x19.sc).1, D2, a2, c2, ta, tc, m)) _ _ ?_ (sub_cons rfl sub_nil) (sub_cons rfl (sub_cons rfl (sub_cons rfl (sub_cons rfl (sub_cons rfl sub_nil))))) (subH_blk rfl (by repeat' first | exact sub_nil | refine sub_cons rfl ?_) (subH_same rfl (subH_blk rfl (by repeat' first | exact sub_nil | refine sub_cons rfl ?_) (subH_row rfl (by first | (dsimp only; first | rfl | (rw [Enc.enc_append]; rfl) | (rw [addR_same hc36]; done) | (rw [takeR_same phs60]; done); done) | (first | rfl | (rw [Enc.enc_append]; rfl) | (rw [addR_same hc36]; done) | (rw [takeR_same phs60]; done); done) | (dsimp only; done)) (subH_row rfl (by first | (dsimp only; first | rfl | (rw [Enc.enc_append]; rfl) | (rw [addR_same hc36]; done) | (rw [takeR_same phs60]; done); done) | (first | rfl | (rw [Enc.enc_append]; rfl) | (rw [addR_same hc36]; done) | (rw [takeR_same phs60]; done); done) | (dsimp only; done)) subH_nil))))) (subH_same rfl subH_nil)))
        try dsimp only
        first
        | exact hd.add hD2 hA2 hA3 (hnm _ (List.mem_of_getElem? hx19))
        | exact hd.same (addR_same hc36) hD2
        | exact hd.del hi1 hD2
        | exact hd.same (takeR_same phs60) hD2
        | exact hd
     ·refine wp_seq' fun K18 hK18 => ?_
      refine wp_reg ?_
      refine ol_r (r_eql rfl rfl) rfl ?_
      refine ol_r (r_assign rfl) rfl ?_
      refine ol_nil (to_k0 (fun _ _ h => h) (hK18 _ _ _ _ _ ?_))
      clear hK18
      first | refine wp_condD rfl (fun hc42 => ?_) (fun hc42 => ?_) | refine wp_condN rfl (fun hc42 => ?_) (fun hc42 => ?_) | refine wp_condNB rfl (fun hc42 => ?_) (fun hc42 => ?_) | refine wp_cond' rfl (fun hc42 => ?_) (fun hc42 => ?_)
      ·refine wp_seq' fun K19 hK19 => ?_
       refine wp_reg ?_
       refine ol_r (r_move rfl) rfl ?_
       refine ol_r (r_fa (o' := 1) rfl fl62_1 rfl) rfl ?_
       refine ol_r (r_lda (id := 7) (n := 3) rfl rfl rfl ag24) rfl ?_
       refine ol_call rfl rfl cb25 rfl (fun w1 hb1 hs1 hB1 => ?_)
       refine Calls.mono (match_Remove _ _ _ _ _ _ bb bm L D x19.sc hB1 hd.d hd.l (hnm _ (List.mem_of_getElem? hx19)) ((hs1.up 100).sub (by repeat' first | exact subH_nil | refine subH_same rfl ?_))) ?_
       rintro e w2 ⟨rfl, hbw, ⟨D2, hD2, hs2⟩, hB2, hkd2⟩
       refine After.sat rfl hb1 hbw (hs2.down 100 (H' := [(1003, _), (1001, _), (1002, _), (1006, _), (5, _), (7, _)]) (by repeat' first | exact subH_nil | refine subH_same rfl ?_)) hB2 hkd2 ?_
       clear hkd2 hB2 hs2 hbw hB1 hs1 hb1 w2 w1
       refine ol_r (r_assign rfl) rfl ?_
       refine ol_nil (to_k0 (fun _ _ h => h) (hK19 _ _ _ _ _ ?_))
       clear hK19
       refine wp_seq' fun K20 hK20 => ?_
       refine wp_seq' fun K21 hK21 => ?_
       refine wp_reg ?_
       refine ol_r (r_move rfl) rfl ?_
       refine ol_r (r_move rfl) rfl ?_
       refine ol_r (r_fa (o' := 1) rfl fl62_1 rfl) rfl ?_
       refine ol_r (r_lda (id := 7) (n := 3) rfl rfl rfl ag24) rfl ?_
       refine ol_call rfl rfl cb26 rfl (fun w1 hb1 hs1 hB1 => ?_)
       refine Calls.mono (ref5_Remove _ _ _ _ _ _ xb ra rc L x19.sc hB1 hd.l (hnm _ (List.mem_of_getElem? hx19)) ((hs1.up 100).sub (by repeat' first | exact subH_nil | refine subH_same rfl ?_))) ?_
       rintro e w2 ⟨rfl, hbw, ⟨a2, c2, hs2⟩, hB2, hkd2⟩
       refine After.sat rfl hb1 hbw (hs2.down 100 (H' := [(1003, _), (1001, _), (1002, _), (1006, _), (5, _), (7, _)]) (by repeat' first | exact subH_nil | refine subH_same rfl ?_)) hB2 hkd2 ?_
       clear hkd2 hB2 hs2 hbw hB1 hs1 hb1 w2 w1
       refine ol_r (r_neq rfl rfl) rfl ?_
       refine ol_nil (to_k0 (fun _ _ h => h) (hK21 _ _ _ _ _ ?_))
       clear hK21
       first | refine wp_condD rfl (fun hc53 => ?_) (fun hc53 => ?_) | refine wp_condN rfl (fun hc53 => ?_) (fun hc53 => ?_) | refine wp_condNB rfl (fun hc53 => ?_) (fun hc53 => ?_) | refine wp_cond' rfl (fun hc53 => ?_) (fun hc53 => ?_)
       ·exfalso
        exact hc53 rfl
       ·refine wp_skip' (to_k0 (fun _ _ h => h) (hK20 _ _ _ _ _ ?_))
        clear hK20
        refine wp_seq' fun K22 hK22 => ?_
        refine wp_reg ?_
        refine ol_r (r_move rfl) rfl ?_
        refine ol_r (r_fa (o' := 1) rfl fl62_1 rfl) rfl ?_
        refine ol_r (r_lda (id := 7) (n := 3) rfl rfl rfl ag24) rfl ?_
        refine ol_call rfl rfl cb27 rfl (fun w1 hb1 hs1 hB1 => Calls.mono (index_score _ _ _ L x19.sc _ (Sat.rd hs1 (E := encScore) (id := 5) rfl rfl)) ?_)
        rintro e w2 ⟨rfl, hb2⟩
        refine After.below rfl hb1 hs1 hB1 hb2 ?_
        clear hb2 hB1 hs1 hb1 w2 w1
        refine ol_r (r_assign rfl) rfl ?_
        refine ol_nil (to_k0 (fun _ _ h => h) (hK22 _ _ _ _ _ ?_))
        clear hK22
        refine wp_seq' fun K23 hK23 => ?_
        refine wp_reg ?_
        refine ol_r (r_move rfl) rfl ?_
        refine ol_r (r_eql rfl rfl) rfl ?_
        refine ol_r (r_move rfl) rfl ?_
        refine ol_split (d := 60) rfl (fun hs60 => ?_) (fun hs60 => ?_)
        ·have phs60 := hs60; try simp only [decide_eq_true_eq, decide_eq_false_iff_not, Bool.not_eq_true', Bool.not_eq_false', Bool.not_true, Bool.not_false] at phs60
         refine ol_g rfl rfl hs60 ?_
         refine ol_r (r_move rfl) rfl ?_
         refine ol_g rfl rfl hs60 ?_
         refine ol_r (r_geq rfl rfl) rfl ?_
         refine ol_r (r_pickT rfl hs60 rfl) rfl ?_
         refine ol_nil (to_k0 (fun _ _ h => h) (hK23 _ _ _ _ _ ?_))
         clear hK23
         first | refine wp_condD rfl (fun hc63 => ?_) (fun hc63 => ?_) | refine wp_condN rfl (fun hc63 => ?_) (fun hc63 => ?_) | refine wp_condNB rfl (fun hc63 => ?_) (fun hc63 => ?_) | refine wp_cond' rfl (fun hc63 => ?_) (fun hc63 => ?_)
         ·refine wp_reg ?_
          obtain ⟨i, hi1, hi2, hi3⟩ := takeR_zero phs60
          rw [hi3] at hD2 ⊢
          have hil := (List.getElem?_eq_some_iff.1 hi1).1
          have hmL := hd.m
          have hlL := hd.l
          rw [hi2]
          refine ol_r (r_move rfl) rfl ?_
          refine ol_r (r_move rfl) rfl ?_
          refine ol_r (r_move rfl) rfl ?_
          refine ol_r (r_add rfl rfl (by omega)) rfl ?_
          refine ol_call rfl rfl cb28 rfl (fun w1 hb1 hs1 hB1 => ?_)
          refine Calls.mono (delete_score _ _ _ _ _ _ _ ta m tc i L hB1 (by have := (List.getElem?_eq_some_iff.1 hi1).1; have := hd.m; omega) ((hs1.up 100).sub (by repeat' first | exact subH_nil | refine subH_same rfl ?_))) ?_
          rintro e w2 ⟨rfl, hbw, hs2, hB2, hkd2⟩
          refine After.sat rfl hb1 hbw (hs2.down 100 (H' := [(1003, _), (1001, _), (1002, _), (1006, _), (7, _), (5, _)]) (by repeat' first | exact subH_nil | refine subH_same rfl ?_)) hB2 hkd2 ?_
          clear hkd2 hB2 hs2 hbw hB1 hs1 hb1 w2 w1
          refine ol_r (r_assign rfl) rfl ?_
          refine ol_nil (to_k0 (fun _ _ h => h) (hK11 ((L.take i ++ L.drop (i + 1), D2, a2, c2, ta, tc, m - 1)) _ _ ?_ (sub_cons rfl sub_nil) (sub_cons rfl (sub_cons rfl (sub_cons rfl (sub_cons rfl (sub_cons rfl sub_nil))))) (subH_blk rfl (by repeat' first | exact sub_nil | refine sub_cons rfl ?_) (subH_same rfl (subH_blk rfl (by repeat' first | exact sub_nil | refine sub_cons rfl ?_) (subH_row rfl (by first | (dsimp only; first | rfl | (rw [Enc.enc_append]; rfl) | (rw [addR_same hc36]; done) | (rw [takeR_same phs60]; done); done) | (first | rfl | (rw [Enc.enc_append]; rfl) | (rw [addR_same hc36]; done) | (rw [takeR_same phs60]; done); done) | (dsimp only; done)) (subH_row rfl (by first | (dsimp only; first | rfl | (rw [Enc.enc_append]; rfl) | (rw [addR_same hc36]; done) | (rw [takeR_same phs60]; done); done) | (first | rfl | (rw [Enc.enc_append]; rfl) | (rw [addR_same hc36]; done) | (rw [takeR_same phs60]; done); done) | (dsimp only; done)) subH_nil))))) (subH_same rfl subH_nil)))
          try dsimp only
          first
          | exact hd.add hD2 hA2 hA3 (hnm _ (List.mem_of_getElem? hx19))
          | exact hd.same (addR_same hc36) hD2
          | exact hd.del hi1 hD2
          | exact hd.same (takeR_same phs60) hD2
          | exact hd
         ·exfalso
          obtain ⟨i, _, hi2, _⟩ := takeR_zero phs60
          omega
        ·have phs60 := hs60; try simp only [decide_eq_true_eq, decide_eq_false_iff_not, Bool.not_eq_true', Bool.not_eq_false', Bool.not_true, Bool.not_false] at phs60
         refine ol_s rfl rfl hs60 rfl ?_
         refine ol_s rfl rfl hs60 rfl ?_
         refine ol_r (r_pickF rfl hs60 rfl) rfl ?_
         refine ol_nil (to_k0 (fun _ _ h => h) (hK23 _ _ _ _ _ ?_))
         clear hK23
         refine wp_condF rfl ?_
         refine wp_skip' (to_k0 (fun _ _ h => h) (hK11 (((takeR L x19.sc).1, D2, a2, c2, ta, tc, m)) _ _ ?_ (sub_cons rfl sub_nil) (sub_cons rfl (sub_cons rfl (sub_cons rfl (sub_cons rfl (sub_cons rfl sub_nil))))) (subH_blk rfl (by repeat' first | exact sub_nil | refine sub_cons rfl ?_) (subH_same rfl (subH_blk rfl (by repeat' first | exact sub_nil | refine sub_cons rfl ?_) (subH_row rfl (by first | (dsimp only; first | rfl | (rw [Enc.enc_append]; rfl) | (rw [addR_same hc36]; done) | (rw [takeR_same phs60]; done); done) | (first | rfl | (rw [Enc.enc_append]; rfl) | (rw [addR_same hc36]; done) | (rw [takeR_same phs60]; done); done) | (dsimp only; done)) (subH_row rfl (by first | (dsimp only; first | rfl | (rw [Enc.enc_append]; rfl) | (rw [addR_same hc36]; done) | (rw [takeR_same phs60]; done); done) | (first | rfl | (rw [Enc.enc_append]; rfl) | (rw [addR_same hc36]; done) | (rw [takeR_same phs60]; done); done) | (dsimp only; done)) subH_nil))))) (subH_same rfl subH_nil)))
         try dsimp only
         first
         | exact hd.add hD2 hA2 hA3 (hnm _ (List.mem_of_getElem? hx19))
         | exact hd.same (addR_same hc36) hD2
         | exact hd.del hi1 hD2
         | exact hd.same (takeR_same phs60) hD2
         | exact hd
      ·refine wp_skip' (to_k0 (fun _ _ h => h) (hK11 ((L, D, ra, rc, ta, tc, m)) _ _ ?_ (sub_cons rfl sub_nil) (sub_cons rfl (sub_cons rfl (sub_cons rfl (sub_cons rfl (sub_cons rfl sub_nil))))) (subH_blk rfl (by repeat' first | exact sub_nil | refine sub_cons rfl ?_) (subH_same rfl (subH_blk rfl (by repeat' first | exact sub_nil | refine sub_cons rfl ?_) (subH_row rfl (by first | (dsimp only; first | rfl | (rw [Enc.enc_append]; rfl) | (rw [addR_same hc36]; done) | (rw [takeR_same phs60]; done); done) | (first | rfl | (rw [Enc.enc_append]; rfl) | (rw [addR_same hc36]; done) | (rw [takeR_same phs60]; done); done) | (dsimp only; done)) (subH_row rfl (by first | (dsimp only; first | rfl | (rw [Enc.enc_append]; rfl) | (rw [addR_same hc36]; done) | (rw [takeR_same phs60]; done); done) | (first | rfl | (rw [Enc.enc_append]; rfl) | (rw [addR_same hc36]; done) | (rw [takeR_same phs60]; done); done) | (dsimp only; done)) subH_nil))))) (subH_same rfl subH_nil)))
       try dsimp only
       first
       | exact hd.add hD2 hA2 hA3 (hnm _ (List.mem_of_getElem? hx19))
       | exact hd.same (addR_same hc36) hD2
       | exact hd.del hi1 hD2
       | exact hd.same (takeR_same phs60) hD2
       | exact hd
    ·rintro ⟨L, D, ra, rc, ta, tc, m⟩ hd
     dsimp only at hd ⊢
     refine wp_seq' fun K24 hK24 => ?_
     refine wp_reg ?_
     refine ol_r (r_move rfl) rfl ?_
     refine ol_call rfl rfl cb29 rfl (fun w1 hb1 hs1 hB1 => Calls.mono (match_BPlaces _ bb bm _ L D hd.d hd.l (hs1.blk (id := 1003) rfl) (hs1.ob (id := 1001) rfl)) ?_)
     rintro e w2 ⟨a70, n70, c70, rfl, hf70⟩
     refine After.fresh (id := 70) rfl hb1 hs1 hB1 hf70 ?_
     have hl70 := hf70.len; clear hf70 hB1 hs1 hb1 w2 w1
     refine ol_r (r_move rfl) rfl ?_
     refine ol_call rfl rfl cb30 rfl (fun w1 hb1 hs1 hB1 => Calls.mono (ref5_BPlaces _ xb ra rc L hd.l (hs1.blk (id := 1002) rfl) (Sat.rd hs1 (E := encScore) (id := 1006) rfl rfl)) ?_)
     rintro e w2 ⟨a72, n72, c72, rfl, hf72⟩
     refine After.fresh (id := 72) rfl hb1 hs1 hB1 hf72 ?_
     have hl72 := hf72.len; clear hf72 hB1 hs1 hb1 w2 w1
     obtain rfl : n70 = n72 := by rw [← hl70, ← hl72]
     refine ol_call rfl rfl cb12 rfl (fun w1 hb1 hs1 hB1 => Calls.mono (equal_place_same _ _ _ _ _ (placesS L) _ (Sat.rd hs1 (id := 70) rfl rfl) (Sat.rd hs1 (id := 72) rfl rfl)) ?_)
     rintro e w2 ⟨rfl, hb2⟩
     refine After.below rfl hb1 hs1 hB1 hb2 ?_
     clear hb2 hB1 hs1 hb1 w2 w1
     refine ol_r (r_not rfl) rfl ?_
     refine ol_r (r_move rfl) rfl ?_
     refine ol_split (d := 75) rfl (fun hs75 => ?_) (fun hs75 => ?_)
     ·have phs75 := hs75; try simp only [decide_eq_true_eq, decide_eq_false_iff_not, Bool.not_eq_true', Bool.not_eq_false', Bool.not_true, Bool.not_false] at phs75
      refine ol_s rfl rfl hs75 rfl ?_
      refine ol_s rfl rfl hs75 rfl ?_
      refine ol_s rfl rfl hs75 rfl ?_
      refine ol_s rfl rfl hs75 rfl ?_
      refine ol_s rfl rfl hs75 rfl ?_
      refine ol_r (r_pickT rfl hs75 rfl) rfl ?_
      refine ol_nil (to_k0 (fun _ _ h => h) (hK24 _ _ _ _ _ ?_))
      clear hK24
      refine wp_condT rfl ?_
      refine wp_seq' fun K25 hK25 => ?_
      refine wp_reg ?_
      refine ol_r (r_assign rfl) rfl ?_
      refine ol_nil (to_k0 (fun _ _ h => h) (hK25 _ _ _ _ _ ?_))
      clear hK25
      refine hQ.ret (rvs1 (rv_t rfl)) (fun _ _ h => h) fun w hb hs hB hkd => ?_
      first
        | exact ⟨rfl, hb⟩
        | (exfalso; simp at phs75; done)
        | (exfalso; exact hc81 rfl)
        | (exfalso; simp at hc81; done)
        | (exfalso; simp at hs92; done)
        | (exfalso; simp at hs98; done)
     ·have phs75 := hs75; try simp only [decide_eq_true_eq, decide_eq_false_iff_not, Bool.not_eq_true', Bool.not_eq_false', Bool.not_true, Bool.not_false] at phs75
      refine ol_g rfl rfl hs75 ?_
      refine ol_r (r_move rfl) rfl ?_
      refine ol_g rfl rfl hs75 ?_
      refine ol_call rfl rfl cb31 rfl (fun w1 hb1 hs1 hB1 => Calls.mono (match_BSize _ bb bm _ (hs1.blk (id := 1003) rfl)) ?_)
      rintro e w2 ⟨rfl, hb2⟩
      refine After.below rfl hb1 hs1 hB1 hb2 ?_
      clear hb2 hB1 hs1 hb1 w2 w1
      refine ol_g rfl rfl hs75 ?_
      refine ol_r (r_move rfl) rfl ?_
      refine ol_g rfl rfl hs75 ?_
      refine ol_call rfl rfl cb32 rfl (fun w1 hb1 hs1 hB1 => Calls.mono (ref5_BSize _ xb ra rc L (hs1.blk (id := 1002) rfl)) ?_)
      rintro e w2 ⟨rfl, hb2⟩
      refine After.below rfl hb1 hs1 hB1 hb2 ?_
      clear hb2 hB1 hs1 hb1 w2 w1
      refine ol_g rfl rfl hs75 ?_
      refine ol_r (r_neq rfl rfl) rfl ?_
      refine ol_r (r_pickF rfl hs75 rfl) rfl ?_
      refine ol_nil (to_k0 (fun _ _ h => h) (hK24 _ _ _ _ _ ?_))
      clear hK24
      first | refine wp_condD rfl (fun hc81 => ?_) (fun hc81 => ?_) | refine wp_condN rfl (fun hc81 => ?_) (fun hc81 => ?_) | refine wp_condNB rfl (fun hc81 => ?_) (fun hc81 => ?_) | refine wp_cond' rfl (fun hc81 => ?_) (fun hc81 => ?_)
      ·refine wp_seq' fun K26 hK26 => ?_
       refine wp_reg ?_
       refine ol_r (r_assign rfl) rfl ?_
       refine ol_nil (to_k0 (fun _ _ h => h) (hK26 _ _ _ _ _ ?_))
       clear hK26
       refine hQ.ret (rvs1 (rv_t rfl)) (fun _ _ h => h) fun w hb hs hB hkd => ?_
       first
         | exact ⟨rfl, hb⟩
         | (exfalso; simp at phs75; done)
         | (exfalso; exact hc81 rfl)
         | (exfalso; simp at hc81; done)
         | (exfalso; simp at hs92; done)
         | (exfalso; simp at hs98; done)
      ·refine wp_skip' (to_k0 (fun _ _ h => h) (hK9 _ _ _ _ _ ?_))
       clear hK9
       refine wp_reg ?_
       refine ol_r (r_add rfl rfl (by omega)) rfl ?_
       refine ol_r (r_move rfl) rfl ?_
       refine ol_nil (to_k0 (fun _ _ h => h) (hK6 ((k + 1, L, D, ra, rc, ta, tc, m)) _ _ ?_ ?_ (sub_cons rfl (sub_cons rfl sub_nil)) (sub_cons rfl (sub_cons rfl (sub_cons rfl (sub_cons rfl sub_nil)))) (by exact (subH_blk rfl (sub_cons rfl (sub_cons rfl sub_nil)) (subH_same rfl (subH_blk rfl (sub_cons rfl sub_nil) (subH_row rfl (by first | (dsimp only; rfl; done) | (rfl; done) | (dsimp only; done)) (subH_row rfl (by first | (dsimp only; rfl; done) | (rfl; done) | (dsimp only; done)) subH_nil)))))) subH_nil))
       ·try dsimp only
        exact ⟨by omega, hd⟩
       ·try dsimp only
        omega
   ·refine wp_exit' (to_k0 (fun _ _ h => h) (hK4 _ _ _ _ _ ?_))
    clear hK4
    refine wp_seq' fun K27 hK27 => ?_
    refine wp_reg ?_
    refine ol_r (r_move rfl) rfl ?_
    refine ol_call rfl rfl cb33 rfl (fun w1 hb1 hs1 hB1 => ?_)
    refine Calls.mono (reverse_score _ _ _ _ _ _ _ ta m tc L (by have := hd.m; have := hd.l; omega) hB1 (((hs1.nilRow 7 24 3).up 100).sub (by repeat' first | exact subH_nil | refine subH_same rfl ?_))) ?_
    rintro e w2 ⟨rfl, hbw, hs2, hB2, hkd2⟩
    refine After.sat rfl hb1 hbw (hs2.down 100 (H' := [(1003, _), (1001, _), (1002, _), (1006, _), (5, _)]) (by repeat' first | exact subH_nil | refine subH_same rfl ?_)) hB2 hkd2 ?_
    clear hkd2 hB2 hs2 hbw hB1 hs1 hb1 w2 w1
    refine ol_nil (to_k0 (fun _ _ h => h) (hK27 _ _ _ _ _ ?_))
    clear hK27
    refine wp_seq' fun K28 hK28 => ?_
    refine wp_reg ?_
    refine ol_r (r_move rfl) rfl ?_
    refine ol_call rfl rfl cb8 rfl (fun w1 hb1 hs1 hB1 => Calls.mono (match_Places _ _ _ L.reverse _ (Sat.rd hs1 (E := encScore) (id := 5) rfl rfl) (fun x hx => hd.n x (List.mem_reverse.1 hx))) ?_)
    rintro e w2 ⟨a87, n87, c87, rfl, hf87⟩
    refine After.fresh (id := 87) rfl hb1 hs1 hB1 hf87 ?_
    have hl87 := hf87.len; clear hf87 hB1 hs1 hb1 w2 w1
    refine ol_r (r_move rfl) rfl ?_
    refine ol_r (r_extract rfl rfl) rfl ?_
    refine ol_r (r_extract rfl rfl) rfl ?_
    refine ol_r (r_assign rfl) rfl ?_
    refine ol_r (r_assign rfl) rfl ?_
    refine ol_nil (to_k0 (fun _ _ h => h) (hK28 _ _ _ _ _ ?_))
    clear hK28
    refine wp_seq' fun K29 hK29 => ?_
    refine wp_reg ?_
    have hrv := placesR_rev hd.l hd.c
    rw [hrv] at hl87 ⊢
    dsimp only at hl87 ⊢
    refine ol_r (r_move rfl) rfl ?_
    refine ol_r (r_eql rfl rfl) rfl ?_
    refine ol_r (r_move rfl) rfl ?_
    refine ol_split (d := 92) rfl (fun hs92 => ?_) (fun hs92 => ?_)
    ·have phs92 := hs92; try simp only [decide_eq_true_eq, decide_eq_false_iff_not, Bool.not_eq_true', Bool.not_eq_false', Bool.not_true, Bool.not_false] at phs92
     refine ol_g rfl rfl hs92 ?_
     refine ol_r (r_move rfl) rfl ?_
     refine ol_g rfl rfl hs92 ?_
     refine ol_r (r_move rfl) rfl ?_
     refine ol_g rfl rfl hs92 ?_
     refine ol_call rfl rfl cb29 rfl (fun w1 hb1 hs1 hB1 => Calls.mono (match_BPlaces _ bb bm _ L D hd.d hd.l (hs1.blk (id := 1003) rfl) (hs1.ob (id := 1001) rfl)) ?_)
     rintro e w2 ⟨a95, n95, c95, rfl, hf95⟩
     refine After.fresh (id := 95) rfl hb1 hs1 hB1 hf95 ?_
     have hl95 := hf95.len; clear hf95 hB1 hs1 hb1 w2 w1
     refine ol_g rfl rfl hs92 ?_
     obtain rfl : n87 = n95 := by rw [← hl87, ← hl95]
     refine ol_call rfl rfl cb12 rfl (fun w1 hb1 hs1 hB1 => Calls.mono (equal_place_same _ _ _ _ _ (placesS L) _ (Sat.rd hs1 (id := 87) rfl rfl) (Sat.rd hs1 (id := 95) rfl rfl)) ?_)
     rintro e w2 ⟨rfl, hb2⟩
     refine After.below rfl hb1 hs1 hB1 hb2 ?_
     clear hb2 hB1 hs1 hb1 w2 w1
     refine ol_r (r_pickT rfl hs92 rfl) rfl ?_
     refine ol_r (r_move rfl) rfl ?_
     refine ol_split (d := 98) rfl (fun hs98 => ?_) (fun hs98 => ?_)
     ·have phs98 := hs98; try simp only [decide_eq_true_eq, decide_eq_false_iff_not, Bool.not_eq_true', Bool.not_eq_false', Bool.not_true, Bool.not_false] at phs98
      refine ol_g rfl rfl hs98 ?_
      refine ol_call rfl rfl cb13 rfl (fun w1 hb1 hs1 hB1 => Calls.mono (law5_told _) ?_)
      rintro e w2 ⟨rfl, hb2⟩
      refine After.below rfl hb1 hs1 hB1 hb2 ?_
      clear hb2 hB1 hs1 hb1 w2 w1
      refine ol_r (r_pickT rfl hs98 rfl) rfl ?_
      refine ol_r (r_assign rfl) rfl ?_
      refine ol_nil (to_k0 (fun _ _ h => h) (hK29 _ _ _ _ _ ?_))
      clear hK29
      refine hQ.ret (rvs1 (rv_t rfl)) (fun _ _ h => h) fun w hb hs hB hkd => ?_
      first
        | exact ⟨rfl, hb⟩
        | (exfalso; simp at phs75; done)
        | (exfalso; exact hc81 rfl)
        | (exfalso; simp at hc81; done)
        | (exfalso; simp at hs92; done)
        | (exfalso; simp at hs98; done)
     ·have phs98 := hs98; try simp only [decide_eq_true_eq, decide_eq_false_iff_not, Bool.not_eq_true', Bool.not_eq_false', Bool.not_true, Bool.not_false] at phs98
      refine ol_s rfl rfl hs98 rfl ?_
      refine ol_r (r_pickF rfl hs98 rfl) rfl ?_
      refine ol_r (r_assign rfl) rfl ?_
      refine ol_nil (to_k0 (fun _ _ h => h) (hK29 _ _ _ _ _ ?_))
      clear hK29
      refine hQ.ret (rvs1 (rv_t rfl)) (fun _ _ h => h) fun w hb hs hB hkd => ?_
      first
        | exact ⟨rfl, hb⟩
        | (exfalso; simp at phs75; done)
        | (exfalso; exact hc81 rfl)
        | (exfalso; simp at hc81; done)
        | (exfalso; simp at hs92; done)
        | (exfalso; simp at hs98; done)
    ·have phs92 := hs92; try simp only [decide_eq_true_eq, decide_eq_false_iff_not, Bool.not_eq_true', Bool.not_eq_false', Bool.not_true, Bool.not_false] at phs92
     refine ol_s rfl rfl hs92 rfl ?_
     refine ol_s rfl rfl hs92 rfl ?_
     refine ol_s rfl rfl hs92 rfl ?_
     refine ol_s rfl rfl hs92 rfl ?_
     refine ol_r (r_pickF rfl hs92 rfl) rfl ?_
     refine ol_r (r_move rfl) rfl ?_
     refine ol_s rfl rfl rfl rfl ?_
     refine ol_r (r_pickF rfl rfl rfl) rfl ?_
     refine ol_r (r_assign rfl) rfl ?_
     refine ol_nil (to_k0 (fun _ _ h => h) (hK29 _ _ _ _ _ ?_))
     clear hK29
     refine hQ.ret (rvs1 (rv_t rfl)) (fun _ _ h => h) fun w hb hs hB hkd => ?_
     first
       | exact ⟨rfl, hb⟩
       | (exfalso; simp at phs75; done)
       | (exfalso; exact hc81 rfl)
       | (exfalso; simp at hc81; done)
       | (exfalso; simp at hs92; done)
       | (exfalso; simp at hs98; done)
end Go.Proofs.Ytjflbnbofedlkaa
