/-
  Level: the reference and what both sides use.
-/
import Derived.Test.YtogcclagmobkiaaMendM
import Derived.Test.YtogcclagmobkiaaCut
import Derived.Test.YtogcclagmobkiaaHg
import Derived.Test.YtogcclagmobkiaaHs
namespace Go.Proofs.Ytogcclagmobkiaa
open Go Go.RowKit Hx
set_option linter.unusedVariables false
set_option linter.unusedSimpArgs false
set_option maxRecDepth 8000
def setI (l : List Int) (k : Nat) (x : Int) : List Int := l.set k x
theorem zs_row {l : List SmpR} {j : Nat} {x : SmpR} (h : l[j]? = some x) : encI.enc ((l.take (j + 1)).map (·.z)) = encI.enc ((l.take j).map (·.z)) ++ encI.cells x.z := by
  rw [take_succ_get h, List.map_append, Enc.enc_append]; simp [Enc.enc]
theorem win_row {ss : List SmpR} {lo m : Nat} {x : SmpR} (h : ss[lo + m]? = some x) : encI.enc (winZ ss lo (m + 1)) = encI.enc (winZ ss lo m) ++ encI.cells x.z := by
  rw [winZ_succ h, Enc.enc_append]; simp [Enc.enc]
theorem ref3_middle (B : Nat) (a : Option Addr) (n c : Nat) (xs : List Int) (e1 e2 e3 e4 e5 e6 : Ent) (w : World) (hlen : xs.length = n) (hn : 0 < n) (hn2 : n ≤ 1000) (hB : B ≤ w.heap.size) (hs : Sat B w [(900, .row a n c (encI.enc xs) 3 1), (901, e1), (902, e2), (903, e3), (904, e4), (905, e5), (906, e6)]) :
    Calls Try.prog 80 #[.slice a n c] w fun e w' => e = .returned (.int .i64 (medZ xs)) ∧ Below B w w' ∧ Sat B w' [(901, e1), (902, e2), (903, e3), (904, e4), (905, e5), (906, e6)] ∧ B ≤ w'.heap.size ∧ Kd (fun _ => False) w w' := by
  refine enterQ (N := 51) (C := fun _ => False) (H := [(900, .row a n c (encI.enc xs) 3 1), (901, e1), (902, e2), (903, e3), (904, e4), (905, e5), (906, e6)]) (B := B) (args := [_]) Try.func80 rfl rfl rfl (hB) (hs) fun Q hQ => ?_
  refine wp_seq' fun K1 hK1 => ?_
  refine wp_reg ?_
  refine ol_r (r_assign rfl) rfl ?_
  refine ol_nil (to_k0 (fun _ _ h => h) (hK1 _ _ _ _ _ ?_))
  clear hK1
  refine wp_seq' fun K2 hK2 => ?_
  refine wp_seq' fun K3 hK3 => ?_
  refine wp_reg ?_
  refine ol_r (r_move rfl) rfl ?_
  refine ol_r (r_len rfl sl37) rfl ?_
  refine ol_r (r_move rfl) rfl ?_
  refine ol_nil (to_k0 (fun _ _ h => h) (hK3 _ _ _ _ _ ?_))
  clear hK3
  refine wp_block' ?_
  apply wp_loopM (σ := Nat × List Int) (fun s => s.1 ≤ n ∧ s.2.Perm xs ∧ SorL s.2 s.1) (fun s => [(7, .int .i64 s.1)]) [(0, _), (2, _), (6, _)] (fun s => [(900, .row a n c (encI.enc s.2) 3 1)]) [(901, _), (902, _), (903, _), (904, _), (905, _), (906, _)] (fun s => n - s.1) ((0, xs))
  ·try dsimp only
   exact ⟨Nat.zero_le _, List.Perm.refl _, fun p q x y h1 h2 => by omega⟩
  ·exact (sub_cons rfl sub_nil)
  ·exact (sub_cons rfl (sub_cons rfl (sub_cons rfl sub_nil)))
  ·exact (subH_row rfl (by first | (dsimp only; rfl; done) | (rfl; done) | (dsimp only; done)) subH_nil)
  ·exact (subH_same rfl (subH_same rfl (subH_same rfl (subH_same rfl (subH_same rfl (subH_same rfl subH_nil))))))
  ·rintro ⟨i, ys⟩ ⟨hi, hp, hso⟩
   dsimp only at hi hp hso ⊢
   have hyl : ys.length = n := by rw [hp.length_eq]; exact hlen
   intro K4 hK4
   refine wp_seq' fun K5 hK5 => ?_
   refine wp_reg ?_
   refine ol_r (r_lss rfl rfl) rfl ?_
   refine ol_nil (to_k0 (fun _ _ h => h) (hK5 _ _ _ _ _ ?_))
   clear hK5
   refine wp_seq' fun K6 hK6 => ?_
   first | refine wp_condD rfl (fun hc8 => ?_) (fun hc8 => ?_) | refine wp_condN rfl (fun hc8 => ?_) (fun hc8 => ?_) | refine wp_condNB rfl (fun hc8 => ?_) (fun hc8 => ?_) | refine wp_cond' rfl (fun hc8 => ?_) (fun hc8 => ?_)
   ·refine wp_skip' (to_k0 (fun _ _ h => h) (hK6 _ _ _ _ _ ?_))
    clear hK6
    refine wp_seq' fun K7 hK7 => ?_
    refine wp_block' ?_
    refine wp_seq' fun K8 hK8 => ?_
    refine wp_reg ?_
    refine ol_r (r_move rfl) rfl ?_
    refine ol_r (r_assign rfl) rfl ?_
    refine ol_nil (to_k0 (fun _ _ h => h) (hK8 _ _ _ _ _ ?_))
    clear hK8
    refine wp_seq' fun K9 hK9 => ?_
    refine wp_reg ?_
    refine ol_r (r_move rfl) rfl ?_
    refine ol_r (r_assign rfl) rfl ?_
    refine ol_nil (to_k0 (fun _ _ h => h) (hK9 _ _ _ _ _ ?_))
    clear hK9
    refine wp_block' ?_
    apply wp_loopM (σ := Nat × List Int) (fun s => s.1 ≤ i ∧ InsL xs s.2 i s.1) (fun s => [(4, .int .i64 s.1)]) [(0, _), (2, _), (6, _), (7, _)] (fun s => [(900, .row a n c (encI.enc s.2) 3 1)]) [(901, _), (902, _), (903, _), (904, _), (905, _), (906, _)] (fun s => s.1) ((i, ys))
    ·try dsimp only
     exact ⟨Nat.le_refl _, InsL.start hp hso⟩
    ·exact (sub_cons rfl sub_nil)
    ·exact (sub_cons rfl (sub_cons rfl (sub_cons rfl (sub_cons rfl sub_nil))))
    ·exact (subH_row rfl (by first | (dsimp only; rfl; done) | (rfl; done) | (dsimp only; done)) subH_nil)
    ·exact (subH_same rfl (subH_same rfl (subH_same rfl (subH_same rfl (subH_same rfl (subH_same rfl subH_nil))))))
    ·rintro ⟨k, zs⟩ ⟨hk, hI⟩
     dsimp only at hk hI ⊢
     have hzl : zs.length = n := by rw [hI.perm.length_eq]; exact hlen
     intro K10 hK10
     refine wp_seq' fun K11 hK11 => ?_
     refine wp_seq' fun K12 hK12 => ?_
     refine wp_regq (by kernel_rfl) (by kernel_rfl) ?_
     refine ql_r (r_move rfl) rfl ?_
     refine ql_r (r_gtr rfl rfl) rfl ?_
     refine ql_r (r_move rfl) rfl ?_
     refine ql_split (d := 13) rfl (fun hs13 => ?_) (fun hs13 => ?_)
     ·have phs13 := hs13; try simp only [decide_eq_true_eq, decide_eq_false_iff_not, Bool.not_eq_true', Bool.not_eq_false', Bool.not_true, Bool.not_false] at phs13
      refine ql_g rfl rfl hs13 ?_
      refine ql_r (r_move rfl) rfl ?_
      refine ql_g rfl rfl hs13 ?_
      refine ql_r (r_move rfl) rfl ?_
      refine ql_g rfl rfl hs13 ?_
      refine ql_ixo (id := 900) encI _ rfl rfl rfl rfl sl37 (by omega) (by omega) rfl fun x16 hx16 => ?_
      try simp only [Int.toNat_natCast] at hx16
      try simp only [Int.toNat_natCast] at hx16
      refine ql_g rfl rfl hs13 ?_
      refine ql_r (r_ldw rfl (fun w1 hb1 hs1 hB1 => show Loads _ _ _ _ (.int .i64 x16) from ld_own (id := 900) hs1 rfl rfl ty3 hx16)) rfl ?_
      refine ql_g rfl rfl hs13 ?_
      refine ql_r (r_move rfl) rfl ?_
      refine ql_g rfl rfl hs13 ?_
      refine ql_r (r_move rfl) rfl ?_
      refine ql_g rfl rfl hs13 ?_
      refine ql_r (r_sub rfl rfl (by omega)) rfl ?_
      refine ql_g rfl rfl hs13 ?_
      refine ql_ixo (id := 900) encI _ rfl rfl rfl rfl sl37 (by omega) (by omega) rfl fun x21 hx21 => ?_
      try simp only [Int.toNat_natCast] at hx21
      try simp only [Int.toNat_natCast] at hx21
      refine ql_g rfl rfl hs13 ?_
      refine ql_r (r_ldw rfl (fun w1 hb1 hs1 hB1 => show Loads _ _ _ _ (.int .i64 x21) from ld_own (id := 900) hs1 rfl rfl ty3 hx21)) rfl ?_
      refine ql_g rfl rfl hs13 ?_
      refine ql_r (r_lss rfl rfl) rfl ?_
      refine ql_r (r_pickT rfl hs13 rfl) rfl ?_
      refine ql_nil (to_k0 (fun _ _ h => h) (hK12 _ _ _ _ _ ?_))
      clear hK12
      first | refine wp_condD rfl (fun hc24 => ?_) (fun hc24 => ?_) | refine wp_condN rfl (fun hc24 => ?_) (fun hc24 => ?_) | refine wp_condNB rfl (fun hc24 => ?_) (fun hc24 => ?_) | refine wp_cond' rfl (fun hc24 => ?_) (fun hc24 => ?_)
      ·refine wp_skip' (to_k0 (fun _ _ h => h) (hK11 _ _ _ _ _ ?_))
       clear hK11
       refine wp_seq' fun K13 hK13 => ?_
       refine wp_block' ?_
       refine wp_rega [(999, [(901, _), (902, _), (903, _), (904, _), (905, _), (906, _)]), (15, [(900, _)])] (by kernel_rfl) ⟨.inr (subH_same rfl (subH_same rfl (subH_same rfl (subH_same rfl (subH_same rfl (subH_same rfl subH_nil)))))), ⟨.inr (subH_same rfl subH_nil), trivial⟩⟩ ?_
       refine aq_r 0 999 rfl (by kernel_rfl) (by kernel_rfl) (by kernel_rfl) (.head _) (by kernel_rfl) (by kernel_rfl) rfl (r_move rfl) ?_
       refine aq_r 1 999 rfl (by kernel_rfl) (by kernel_rfl) (by kernel_rfl) (.head _) (by kernel_rfl) (by kernel_rfl) rfl (r_move rfl) ?_
       refine aq_r 2 999 rfl (by kernel_rfl) (by kernel_rfl) (by kernel_rfl) (.head _) (by kernel_rfl) (by kernel_rfl) rfl (r_move rfl) ?_
       refine aq_r 3 999 rfl (by kernel_rfl) (by kernel_rfl) (by kernel_rfl) (.head _) (by kernel_rfl) (by kernel_rfl) rfl (r_move rfl) ?_
       refine aq_r 4 999 rfl (by kernel_rfl) (by kernel_rfl) (by kernel_rfl) (.head _) (by kernel_rfl) (by kernel_rfl) rfl (r_sub rfl rfl (by omega)) ?_
       refine aq_r 5 999 rfl (by kernel_rfl) (by kernel_rfl) (by kernel_rfl) (.head _) (by kernel_rfl) (by kernel_rfl) rfl (r_move rfl) ?_
       refine aq_r 6 999 rfl (by kernel_rfl) (by kernel_rfl) (by kernel_rfl) (.head _) (by kernel_rfl) (by kernel_rfl) rfl (r_move rfl) ?_
       refine aq_r 7 999 rfl (by kernel_rfl) (by kernel_rfl) (by kernel_rfl) (.head _) (by kernel_rfl) (by kernel_rfl) rfl (r_sub rfl rfl (by omega)) ?_
       refine aq_ixo 8 15 rfl (by kernel_rfl) (by kernel_rfl) (by kernel_rfl) (.tail _ (.head _)) (by kernel_rfl) (by kernel_rfl) rfl (id := 900) encI _ rfl rfl rfl rfl sl37 (by omega) (by omega) fun x35 hx35 => ?_
       try simp only [Int.toNat_natCast] at hx35
       try simp only [Int.toNat_natCast] at hx35
       refine aq_r 9 15 rfl (by kernel_rfl) (by kernel_rfl) (by kernel_rfl) (.tail _ (.head _)) (by kernel_rfl) (by kernel_rfl) rfl (r_ldw rfl (fun w1 hb1 hs1 hB1 => show Loads _ _ _ _ (.int .i64 x35) from ld_own (id := 900) hs1 rfl rfl ty3 hx35)) ?_
       refine aq_r 10 999 rfl (by kernel_rfl) (by kernel_rfl) (by kernel_rfl) (.head _) (by kernel_rfl) (by kernel_rfl) rfl (r_move rfl) ?_
       refine aq_r 11 999 rfl (by kernel_rfl) (by kernel_rfl) (by kernel_rfl) (.head _) (by kernel_rfl) (by kernel_rfl) rfl (r_move rfl) ?_
       refine aq_one (i := 12) (by kernel_rfl) rfl fun K14 hK14 => ?_
       refine ol_ixo (id := 900) encI _ rfl rfl rfl rfl sl37 (by omega) rfl fun x39 hx39 => ?_
       try simp only [Int.toNat_natCast] at hx39
       try simp only [Int.toNat_natCast] at hx39
       refine ol_nil (to_k0 (fun _ _ h => h) (hK14 _ _ ⟨.inr (by repeat' first | exact subH_nil | refine subH_same rfl ?_ | (refine subH_blk rfl (by repeat' first | exact sub_nil | refine sub_cons rfl ?_) ?_)), ⟨.inr (by repeat' first | exact subH_nil | refine subH_same rfl ?_ | (refine subH_blk rfl (by repeat' first | exact sub_nil | refine sub_cons rfl ?_) ?_)), trivial⟩⟩ ?_))
       clear hK14
       refine aq_r 13 15 rfl (by kernel_rfl) (by kernel_rfl) (by kernel_rfl) (.tail _ (.head _)) (by kernel_rfl) (by kernel_rfl) rfl (r_ldw rfl (fun w1 hb1 hs1 hB1 => show Loads _ _ _ _ (.int .i64 x39) from ld_own (id := 900) hs1 rfl rfl ty3 hx39)) ?_
       refine aq_ixo 14 15 rfl (by kernel_rfl) (by kernel_rfl) (by kernel_rfl) (.tail _ (.head _)) (by kernel_rfl) (by kernel_rfl) rfl (id := 900) encI _ rfl rfl rfl rfl sl37 (by omega) (by omega) fun x41 hx41 => ?_
       try simp only [Int.toNat_natCast] at hx41
       try simp only [Int.toNat_natCast] at hx41
       refine aq_one (i := 15) (by kernel_rfl) rfl fun K15 hK15 => ?_
       refine ol_storeRow (id := 900) _ _ _ rfl rfl rfl rfl sz3 (by omega) ?_
       refine ol_nil (to_k0 (fun _ _ h => h) (hK15 _ _ ⟨.inr (by repeat' first | exact subH_nil | refine subH_same rfl ?_ | (refine subH_blk rfl (by repeat' first | exact sub_nil | refine sub_cons rfl ?_) ?_)), ⟨.inl (by kernel_rfl), trivial⟩⟩ ?_))
       clear hK15
       refine aq_one (i := 16) (by kernel_rfl) rfl fun K16 hK16 => ?_
       refine ol_ixo (id := 900) encI _ rfl rfl rfl rfl sl37 (by omega) rfl fun x42 hx42 => ?_
       try simp only [Int.toNat_natCast] at hx42
       try simp only [Int.toNat_natCast] at hx42
       refine ol_nil (to_k0 (fun _ _ h => h) (hK16 _ _ ⟨.inr (by repeat' first | exact subH_nil | refine subH_same rfl ?_ | (refine subH_blk rfl (by repeat' first | exact sub_nil | refine sub_cons rfl ?_) ?_)), ⟨.inl (by kernel_rfl), trivial⟩⟩ ?_))
       clear hK16
       refine aq_one (i := 17) (by kernel_rfl) rfl fun K17 hK17 => ?_
       refine ol_storeRow (id := 900) _ _ _ rfl rfl rfl rfl sz3 (by omega) ?_
       refine ol_nil (to_k0 (fun _ _ h => h) (hK17 _ _ ⟨.inr (by repeat' first | exact subH_nil | refine subH_same rfl ?_ | (refine subH_blk rfl (by repeat' first | exact sub_nil | refine sub_cons rfl ?_) ?_)), ⟨.inl (by kernel_rfl), trivial⟩⟩ ?_))
       clear hK17
       refine aq_done (by kernel_rfl) ?_
       refine (to_k0 (fun _ _ h => h) (hK13 _ _ _ _ _ ?_))
       clear hK13
       refine wp_reg ?_
       refine ol_r (r_move rfl) rfl ?_
       refine ol_r (r_sub rfl rfl (by omega)) rfl ?_
       refine ol_r (r_assign rfl) rfl ?_
       refine ol_nil (to_k0 (fun _ _ h => h) (hK10 ((k - 1, (zs.set ((k : Nat) : Int).toNat x35).set ((k : Int) - 1).toNat x39)) _ _ ?_ ?_ (sub_cons (by first | rfl | ((rw [show ((k - 1 : Nat) : Int) = (k : Int) - 1 by omega]; rfl))) sub_nil) (sub_cons rfl (sub_cons rfl (sub_cons rfl (sub_cons rfl sub_nil)))) (by exact (subH_row rfl (by first | (dsimp only; rfl; done) | (rfl; done) | (dsimp only; done)) subH_nil)) (subH_same rfl (subH_same rfl (subH_same rfl (subH_same rfl (subH_same rfl (subH_same rfl subH_nil))))))))
       ·try dsimp only
        rw [Int.toNat_natCast]
        rw [show ((k : Int) - 1).toNat = k - 1 by omega] at hx35 ⊢
        rw [show ((k : Int) - 1).toNat = k - 1 by omega] at hx21
        rw [Option.some.inj (hx16.symm.trans hx39), Option.some.inj (hx21.symm.trans hx35)] at hc24
        exact ⟨by omega, hI.step (by omega) hk hx39 hx35 hc24⟩
       ·try dsimp only
        omega
      ·refine wp_exit' (to_k0 (fun _ _ h => h) (hK7 _ _ _ _ _ ?_))
       clear hK7
       refine wp_reg ?_
       refine ol_r (r_add rfl rfl (by omega)) rfl ?_
       refine ol_r (r_move rfl) rfl ?_
       refine ol_nil (to_k0 (fun _ _ h => h) (hK4 ((i + 1, zs)) _ _ ?_ ?_ (sub_cons rfl sub_nil) (sub_cons rfl (sub_cons rfl (sub_cons rfl sub_nil))) (by exact (subH_row rfl (by first | (dsimp only; rfl; done) | (rfl; done) | (dsimp only; done)) subH_nil)) (subH_same rfl (subH_same rfl (subH_same rfl (subH_same rfl (subH_same rfl (subH_same rfl subH_nil))))))))
       ·try dsimp only
        exact ⟨by omega, hI.perm, hI.stop hk (by first | exact .inl (by omega) | exact .inr ⟨x16, x21, hx16, by rw [← hx21]; congr 1; omega, by omega⟩)⟩
       ·try dsimp only
        omega
     ·have phs13 := hs13; try simp only [decide_eq_true_eq, decide_eq_false_iff_not, Bool.not_eq_true', Bool.not_eq_false', Bool.not_true, Bool.not_false] at phs13
      refine ql_s rfl rfl hs13 rfl ?_
      refine ql_s rfl rfl hs13 rfl ?_
      refine ql_s rfl rfl hs13 rfl ?_
      refine ql_s rfl rfl hs13 rfl ?_
      refine ql_s rfl rfl hs13 rfl ?_
      refine ql_s rfl rfl hs13 rfl ?_
      refine ql_s rfl rfl hs13 rfl ?_
      refine ql_s rfl rfl hs13 rfl ?_
      refine ql_s rfl rfl hs13 rfl ?_
      refine ql_s rfl rfl hs13 rfl ?_
      refine ql_r (r_pickF rfl hs13 rfl) rfl ?_
      refine ql_nil (to_k0 (fun _ _ h => h) (hK12 _ _ _ _ _ ?_))
      clear hK12
      refine wp_condF rfl ?_
      refine wp_exit' (to_k0 (fun _ _ h => h) (hK7 _ _ _ _ _ ?_))
      clear hK7
      refine wp_reg ?_
      refine ol_r (r_add rfl rfl (by omega)) rfl ?_
      refine ol_r (r_move rfl) rfl ?_
      refine ol_nil (to_k0 (fun _ _ h => h) (hK4 ((i + 1, zs)) _ _ ?_ ?_ (sub_cons rfl sub_nil) (sub_cons rfl (sub_cons rfl (sub_cons rfl sub_nil))) (by exact (subH_row rfl (by first | (dsimp only; rfl; done) | (rfl; done) | (dsimp only; done)) subH_nil)) (subH_same rfl (subH_same rfl (subH_same rfl (subH_same rfl (subH_same rfl (subH_same rfl subH_nil))))))))
      ·try dsimp only
       exact ⟨by omega, hI.perm, hI.stop hk (by first | exact .inl (by omega) | exact .inr ⟨x16, x21, hx16, by rw [← hx21]; congr 1; omega, by omega⟩)⟩
      ·try dsimp only
       omega
   ·refine wp_exit' (to_k0 (fun _ _ h => h) (hK2 _ _ _ _ _ ?_))
    clear hK2
    refine wp_seq' fun K18 hK18 => ?_
    refine wp_reg ?_
    refine ol_r (r_move rfl) rfl ?_
    refine ol_r (r_move rfl) rfl ?_
    refine ol_r (r_len rfl sl37) rfl ?_
    refine ol_r (r_sub rfl rfl (by omega)) rfl ?_
    first | refine ol_r (r_quo rfl rfl (by omega)) rfl ?_ | refine ol_r (r_tquo rfl rfl (by omega)) rfl ?_
    refine ol_ixo (id := 900) encI _ rfl rfl rfl rfl sl37 (by omega) rfl fun x49 hx49 => ?_
    try simp only [Int.toNat_natCast] at hx49
    try simp only [Int.toNat_natCast] at hx49
    refine ol_r (r_ldw rfl (fun w1 hb1 hs1 hB1 => show Loads _ _ _ _ (.int .i64 x49) from ld_own (id := 900) hs1 rfl rfl ty3 hx49)) rfl ?_
    refine ol_r (r_assign rfl) rfl ?_
    refine ol_nil (to_k0 (fun _ _ h => h) (hK18 _ _ _ _ _ ?_))
    clear hK18
    refine hQ.ret (rvs1 (rv_t rfl)) (fun _ _ h => h) fun w hb hs hB hkd => ?_
    have hin : i = ys.length := by omega
    subst hin
    have hm := sor_med (m := x49) hp hso (by rw [← hx49]; congr 1; omega)
    exact ⟨by rw [hm], hb, hs.sub (subH_same rfl (subH_same rfl (subH_same rfl (subH_same rfl (subH_same rfl (subH_same rfl subH_nil)))))), hB, hkd⟩
theorem ref3_Level (A : ActV) (width : Int) (w : World) (hA : A.Ok w.heap.size w) :
    Calls Try.prog 35 #[.agg #[.string A.name, .int .i64 A.sport, .int .i64 A.start, .slice A.sa A.sn A.sc, .slice A.la A.ln A.lc, .slice A.ta A.tn A.tc], .int .i64 width] w fun e w' => OutA w.heap.size w' (levelR A.d width) e ∧ Below w.heap.size w w' := by
  have hsn := hA.s.len
  have hln := hA.l.len
  have htn := hA.t.len
  refine enterQ (N := 64) (C := fun _ => True) (H := []) (B := w.heap.size) (args := [_, _]) Try.func35 rfl rfl rfl (Nat.le_refl _) (Sat.nil _ _) fun Q hQ => ?_
  refine wp_seq' fun K1 hK1 => ?_
  refine wp_reg ?_
  refine ol_box 2 rfl rfl rfl fun b2 => ?_
  refine ol_alloc 4 z26 rfl fun b4 => ?_
  refine ol_r (r_assign rfl) rfl ?_
  refine ol_nil (to_k0 (fun _ _ h => h) (hK1 _ _ _ _ _ ?_))
  clear hK1
  refine wp_seq' fun K2 hK2 => ?_
  refine wp_seq' fun K3 hK3 => ?_
  refine wp_reg ?_
  refine ol_r (r_lda (id := 2) (n := 6) rfl rfl rfl ag26) rfl ?_
  refine ol_call rfl rfl cb44 rfl (fun w1 hb1 hs1 hB1 => Calls.mono (ref2_Check A _ (hA.at hb1 hB1)) ?_)
  rintro e w2 ⟨rfl, hb2⟩
  refine After.below rfl hb1 hs1 hB1 hb2 ?_
  clear hb2 hB1 hs1 hb1 w2 w1
  refine ol_r (r_assign rfl) rfl ?_
  refine ol_nil (to_k0 (fun _ _ h => h) (hK3 _ _ _ _ _ ?_))
  clear hK3
  refine wp_seq' fun K4 hK4 => ?_
  refine wp_reg ?_
  refine ol_r (r_move rfl) rfl ?_
  refine ol_r (r_neq rfl rfl) rfl ?_
  refine ol_nil (to_k0 (fun _ _ h => h) (hK4 _ _ _ _ _ ?_))
  clear hK4
  first | refine wp_condD rfl (fun hc14 => ?_) (fun hc14 => ?_) | refine wp_condN rfl (fun hc14 => ?_) (fun hc14 => ?_) | refine wp_condNB rfl (fun hc14 => ?_) (fun hc14 => ?_) | refine wp_cond' rfl (fun hc14 => ?_) (fun hc14 => ?_)
  ·refine wp_seq' fun K5 hK5 => ?_
   refine wp_reg ?_
   refine ol_r (r_build rfl (fun _ => bd26 _)) rfl ?_
   refine ol_r (r_move rfl) rfl ?_
   refine ol_store (id := 4) rfl rfl rfl rfl sz26 rfl rfl (by first | decide | exact Nat.zero_lt_succ _ | simp) ?_
   refine ol_r (r_assign rfl) rfl ?_
   refine ol_nil (to_k0 (fun _ _ h => h) (hK5 _ _ _ _ _ ?_))
   clear hK5
   refine hQ.ret (rvs2 (rv_c (id := 4) (n := 6) rfl rfl ag26 rfl) (rv_t rfl)) (fun _ _ h => h) fun w hb hs hB hkd => ?_
   exact ⟨outA_no (levelR_e hc14), hb⟩
  ·refine wp_skip' (to_k0 (fun _ _ h => h) (hK2 _ _ _ _ _ ?_))
   clear hK2
   refine wp_seq' fun K6 hK6 => ?_
   refine wp_seq' fun K7 hK7 => ?_
   refine wp_reg ?_
   refine ol_r (r_move rfl) rfl ?_
   refine ol_call rfl rfl cb45 rfl (fun w1 hb1 hs1 hB1 => Calls.mono (ref3_outside _ _ _ _) ?_)
   rintro e w2 ⟨rfl, hb2⟩
   refine After.below rfl hb1 hs1 hB1 hb2 ?_
   clear hb2 hB1 hs1 hb1 w2 w1
   refine ol_nil (to_k0 (fun _ _ h => h) (hK7 _ _ _ _ _ ?_))
   clear hK7
   first | refine wp_condD rfl (fun hc18 => ?_) (fun hc18 => ?_) | refine wp_condN rfl (fun hc18 => ?_) (fun hc18 => ?_) | refine wp_condNB rfl (fun hc18 => ?_) (fun hc18 => ?_) | refine wp_cond' rfl (fun hc18 => ?_) (fun hc18 => ?_)
   ·refine wp_seq' fun K8 hK8 => ?_
    refine wp_reg ?_
    refine ol_r (r_build rfl (fun _ => bd26 _)) rfl ?_
    refine ol_store (id := 4) rfl rfl rfl rfl sz26 rfl rfl (by first | decide | exact Nat.zero_lt_succ _ | simp) ?_
    refine ol_r (r_assign rfl) rfl ?_
    refine ol_nil (to_k0 (fun _ _ h => h) (hK8 _ _ _ _ _ ?_))
    clear hK8
    refine hQ.ret (rvs2 (rv_c (id := 4) (n := 6) rfl rfl ag26 rfl) (rv_t rfl)) (fun _ _ h => h) fun w hb hs hB hkd => ?_
    exact ⟨outA_no (levelR_9 hc14 (by have h := inB_not.1 (by simpa using hc18); omega)), hb⟩
   ·refine wp_skip' (to_k0 (fun _ _ h => h) (hK6 _ _ _ _ _ ?_))
    clear hK6
    refine wp_seq' fun K9 hK9 => ?_
    refine wp_reg ?_
    have h0 : chkA A.d = 0 := Decidable.not_not.1 hc14
    have hw : ¬(width < 0 ∨ 50 < width) := by have h := inB_iff.1 (by simpa using hc18); omega
    have hg := goodA h0
    have hl20 : A.ss.length ≤ 20000 := (show SmpOk A.start A.ss from hg.smp).len
    obtain ⟨g4, g5, g6⟩ := hg.head.2.2.2
    dsimp only [ActV.d] at g4 g5 g6
    refine ol_r (r_lda (id := 2) (n := 6) rfl rfl rfl ag26) rfl ?_
    refine ol_call rfl rfl cb49 rfl (fun w1 hb1 hs1 hB1 => ?_)
    refine Calls.mono (ref3_copied A _ (hA.at hb1 hB1) (by omega) (by omega) (by omega)) ?_
    rintro e w2 ⟨sa, sc, la, lc, ta, tc, rfl, hb2, hs2⟩
    refine After.more rfl hb1 hs1 hB1 hb2 hs2 ?_
    clear hs2 hb2 hB1 hs1 hb1 w2 w1
    refine ol_alloc 7 z26 rfl fun b7 => ?_
    refine ol_store (id := 7) rfl rfl rfl rfl sz26 rfl rfl (by first | decide | exact Nat.zero_lt_succ _ | simp) ?_
    refine ol_nil (to_k0 (fun _ _ h => h) (hK9 _ _ _ _ _ ?_))
    clear hK9
    refine wp_seq' fun K10 hK10 => ?_
    refine wp_seq' fun K11 hK11 => ?_
    refine wp_reg ?_
    refine ol_r (r_fa (o' := 3) rfl fl26_3 rfl) rfl ?_
    refine ol_r (r_ld (id := 7) rfl rfl rfl sc22) rfl ?_
    refine ol_r (r_len rfl sl22) rfl ?_
    refine ol_r (r_move rfl) rfl ?_
    refine ol_nil (to_k0 (fun _ _ h => h) (hK11 _ _ _ _ _ ?_))
    clear hK11
    refine wp_block' ?_
    apply wp_loopM (σ := Nat) (fun s => s ≤ A.sn) (fun s => [(25, .int .i64 s)]) [(1, _), (2, _), (4, _), (5, _), (7, _), (24, _)] (fun s => [(1001, .row sa A.sn sc (encSmp.enc (levelN A.ss width s)) 28 7)]) [(2, _), (4, _), (7, _), (1002, _), (1003, _)] (fun s => A.sn - s) (0)
    ·try dsimp only
     exact Nat.zero_le _
    ·exact (sub_cons rfl sub_nil)
    ·exact (sub_cons rfl (sub_cons rfl (sub_cons rfl (sub_cons rfl (sub_cons rfl (sub_cons rfl sub_nil))))))
    ·exact (subH_row rfl (by first | (dsimp only; rfl; done) | (rfl; done) | (dsimp only; done)) subH_nil)
    ·exact (subH_same rfl (subH_same rfl (subH_same rfl (subH_same rfl (subH_same rfl subH_nil)))))
    ·rintro i hi
     intro K12 hK12
     refine wp_seq' fun K13 hK13 => ?_
     refine wp_reg ?_
     refine ol_r (r_lss rfl rfl) rfl ?_
     refine ol_nil (to_k0 (fun _ _ h => h) (hK13 _ _ _ _ _ ?_))
     clear hK13
     refine wp_seq' fun K14 hK14 => ?_
     first | refine wp_condD rfl (fun hc26 => ?_) (fun hc26 => ?_) | refine wp_condN rfl (fun hc26 => ?_) (fun hc26 => ?_) | refine wp_condNB rfl (fun hc26 => ?_) (fun hc26 => ?_) | refine wp_cond' rfl (fun hc26 => ?_) (fun hc26 => ?_)
     ·refine wp_skip' (to_k0 (fun _ _ h => h) (hK14 _ _ _ _ _ ?_))
      clear hK14
      refine wp_seq' fun K15 hK15 => ?_
      refine wp_block' ?_
      refine wp_seq' fun K16 hK16 => ?_
      refine wp_reg ?_
      refine ol_r (r_move rfl) rfl ?_
      refine ol_r (r_assign rfl) rfl ?_
      refine ol_nil (to_k0 (fun _ _ h => h) (hK16 _ _ _ _ _ ?_))
      clear hK16
      refine wp_seq' fun K17 hK17 => ?_
      refine wp_reg ?_
      refine ol_nilrow 9 3 1 ?_
      refine ol_r (r_assign rfl) rfl ?_
      refine ol_nil (to_k0 (fun _ _ h => h) (hK17 _ _ _ _ _ ?_))
      clear hK17
      refine wp_seq' fun K18 hK18 => ?_
      refine wp_seq' fun K19 hK19 => ?_
      refine wp_reg ?_
      have hLo : ((loN width i : Nat) : Int) = max 0 ((i : Int) - width) := by unfold loN; omega
      have hHi : ((hiN A.ss.length width i : Nat) : Int) = min ((i : Int) + width + 1) (A.sn : Int) := by unfold hiN; omega
      refine ol_r (r_move rfl) rfl ?_
      refine ol_r (r_move rfl) rfl ?_
      refine ol_r (r_sub rfl rfl (by omega)) rfl ?_
      refine ol_r (r_max rfl rfl) rfl ?_
      refine ol_r (r_assign rfl) rfl ?_
      refine ol_nil (to_k0 (fun _ _ h => h) (hK19 _ _ _ _ _ ?_))
      clear hK19
      refine wp_block' ?_
      apply wp_loopM (σ := Nat × Option Addr × Nat) (fun s => loN width i + s.1 ≤ hiN A.ss.length width i) (fun s => [(10, .int .i64 ((loN width i : Nat) + (s.1 : Nat) : Int)), (9, .slice s.2.1 s.1 s.2.2)]) [(1, _), (2, _), (4, _), (5, _), (7, _), (8, _), (24, _), (25, _)] (fun s => [(9, .row s.2.1 s.1 s.2.2 (encI.enc (winZ A.ss (loN width i) s.1)) 3 1)]) [(2, _), (4, _), (7, _), (1001, _), (1002, _), (1003, _)] (fun s => A.sn - s.1) ((0, none, 0))
      ·try dsimp only
       show loN width i + 0 ≤ hiN A.ss.length width i
       omega
      ·exact (sub_cons (by first | rfl | (first | rfl | (refine congrArg (fun z => some (Value.int .i64 z)) ?_; show max 0 ((i : Int) - width) = ((loN width i : Nat) : Int) + ((0 : Nat) : Int); omega))) (sub_cons (by first | rfl | (first | rfl | (refine congrArg (fun z => some (Value.int .i64 z)) ?_; show max 0 ((i : Int) - width) = ((loN width i : Nat) : Int) + ((0 : Nat) : Int); omega))) sub_nil))
      ·exact (sub_cons rfl (sub_cons rfl (sub_cons rfl (sub_cons rfl (sub_cons rfl (sub_cons rfl (sub_cons rfl (sub_cons rfl sub_nil))))))))
      ·exact (subH_row rfl (by first | (dsimp only; rfl; done) | (rfl; done) | (dsimp only; done)) subH_nil)
      ·exact (subH_same rfl (subH_same rfl (subH_same rfl (subH_same rfl (subH_same rfl (subH_same rfl subH_nil))))))
      ·rintro ⟨j, na, nc⟩ hj
       dsimp only at hj ⊢
       intro K20 hK20
       refine wp_seq' fun K21 hK21 => ?_
       refine wp_seq' fun K22 hK22 => ?_
       refine wp_reg ?_
       refine ol_r (r_move rfl) rfl ?_
       refine ol_r (r_move rfl) rfl ?_
       refine ol_r (r_move rfl) rfl ?_
       refine ol_r (r_add rfl rfl (by omega)) rfl ?_
       refine ol_r (r_leq rfl rfl) rfl ?_
       refine ol_r (r_move rfl) rfl ?_
       refine ol_split (d := 37) rfl (fun hs37 => ?_) (fun hs37 => ?_)
       ·have phs37 := hs37; try simp only [decide_eq_true_eq, decide_eq_false_iff_not, Bool.not_eq_true', Bool.not_eq_false', Bool.not_true, Bool.not_false] at phs37
        refine ol_g rfl rfl hs37 ?_
        refine ol_r (r_move rfl) rfl ?_
        refine ol_g rfl rfl hs37 ?_
        refine ol_r (r_fa (o' := 3) rfl fl26_3 rfl) rfl ?_
        refine ol_g rfl rfl hs37 ?_
        refine ol_r (r_ld (id := 2) rfl rfl rfl sc22) rfl ?_
        refine ol_g rfl rfl hs37 ?_
        refine ol_r (r_len rfl sl22) rfl ?_
        refine ol_g rfl rfl hs37 ?_
        refine ol_r (r_lss rfl rfl) rfl ?_
        refine ol_r (r_pickT rfl hs37 rfl) rfl ?_
        refine ol_nil (to_k0 (fun _ _ h => h) (hK22 _ _ _ _ _ ?_))
        clear hK22
        first | refine wp_condD rfl (fun hc43 => ?_) (fun hc43 => ?_) | refine wp_condN rfl (fun hc43 => ?_) (fun hc43 => ?_) | refine wp_condNB rfl (fun hc43 => ?_) (fun hc43 => ?_) | refine wp_cond' rfl (fun hc43 => ?_) (fun hc43 => ?_)
        ·refine wp_skip' (to_k0 (fun _ _ h => h) (hK21 _ _ _ _ _ ?_))
         clear hK21
         refine wp_seq' fun K23 hK23 => ?_
         refine wp_block' ?_
         refine wp_reg ?_
         refine ol_r (r_move rfl) rfl ?_
         refine ol_r (r_fa (o' := 3) rfl fl26_3 rfl) rfl ?_
         refine ol_r (r_ld (id := 2) rfl rfl rfl sc22) rfl ?_
         refine ol_r (r_move rfl) rfl ?_
         refine ol_ixr hA.s rfl rfl sl22 (by omega) rfl fun x50 hx50 => ?_
         try simp only [Int.toNat_natCast] at hx50
         refine ol_r (r_faw rfl (ix_some hA.s (by omega)) fl28_3) rfl ?_
         refine ol_r (r_ldw rfl (fun w1 hb1 hs1 hB1 => Rd.loadsF (o := 3) hA.s sc3 hx50 hb1 rfl)) rfl ?_
         refine ol_bs1 53 rfl rfl rw37 rfl rfl rfl fun a53 => ?_
         refine ol_append1 (id := 9) (id2 := 53) rfl rfl rfl rfl rfl rw37 (by omega) rfl fun a54 c54 => ?_
         refine ol_r (r_assign rfl) rfl ?_
         refine ol_nil (to_k0 (fun _ _ h => h) (hK23 _ _ _ _ _ ?_))
         clear hK23
         refine wp_reg ?_
         refine ol_r (r_move rfl) rfl ?_
         refine ol_r (r_add rfl rfl (by omega)) rfl ?_
         refine ol_r (r_assign rfl) rfl ?_
         refine ol_nil (to_k0 (fun _ _ h => h) (hK20 ((j + 1, _, _)) _ _ ?_ ?_ (sub_cons (by first | rfl | (first | rfl | (refine congrArg (fun z => some (Value.int .i64 z)) ?_; show ((loN width i : Nat) : Int) + (j : Int) + 1 = ((loN width i : Nat) : Int) + ((j + 1 : Nat) : Int); omega))) (sub_cons (by first | rfl | (first | rfl | (refine congrArg (fun z => some (Value.int .i64 z)) ?_; show ((loN width i : Nat) : Int) + (j : Int) + 1 = ((loN width i : Nat) : Int) + ((j + 1 : Nat) : Int); omega))) sub_nil)) (sub_cons rfl (sub_cons rfl (sub_cons rfl (sub_cons rfl (sub_cons rfl (sub_cons rfl (sub_cons rfl (sub_cons rfl sub_nil)))))))) (by exact (subH_row rfl (by first | (dsimp only; rw [win_row (show A.ss[loN width i + j]? = some x50 from (by rw [show loN width i + j = (((loN width i : Nat) : Int) + (j : Int)).toNat by omega]; exact hx50))]; rfl; done) | (rw [win_row (show A.ss[loN width i + j]? = some x50 from (by rw [show loN width i + j = (((loN width i : Nat) : Int) + (j : Int)).toNat by omega]; exact hx50))]; rfl; done) | (dsimp only; done)) subH_nil)) (subH_same rfl (subH_same rfl (subH_same rfl (subH_same rfl (subH_same rfl (subH_same rfl subH_nil))))))))
         ·try dsimp only
          omega
         ·try dsimp only
          omega
        ·refine wp_exit' (to_k0 (fun _ _ h => h) (hK18 _ _ _ _ _ ?_))
         clear hK18
         refine wp_rega [(999, [(2, _), (4, _), (7, _), (1002, _), (1003, _)]), (4, [(9, _)]), (7, [(1001, _)])] (by kernel_rfl) ⟨.inr (subH_same rfl (subH_same rfl (subH_same rfl (subH_same rfl (subH_same rfl subH_nil))))), ⟨.inr (subH_same rfl subH_nil), ⟨.inr (subH_same rfl subH_nil), trivial⟩⟩⟩ ?_
         have hwl : (winZ A.ss (loN width i) j).length = j := winZ_len (by omega)
         have hj0 : 0 < j := by omega
         have hj1 : j ≤ 1000 := by omega
         have hje : winZ A.ss (loN width i) j = winI A.ss width i := by
           unfold winI; congr 1; omega
         refine aq_r 0 999 rfl (by kernel_rfl) (by kernel_rfl) (by kernel_rfl) (.head _) (by kernel_rfl) (by kernel_rfl) rfl (r_fa (o' := 3) rfl fl26_3 rfl) ?_
         refine aq_r 1 999 rfl (by kernel_rfl) (by kernel_rfl) (by kernel_rfl) (.head _) (by kernel_rfl) (by kernel_rfl) rfl (r_ld (id := 7) rfl rfl rfl sc22) ?_
         refine aq_r 2 999 rfl (by kernel_rfl) (by kernel_rfl) (by kernel_rfl) (.head _) (by kernel_rfl) (by kernel_rfl) rfl (r_move rfl) ?_
         refine aq_r 3 999 rfl (by kernel_rfl) (by kernel_rfl) (by kernel_rfl) (.head _) (by kernel_rfl) (by kernel_rfl) rfl (r_move rfl) ?_
         refine aq_one (i := 4) (by kernel_rfl) rfl fun K24 hK24 => ?_
         refine ol_call rfl rfl cb80 rfl (fun w1 hb1 hs1 hB1 => ?_)
         refine Calls.mono (ref3_middle _ _ _ _ (winZ A.ss (loN width i) j) _ _ _ _ _ _ _ hwl hj0 hj1 hB1 (hs1.kle [(9, 900), (2, 901), (4, 902), (7, 903), (1001, 904), (1002, 905), (1003, 906)] (kle_cons rfl (Ent.le_refl _) (kle_cons rfl (Ent.le_refl _) (kle_cons rfl (Ent.le_refl _) (kle_cons rfl (Ent.le_refl _) (kle_cons rfl (Ent.le_refl _) (kle_cons rfl (Ent.le_refl _) (kle_cons rfl (Ent.le_refl _) kle_nil))))))) (by decide))) ?_
         rintro e w2 ⟨rfl, hb2, hs2, hB2, hk2⟩
         refine After.sat rfl hb1 hb2 (hs2.kle [(901, 2), (902, 4), (903, 7), (904, 1001), (905, 1002), (906, 1003)] (kle_cons rfl (Ent.le_refl _) (kle_cons rfl (Ent.le_refl _) (kle_cons rfl (Ent.le_refl _) (kle_cons rfl (Ent.le_refl _) (kle_cons rfl (Ent.le_refl _) (kle_cons rfl (Ent.le_refl _) kle_nil)))))) (by decide)) hB2 (hk2.imp fun _ h => h.elim) ?_
         clear hk2 hs2 hb2 hB2 hB1 hs1 hb1 w2 w1
         refine ol_nil (to_k0 (fun _ _ h => h) (hK24 _ _ ⟨.inr (by repeat' first | exact subH_nil | refine subH_same rfl ?_ | (refine subH_blk rfl (by repeat' first | exact sub_nil | refine sub_cons rfl ?_) ?_)), ⟨.inl (by kernel_rfl), ⟨.inr (by repeat' first | exact subH_nil | refine subH_same rfl ?_ | (refine subH_blk rfl (by repeat' first | exact sub_nil | refine sub_cons rfl ?_) ?_)), trivial⟩⟩⟩ ?_))
         clear hK24
         refine aq_one (i := 5) (by kernel_rfl) rfl fun K25 hK25 => ?_
         refine ol_ixo (id := 1001) encSmp _ rfl rfl rfl rfl sl22 (by omega) rfl fun x60 hx60 => ?_
         try simp only [Int.toNat_natCast] at hx60
         try simp only [Int.toNat_natCast] at hx60
         refine ol_nil (to_k0 (fun _ _ h => h) (hK25 _ _ ⟨.inr (by repeat' first | exact subH_nil | refine subH_same rfl ?_ | (refine subH_blk rfl (by repeat' first | exact sub_nil | refine sub_cons rfl ?_) ?_)), ⟨.inl (by kernel_rfl), ⟨.inr (by repeat' first | exact subH_nil | refine subH_same rfl ?_ | (refine subH_blk rfl (by repeat' first | exact sub_nil | refine sub_cons rfl ?_) ?_)), trivial⟩⟩⟩ ?_))
         clear hK25
         refine aq_r 6 7 rfl (by kernel_rfl) (by kernel_rfl) (by kernel_rfl) (.tail _ (.tail _ (.head _))) (by kernel_rfl) (by kernel_rfl) rfl (r_faO (id := 1001) rfl rfl rfl hx60 fl28_3) ?_
         refine aq_one (i := 7) (by kernel_rfl) rfl fun K26 hK26 => ?_
         refine ol_storeRowF (id := 1001) _ _ (x60.setZ (medZ (winZ A.ss (loN width i) j))) rfl rfl rfl rfl rfl rfl sz3 hx60 (by decide) rfl ?_
         refine ol_nil (to_k0 (fun _ _ h => h) (hK26 _ _ ⟨.inr (by repeat' first | exact subH_nil | refine subH_same rfl ?_ | (refine subH_blk rfl (by repeat' first | exact sub_nil | refine sub_cons rfl ?_) ?_)), ⟨.inl (by kernel_rfl), ⟨.inl (by kernel_rfl), trivial⟩⟩⟩ ?_))
         clear hK26
         refine aq_done (by kernel_rfl) ?_
         refine (to_k0 (fun _ _ h => h) (hK15 _ _ _ _ _ ?_))
         clear hK15
         refine wp_reg ?_
         refine ol_r (r_add rfl rfl (by omega)) rfl ?_
         refine ol_r (r_move rfl) rfl ?_
         refine ol_nil (to_k0 (fun _ _ h => h) (hK12 ((i + 1)) _ _ ?_ ?_ (sub_cons rfl sub_nil) (sub_cons rfl (sub_cons rfl (sub_cons rfl (sub_cons rfl (sub_cons rfl (sub_cons rfl sub_nil)))))) (by exact (subH_row rfl (by first | (dsimp only; rw [levelN_succ (show A.ss[i]? = some x60 from ((levelN_get (w := width) (Nat.le_refl i)).symm.trans hx60)), ← hje]; first | done | rfl; done) | (rw [levelN_succ (show A.ss[i]? = some x60 from ((levelN_get (w := width) (Nat.le_refl i)).symm.trans hx60)), ← hje]; first | done | rfl; done) | (dsimp only; done)) subH_nil)) (subH_same rfl (subH_same rfl (subH_same rfl (subH_same rfl (subH_same rfl subH_nil)))))))
         ·try dsimp only
          omega
         ·try dsimp only
          omega
       ·have phs37 := hs37; try simp only [decide_eq_true_eq, decide_eq_false_iff_not, Bool.not_eq_true', Bool.not_eq_false', Bool.not_true, Bool.not_false] at phs37
        refine ol_s rfl rfl hs37 rfl ?_
        refine ol_s rfl rfl hs37 rfl ?_
        refine ol_s rfl rfl hs37 rfl ?_
        refine ol_s rfl rfl hs37 rfl ?_
        refine ol_s rfl rfl hs37 rfl ?_
        refine ol_r (r_pickF rfl hs37 rfl) rfl ?_
        refine ol_nil (to_k0 (fun _ _ h => h) (hK22 _ _ _ _ _ ?_))
        clear hK22
        refine wp_condF rfl ?_
        refine wp_exit' (to_k0 (fun _ _ h => h) (hK18 _ _ _ _ _ ?_))
        clear hK18
        refine wp_rega [(999, [(2, _), (4, _), (7, _), (1002, _), (1003, _)]), (4, [(9, _)]), (7, [(1001, _)])] (by kernel_rfl) ⟨.inr (subH_same rfl (subH_same rfl (subH_same rfl (subH_same rfl (subH_same rfl subH_nil))))), ⟨.inr (subH_same rfl subH_nil), ⟨.inr (subH_same rfl subH_nil), trivial⟩⟩⟩ ?_
        have hwl : (winZ A.ss (loN width i) j).length = j := winZ_len (by omega)
        have hj0 : 0 < j := by omega
        have hj1 : j ≤ 1000 := by omega
        have hje : winZ A.ss (loN width i) j = winI A.ss width i := by
          unfold winI; congr 1; omega
        refine aq_r 0 999 rfl (by kernel_rfl) (by kernel_rfl) (by kernel_rfl) (.head _) (by kernel_rfl) (by kernel_rfl) rfl (r_fa (o' := 3) rfl fl26_3 rfl) ?_
        refine aq_r 1 999 rfl (by kernel_rfl) (by kernel_rfl) (by kernel_rfl) (.head _) (by kernel_rfl) (by kernel_rfl) rfl (r_ld (id := 7) rfl rfl rfl sc22) ?_
        refine aq_r 2 999 rfl (by kernel_rfl) (by kernel_rfl) (by kernel_rfl) (.head _) (by kernel_rfl) (by kernel_rfl) rfl (r_move rfl) ?_
        refine aq_r 3 999 rfl (by kernel_rfl) (by kernel_rfl) (by kernel_rfl) (.head _) (by kernel_rfl) (by kernel_rfl) rfl (r_move rfl) ?_
        refine aq_one (i := 4) (by kernel_rfl) rfl fun K27 hK27 => ?_
        refine ol_call rfl rfl cb80 rfl (fun w1 hb1 hs1 hB1 => ?_)
        refine Calls.mono (ref3_middle _ _ _ _ (winZ A.ss (loN width i) j) _ _ _ _ _ _ _ hwl hj0 hj1 hB1 (hs1.kle [(9, 900), (2, 901), (4, 902), (7, 903), (1001, 904), (1002, 905), (1003, 906)] (kle_cons rfl (Ent.le_refl _) (kle_cons rfl (Ent.le_refl _) (kle_cons rfl (Ent.le_refl _) (kle_cons rfl (Ent.le_refl _) (kle_cons rfl (Ent.le_refl _) (kle_cons rfl (Ent.le_refl _) (kle_cons rfl (Ent.le_refl _) kle_nil))))))) (by decide))) ?_
        rintro e w2 ⟨rfl, hb2, hs2, hB2, hk2⟩
        refine After.sat rfl hb1 hb2 (hs2.kle [(901, 2), (902, 4), (903, 7), (904, 1001), (905, 1002), (906, 1003)] (kle_cons rfl (Ent.le_refl _) (kle_cons rfl (Ent.le_refl _) (kle_cons rfl (Ent.le_refl _) (kle_cons rfl (Ent.le_refl _) (kle_cons rfl (Ent.le_refl _) (kle_cons rfl (Ent.le_refl _) kle_nil)))))) (by decide)) hB2 (hk2.imp fun _ h => h.elim) ?_
        clear hk2 hs2 hb2 hB2 hB1 hs1 hb1 w2 w1
        refine ol_nil (to_k0 (fun _ _ h => h) (hK27 _ _ ⟨.inr (by repeat' first | exact subH_nil | refine subH_same rfl ?_ | (refine subH_blk rfl (by repeat' first | exact sub_nil | refine sub_cons rfl ?_) ?_)), ⟨.inl (by kernel_rfl), ⟨.inr (by repeat' first | exact subH_nil | refine subH_same rfl ?_ | (refine subH_blk rfl (by repeat' first | exact sub_nil | refine sub_cons rfl ?_) ?_)), trivial⟩⟩⟩ ?_))
        clear hK27
        refine aq_one (i := 5) (by kernel_rfl) rfl fun K28 hK28 => ?_
        refine ol_ixo (id := 1001) encSmp _ rfl rfl rfl rfl sl22 (by omega) rfl fun x60 hx60 => ?_
        try simp only [Int.toNat_natCast] at hx60
        try simp only [Int.toNat_natCast] at hx60
        refine ol_nil (to_k0 (fun _ _ h => h) (hK28 _ _ ⟨.inr (by repeat' first | exact subH_nil | refine subH_same rfl ?_ | (refine subH_blk rfl (by repeat' first | exact sub_nil | refine sub_cons rfl ?_) ?_)), ⟨.inl (by kernel_rfl), ⟨.inr (by repeat' first | exact subH_nil | refine subH_same rfl ?_ | (refine subH_blk rfl (by repeat' first | exact sub_nil | refine sub_cons rfl ?_) ?_)), trivial⟩⟩⟩ ?_))
        clear hK28
        refine aq_r 6 7 rfl (by kernel_rfl) (by kernel_rfl) (by kernel_rfl) (.tail _ (.tail _ (.head _))) (by kernel_rfl) (by kernel_rfl) rfl (r_faO (id := 1001) rfl rfl rfl hx60 fl28_3) ?_
        refine aq_one (i := 7) (by kernel_rfl) rfl fun K29 hK29 => ?_
        refine ol_storeRowF (id := 1001) _ _ (x60.setZ (medZ (winZ A.ss (loN width i) j))) rfl rfl rfl rfl rfl rfl sz3 hx60 (by decide) rfl ?_
        refine ol_nil (to_k0 (fun _ _ h => h) (hK29 _ _ ⟨.inr (by repeat' first | exact subH_nil | refine subH_same rfl ?_ | (refine subH_blk rfl (by repeat' first | exact sub_nil | refine sub_cons rfl ?_) ?_)), ⟨.inl (by kernel_rfl), ⟨.inl (by kernel_rfl), trivial⟩⟩⟩ ?_))
        clear hK29
        refine aq_done (by kernel_rfl) ?_
        refine (to_k0 (fun _ _ h => h) (hK15 _ _ _ _ _ ?_))
        clear hK15
        refine wp_reg ?_
        refine ol_r (r_add rfl rfl (by omega)) rfl ?_
        refine ol_r (r_move rfl) rfl ?_
        refine ol_nil (to_k0 (fun _ _ h => h) (hK12 ((i + 1)) _ _ ?_ ?_ (sub_cons rfl sub_nil) (sub_cons rfl (sub_cons rfl (sub_cons rfl (sub_cons rfl (sub_cons rfl (sub_cons rfl sub_nil)))))) (by exact (subH_row rfl (by first | (dsimp only; rw [levelN_succ (show A.ss[i]? = some x60 from ((levelN_get (w := width) (Nat.le_refl i)).symm.trans hx60)), ← hje]; first | done | rfl; done) | (rw [levelN_succ (show A.ss[i]? = some x60 from ((levelN_get (w := width) (Nat.le_refl i)).symm.trans hx60)), ← hje]; first | done | rfl; done) | (dsimp only; done)) subH_nil)) (subH_same rfl (subH_same rfl (subH_same rfl (subH_same rfl (subH_same rfl subH_nil)))))))
        ·try dsimp only
         omega
        ·try dsimp only
         omega
     ·refine wp_exit' (to_k0 (fun _ _ h => h) (hK10 _ _ _ _ _ ?_))
      clear hK10
      refine wp_seq' fun K30 hK30 => ?_
      refine wp_reg ?_
      refine ol_r (r_lda (id := 7) (n := 6) rfl rfl rfl ag26) rfl ?_
      refine ol_store (id := 4) rfl rfl rfl rfl sz26 rfl rfl (by first | decide | exact Nat.zero_lt_succ _ | simp) ?_
      refine ol_r (r_assign rfl) rfl ?_
      refine ol_nil (to_k0 (fun _ _ h => h) (hK30 _ _ _ _ _ ?_))
      clear hK30
      refine hQ.ret (rvs2 (rv_c (id := 4) (n := 6) rfl rfl ag26 rfl) (rv_t rfl)) (fun _ _ h => h) fun w hb hs hB hkd => ?_
      have hin : i = A.ss.length := by omega
      subst hin
      refine ⟨?_, hb⟩
      rw [levelR_0 hc14 hw]
      exact ⟨sa, A.sn, sc, la, A.ln, lc, ta, A.tn, tc, rfl, hs.three 1001 1002 1003 1001 1002 1003 (by decide) (by decide) (by decide) rfl rfl rfl (Ent.le_refl _) (Ent.le_refl _) (Ent.le_refl _)⟩
end Go.Proofs.Ytogcclagmobkiaa
