/-
  CheckZones, CheckSizes, Zones: program and reference.
-/
import Derived.Test.YtafkojlccknicaaStream
import Derived.Test.YtafkojlccknicaaZonesM
namespace Go.Proofs.Ytafkojlccknicaa
open Go Go.RowKit Hx
set_option linter.unusedVariables false
set_option linter.unusedSimpArgs false
set_option maxRecDepth 8000

theorem effort_rising (a : Option Addr) (n cap : Nat) (xs : List Int) (lo hi : Int) (w : World) (hl : Rd encI w.heap.size w a n cap xs) :
    Calls Try.prog 76 #[.slice a n cap, .int .i64 lo, .int .i64 hi] w fun e w' => e = .returned (.int .i64 (risR lo hi xs)) ∧ Below w.heap.size w w' := by
  have hn := hl.len
  have hfit := hl.fit
  subst hn
  refine enterQ (N := 33) (C := fun _ => True) (H := []) (B := w.heap.size) (args := [_, _, _]) Try.func76 rfl rfl rfl (Nat.le_refl _) (Sat.nil _ _) fun Q hQ => ?_
  refine wp_seq' fun K1 hK1 => ?_
  refine wp_reg ?_
  refine ol_r (r_assign rfl) rfl ?_
  refine ol_nil (to_k0 (fun _ _ h => h) (hK1 _ _ _ _ _ ?_))
  clear hK1
  refine wp_seq' fun K2 hK2 => ?_
  refine wp_seq' fun K3 hK3 => ?_
  refine wp_reg ?_
  refine ol_r (r_move rfl) rfl ?_
  refine ol_r (r_len rfl sl22) rfl ?_
  refine ol_r (r_move rfl) rfl ?_
  refine ol_nil (to_k0 (fun _ _ h => h) (hK3 _ _ _ _ _ ?_))
  clear hK3
  refine wp_block' ?_
  apply wp_loopM (σ := Nat) (fun s => s ≤ xs.length ∧ risR lo hi xs = chkG (inB · lo hi) (fun y x => decide (x ≤ y)) (ahead xs s) (xs.drop s)) (fun s => [(11, .int .i64 s)]) [(0, _), (1, _), (2, _), (9, _), (10, _)] (fun s => []) [] (fun s => xs.length - s) (0)
  ·try dsimp only
   exact ⟨Nat.zero_le _, risR_start _ _ _⟩
  ·exact (sub_cons rfl sub_nil)
  ·exact (sub_cons rfl (sub_cons rfl (sub_cons rfl (sub_cons rfl (sub_cons rfl sub_nil)))))
  ·exact subH_nil
  ·exact subH_nil
  ·rintro k ⟨hk, hP⟩
   intro K4 hK4
   refine wp_seq' fun K5 hK5 => ?_
   refine wp_reg ?_
   refine ol_r (r_lss rfl rfl) rfl ?_
   refine ol_nil (to_k0 (fun _ _ h => h) (hK5 _ _ _ _ _ ?_))
   clear hK5
   refine wp_seq' fun K6 hK6 => ?_
   first | refine wp_condD rfl (fun hc12 => ?_) (fun hc12 => ?_) | refine wp_condN rfl (fun hc12 => ?_) (fun hc12 => ?_) | refine wp_condNB rfl (fun hc12 => ?_) (fun hc12 => ?_) | refine wp_cond' rfl (fun hc12 => ?_) (fun hc12 => ?_)
   ·refine wp_skip' (to_k0 (fun _ _ h => h) (hK6 _ _ _ _ _ ?_))
    clear hK6
    refine wp_seq' fun K7 hK7 => ?_
    refine wp_block' ?_
    refine wp_seq' fun K8 hK8 => ?_
    refine wp_reg ?_
    refine ol_r (r_move rfl) rfl ?_
    refine ol_ixr hl rfl rfl sl22 (by omega) rfl fun x14 hx14 => ?_
    try simp only [Int.toNat_natCast] at hx14
    refine ol_r (r_ldw rfl (fun w1 hb1 hs1 hB1 => show Loads _ _ _ _ (.int .i64 x14) from Rd.loads hl ty3 hx14 hb1)) rfl ?_
    refine ol_r (r_assign rfl) rfl ?_
    refine ol_r (r_assign rfl) rfl ?_
    refine ol_nil (to_k0 (fun _ _ h => h) (hK8 _ _ _ _ _ ?_))
    clear hK8
    refine wp_seq' fun K9 hK9 => ?_
    refine wp_seq' fun K10 hK10 => ?_
    refine wp_reg ?_
    refine ol_r (r_move rfl) rfl ?_
    refine ol_r (r_move rfl) rfl ?_
    refine ol_r (r_move rfl) rfl ?_
    refine ol_call rfl rfl cb69 rfl (fun w1 hb1 hs1 hB1 => Calls.mono (effort_in _ _ _ _) ?_)
    rintro e w2 ⟨rfl, hb2⟩
    refine After.below rfl hb1 hs1 hB1 hb2 ?_
    clear hb2 hB1 hs1 hb1 w2 w1
    refine ol_r (r_not rfl) rfl ?_
    refine ol_nil (to_k0 (fun _ _ h => h) (hK10 _ _ _ _ _ ?_))
    clear hK10
    first | refine wp_condD rfl (fun hc20 => ?_) (fun hc20 => ?_) | refine wp_condN rfl (fun hc20 => ?_) (fun hc20 => ?_) | refine wp_condNB rfl (fun hc20 => ?_) (fun hc20 => ?_) | refine wp_cond' rfl (fun hc20 => ?_) (fun hc20 => ?_)
    ·refine wp_seq' fun K11 hK11 => ?_
     refine wp_reg ?_
     refine ol_r (r_assign rfl) rfl ?_
     refine ol_nil (to_k0 (fun _ _ h => h) (hK11 _ _ _ _ _ ?_))
     clear hK11
     refine hQ.ret (rvs1 (rv_t rfl)) (fun _ _ h => h) fun w hb hs hB hkd => ?_
     first
       | (refine ⟨by rw [chkG_end hP (by omega)], hb⟩; done)
       | (refine ⟨by rw [chkG_bad hP hx14 (by simpa using hc20)], hb⟩; done)
       | (refine ⟨by rw [chkG_ord hP hx14 (by simpa using hc20) phs23 hx28 (by simpa using hc31)], hb⟩; done)
    ·refine wp_skip' (to_k0 (fun _ _ h => h) (hK9 _ _ _ _ _ ?_))
     clear hK9
     refine wp_seq' fun K12 hK12 => ?_
     refine wp_reg ?_
     refine ol_r (r_move rfl) rfl ?_
     refine ol_r (r_gtr rfl rfl) rfl ?_
     refine ol_r (r_move rfl) rfl ?_
     refine ol_split (d := 23) rfl (fun hs23 => ?_) (fun hs23 => ?_)
     ·have phs23 := hs23; try simp only [decide_eq_true_eq, decide_eq_false_iff_not, Bool.not_eq_true', Bool.not_eq_false', Bool.not_true, Bool.not_false] at phs23
      refine ol_g rfl rfl hs23 ?_
      refine ol_r (r_move rfl) rfl ?_
      refine ol_g rfl rfl hs23 ?_
      refine ol_r (r_move rfl) rfl ?_
      refine ol_g rfl rfl hs23 ?_
      refine ol_r (r_move rfl) rfl ?_
      refine ol_g rfl rfl hs23 ?_
      refine ol_r (r_sub rfl rfl (by omega)) rfl ?_
      refine ol_g rfl rfl hs23 ?_
      refine ol_ixr hl rfl rfl sl22 (by omega) rfl fun x28 hx28 => ?_
      try simp only [Int.toNat_natCast] at hx28
      refine ol_g rfl rfl hs23 ?_
      refine ol_r (r_ldw rfl (fun w1 hb1 hs1 hB1 => show Loads _ _ _ _ (.int .i64 x28) from Rd.loads hl ty3 hx28 hb1)) rfl ?_
      refine ol_g rfl rfl hs23 ?_
      refine ol_r (r_leq rfl rfl) rfl ?_
      refine ol_r (r_pickT rfl hs23 rfl) rfl ?_
      refine ol_nil (to_k0 (fun _ _ h => h) (hK12 _ _ _ _ _ ?_))
      clear hK12
      first | refine wp_condD rfl (fun hc31 => ?_) (fun hc31 => ?_) | refine wp_condN rfl (fun hc31 => ?_) (fun hc31 => ?_) | refine wp_condNB rfl (fun hc31 => ?_) (fun hc31 => ?_) | refine wp_cond' rfl (fun hc31 => ?_) (fun hc31 => ?_)
      ·refine wp_seq' fun K13 hK13 => ?_
       refine wp_reg ?_
       refine ol_r (r_assign rfl) rfl ?_
       refine ol_nil (to_k0 (fun _ _ h => h) (hK13 _ _ _ _ _ ?_))
       clear hK13
       refine hQ.ret (rvs1 (rv_t rfl)) (fun _ _ h => h) fun w hb hs hB hkd => ?_
       first
         | (refine ⟨by rw [chkG_end hP (by omega)], hb⟩; done)
         | (refine ⟨by rw [chkG_bad hP hx14 (by simpa using hc20)], hb⟩; done)
         | (refine ⟨by rw [chkG_ord hP hx14 (by simpa using hc20) phs23 hx28 (by simpa using hc31)], hb⟩; done)
      ·refine wp_skip' (to_k0 (fun _ _ h => h) (hK7 _ _ _ _ _ ?_))
       clear hK7
       refine wp_reg ?_
       refine ol_r (r_add rfl rfl (by omega)) rfl ?_
       refine ol_r (r_move rfl) rfl ?_
       refine ol_nil (to_k0 (fun _ _ h => h) (hK4 (k + 1) _ _ ?_ ?_ (sub_cons rfl sub_nil) (sub_cons rfl (sub_cons rfl (sub_cons rfl (sub_cons rfl (sub_cons rfl sub_nil))))) (by exact subH_nil) subH_nil))
       ·try dsimp only
        refine ⟨by omega, ?_⟩
        have hq : inB x14 lo hi = true := by simpa using hc20
        first | exact chkG_next hP hx14 hq phs23 hx28 (by simpa using hc31) | exact chkG_next0 hP hx14 hq phs23
       ·try dsimp only
        omega
     ·have phs23 := hs23; try simp only [decide_eq_true_eq, decide_eq_false_iff_not, Bool.not_eq_true', Bool.not_eq_false', Bool.not_true, Bool.not_false] at phs23
      refine ol_s rfl rfl hs23 rfl ?_
      refine ol_s rfl rfl hs23 rfl ?_
      refine ol_s rfl rfl hs23 rfl ?_
      refine ol_s rfl rfl hs23 rfl ?_
      refine ol_s rfl rfl hs23 rfl ?_
      refine ol_s rfl rfl hs23 rfl ?_
      refine ol_s rfl rfl hs23 rfl ?_
      refine ol_r (r_pickF rfl hs23 rfl) rfl ?_
      refine ol_nil (to_k0 (fun _ _ h => h) (hK12 _ _ _ _ _ ?_))
      clear hK12
      refine wp_condF rfl ?_
      refine wp_skip' (to_k0 (fun _ _ h => h) (hK7 _ _ _ _ _ ?_))
      clear hK7
      refine wp_reg ?_
      refine ol_r (r_add rfl rfl (by omega)) rfl ?_
      refine ol_r (r_move rfl) rfl ?_
      refine ol_nil (to_k0 (fun _ _ h => h) (hK4 (k + 1) _ _ ?_ ?_ (sub_cons rfl sub_nil) (sub_cons rfl (sub_cons rfl (sub_cons rfl (sub_cons rfl (sub_cons rfl sub_nil))))) (by exact subH_nil) subH_nil))
      ·try dsimp only
       refine ⟨by omega, ?_⟩
       have hq : inB x14 lo hi = true := by simpa using hc20
       first | exact chkG_next hP hx14 hq phs23 hx28 (by simpa using hc31) | exact chkG_next0 hP hx14 hq phs23
      ·try dsimp only
       omega
   ·refine wp_exit' (to_k0 (fun _ _ h => h) (hK2 _ _ _ _ _ ?_))
    clear hK2
    refine wp_seq' fun K14 hK14 => ?_
    refine wp_reg ?_
    refine ol_r (r_assign rfl) rfl ?_
    refine ol_nil (to_k0 (fun _ _ h => h) (hK14 _ _ _ _ _ ?_))
    clear hK14
    refine hQ.ret (rvs1 (rv_t rfl)) (fun _ _ h => h) fun w hb hs hB hkd => ?_
    first
      | (refine ⟨by rw [chkG_end hP (by omega)], hb⟩; done)
      | (refine ⟨by rw [chkG_bad hP hx14 (by simpa using hc20)], hb⟩; done)
      | (refine ⟨by rw [chkG_ord hP hx14 (by simpa using hc20) phs23 hx28 (by simpa using hc31)], hb⟩; done)
theorem effort_CheckZones (a : Option Addr) (n cap : Nat) (xs : List Int) (w : World) (hl : Rd encI w.heap.size w a n cap xs) :
    Calls Try.prog 24 #[.slice a n cap] w fun e w' => e = .returned (.int .i64 (zonesC xs)) ∧ Below w.heap.size w w' := by
  have hn := hl.len
  subst hn
  refine enterQ (N := 8) (C := fun _ => True) (H := []) (B := w.heap.size) (args := [_]) Try.func24 rfl rfl rfl (Nat.le_refl _) (Sat.nil _ _) fun Q hQ => ?_
  refine wp_seq' fun K1 hK1 => ?_
  refine wp_reg ?_
  refine ol_r (r_assign rfl) rfl ?_
  refine ol_nil (to_k0 (fun _ _ h => h) (hK1 _ _ _ _ _ ?_))
  clear hK1
  refine wp_seq' fun K2 hK2 => ?_
  refine wp_seq' fun K3 hK3 => ?_
  refine wp_reg ?_
  refine ol_r (r_move rfl) rfl ?_
  refine ol_r (r_len rfl sl22) rfl ?_
  refine ol_r (r_gtr rfl rfl) rfl ?_
  refine ol_nil (to_k0 (fun _ _ h => h) (hK3 _ _ _ _ _ ?_))
  clear hK3
  first | refine wp_condD rfl (fun hc5 => ?_) (fun hc5 => ?_) | refine wp_condN rfl (fun hc5 => ?_) (fun hc5 => ?_) | refine wp_condNB rfl (fun hc5 => ?_) (fun hc5 => ?_) | refine wp_cond' rfl (fun hc5 => ?_) (fun hc5 => ?_)
  ·refine wp_seq' fun K4 hK4 => ?_
   refine wp_reg ?_
   refine ol_r (r_assign rfl) rfl ?_
   refine ol_nil (to_k0 (fun _ _ h => h) (hK4 _ _ _ _ _ ?_))
   clear hK4
   refine hQ.ret (rvs1 (rv_t rfl)) (fun _ _ h => h) fun w hb hs hB hkd => ?_
   first
     | (refine ⟨by rw [show zonesC xs = 3 from if_pos (by omega)], hb⟩; done)
     | (refine ⟨by rw [show zonesC xs = risR 0 1000000000 xs from if_neg (by omega)], hb⟩; done)
  ·refine wp_skip' (to_k0 (fun _ _ h => h) (hK2 _ _ _ _ _ ?_))
   clear hK2
   refine wp_seq' fun K5 hK5 => ?_
   refine wp_reg ?_
   refine ol_r (r_move rfl) rfl ?_
   refine ol_call rfl rfl cb76 rfl (fun w1 hb1 hs1 hB1 => Calls.mono (effort_rising _ _ _ xs _ _ _ (hl.at hb1 hB1)) ?_)
   rintro e w2 ⟨rfl, hb2⟩
   refine After.below rfl hb1 hs1 hB1 hb2 ?_
   clear hb2 hB1 hs1 hb1 w2 w1
   refine ol_r (r_assign rfl) rfl ?_
   refine ol_nil (to_k0 (fun _ _ h => h) (hK5 _ _ _ _ _ ?_))
   clear hK5
   refine hQ.ret (rvs1 (rv_t rfl)) (fun _ _ h => h) fun w hb hs hB hkd => ?_
   first
     | (refine ⟨by rw [show zonesC xs = 3 from if_pos (by omega)], hb⟩; done)
     | (refine ⟨by rw [show zonesC xs = risR 0 1000000000 xs from if_neg (by omega)], hb⟩; done)
theorem ref_CheckZones (a : Option Addr) (n cap : Nat) (xs : List Int) (w : World) (hl : Rd encI w.heap.size w a n cap xs) :
    Calls Try.prog 25 #[.slice a n cap] w fun e w' => e = .returned (.int .i64 (zonesC xs)) ∧ Below w.heap.size w w' := by
  have hn := hl.len
  have hfit := hl.fit
  subst hn
  refine enterQ (N := 33) (C := fun _ => True) (H := []) (B := w.heap.size) (args := [_]) Try.func25 rfl rfl rfl (Nat.le_refl _) (Sat.nil _ _) fun Q hQ => ?_
  refine wp_seq' fun K1 hK1 => ?_
  refine wp_reg ?_
  refine ol_r (r_assign rfl) rfl ?_
  refine ol_nil (to_k0 (fun _ _ h => h) (hK1 _ _ _ _ _ ?_))
  clear hK1
  refine wp_seq' fun K2 hK2 => ?_
  refine wp_seq' fun K3 hK3 => ?_
  refine wp_reg ?_
  refine ol_r (r_move rfl) rfl ?_
  refine ol_r (r_len rfl sl22) rfl ?_
  refine ol_r (r_gtr rfl rfl) rfl ?_
  refine ol_nil (to_k0 (fun _ _ h => h) (hK3 _ _ _ _ _ ?_))
  clear hK3
  first | refine wp_condD rfl (fun hc7 => ?_) (fun hc7 => ?_) | refine wp_condN rfl (fun hc7 => ?_) (fun hc7 => ?_) | refine wp_condNB rfl (fun hc7 => ?_) (fun hc7 => ?_) | refine wp_cond' rfl (fun hc7 => ?_) (fun hc7 => ?_)
  ·refine wp_seq' fun K4 hK4 => ?_
   refine wp_reg ?_
   refine ol_r (r_assign rfl) rfl ?_
   refine ol_nil (to_k0 (fun _ _ h => h) (hK4 _ _ _ _ _ ?_))
   clear hK4
   refine hQ.ret (rvs1 (rv_t rfl)) (fun _ _ h => h) fun w hb hs hB hkd => ?_
   first
     | (refine ⟨by rw [show zonesC xs = 3 from if_pos (by omega)], hb⟩; done)
     | (rw [show zonesC xs = risR 0 1000000000 xs from if_neg (by omega)]
        first
          | (refine ⟨by rw [chkG_end hP (by omega)], hb⟩; done)
          | (refine ⟨by rw [chkG_bad hP hx13 (inB_not.2 (by omega))], hb⟩; done)
          | (refine ⟨by rw [chkG_ord hP hx13 (inB_iff.2 (by omega)) phs23 hx28 (by simpa using hc31)], hb⟩; done))
  ·refine wp_skip' (to_k0 (fun _ _ h => h) (hK2 _ _ _ _ _ ?_))
   clear hK2
   refine wp_seq' fun K5 hK5 => ?_
   refine wp_seq' fun K6 hK6 => ?_
   refine wp_reg ?_
   refine ol_r (r_move rfl) rfl ?_
   refine ol_r (r_len rfl sl22) rfl ?_
   refine ol_r (r_move rfl) rfl ?_
   refine ol_nil (to_k0 (fun _ _ h => h) (hK6 _ _ _ _ _ ?_))
   clear hK6
   refine wp_block' ?_
   apply wp_loopM (σ := Nat) (fun s => s ≤ xs.length ∧ risR 0 1000000000 xs = chkG (inB · 0 1000000000) (fun y x => decide (x ≤ y)) (ahead xs s) (xs.drop s)) (fun s => [(10, .int .i64 s)]) [(0, _), (8, _), (9, _)] (fun s => []) [] (fun s => xs.length - s) (0)
   ·try dsimp only
    exact ⟨Nat.zero_le _, risR_start _ _ _⟩
   ·exact (sub_cons rfl sub_nil)
   ·exact (sub_cons rfl (sub_cons rfl (sub_cons rfl sub_nil)))
   ·exact subH_nil
   ·exact subH_nil
   ·rintro k ⟨hk, hP⟩
    intro K7 hK7
    refine wp_seq' fun K8 hK8 => ?_
    refine wp_reg ?_
    refine ol_r (r_lss rfl rfl) rfl ?_
    refine ol_nil (to_k0 (fun _ _ h => h) (hK8 _ _ _ _ _ ?_))
    clear hK8
    refine wp_seq' fun K9 hK9 => ?_
    first | refine wp_condD rfl (fun hc11 => ?_) (fun hc11 => ?_) | refine wp_condN rfl (fun hc11 => ?_) (fun hc11 => ?_) | refine wp_condNB rfl (fun hc11 => ?_) (fun hc11 => ?_) | refine wp_cond' rfl (fun hc11 => ?_) (fun hc11 => ?_)
    ·refine wp_skip' (to_k0 (fun _ _ h => h) (hK9 _ _ _ _ _ ?_))
     clear hK9
     refine wp_seq' fun K10 hK10 => ?_
     refine wp_block' ?_
     refine wp_seq' fun K11 hK11 => ?_
     refine wp_reg ?_
     refine ol_r (r_move rfl) rfl ?_
     refine ol_ixr hl rfl rfl sl22 (by omega) rfl fun x13 hx13 => ?_
     try simp only [Int.toNat_natCast] at hx13
     refine ol_r (r_ldw rfl (fun w1 hb1 hs1 hB1 => show Loads _ _ _ _ (.int .i64 x13) from Rd.loads hl ty3 hx13 hb1)) rfl ?_
     refine ol_r (r_assign rfl) rfl ?_
     refine ol_r (r_assign rfl) rfl ?_
     refine ol_nil (to_k0 (fun _ _ h => h) (hK11 _ _ _ _ _ ?_))
     clear hK11
     refine wp_seq' fun K12 hK12 => ?_
     refine wp_seq' fun K13 hK13 => ?_
     refine wp_reg ?_
     refine ol_r (r_move rfl) rfl ?_
     refine ol_r (r_lss rfl rfl) rfl ?_
     refine ol_r (r_move rfl) rfl ?_
     refine ol_split (d := 17) rfl (fun hs17 => ?_) (fun hs17 => ?_)
     ·have phs17 := hs17; try simp only [decide_eq_true_eq, decide_eq_false_iff_not, Bool.not_eq_true', Bool.not_eq_false', Bool.not_true, Bool.not_false] at phs17
      refine ol_s rfl rfl hs17 rfl ?_
      refine ol_s rfl rfl hs17 rfl ?_
      refine ol_r (r_pickT rfl hs17 rfl) rfl ?_
      refine ol_nil (to_k0 (fun _ _ h => h) (hK13 _ _ _ _ _ ?_))
      clear hK13
      refine wp_condT rfl ?_
      refine wp_seq' fun K14 hK14 => ?_
      refine wp_reg ?_
      refine ol_r (r_assign rfl) rfl ?_
      refine ol_nil (to_k0 (fun _ _ h => h) (hK14 _ _ _ _ _ ?_))
      clear hK14
      refine hQ.ret (rvs1 (rv_t rfl)) (fun _ _ h => h) fun w hb hs hB hkd => ?_
      first
        | (refine ⟨by rw [show zonesC xs = 3 from if_pos (by omega)], hb⟩; done)
        | (rw [show zonesC xs = risR 0 1000000000 xs from if_neg (by omega)]
           first
             | (refine ⟨by rw [chkG_end hP (by omega)], hb⟩; done)
             | (refine ⟨by rw [chkG_bad hP hx13 (inB_not.2 (by omega))], hb⟩; done)
             | (refine ⟨by rw [chkG_ord hP hx13 (inB_iff.2 (by omega)) phs23 hx28 (by simpa using hc31)], hb⟩; done))
     ·have phs17 := hs17; try simp only [decide_eq_true_eq, decide_eq_false_iff_not, Bool.not_eq_true', Bool.not_eq_false', Bool.not_true, Bool.not_false] at phs17
      refine ol_g rfl rfl hs17 ?_
      refine ol_r (r_move rfl) rfl ?_
      refine ol_g rfl rfl hs17 ?_
      refine ol_r (r_gtr rfl rfl) rfl ?_
      refine ol_r (r_pickF rfl hs17 rfl) rfl ?_
      refine ol_nil (to_k0 (fun _ _ h => h) (hK13 _ _ _ _ _ ?_))
      clear hK13
      first | refine wp_condD rfl (fun hc20 => ?_) (fun hc20 => ?_) | refine wp_condN rfl (fun hc20 => ?_) (fun hc20 => ?_) | refine wp_condNB rfl (fun hc20 => ?_) (fun hc20 => ?_) | refine wp_cond' rfl (fun hc20 => ?_) (fun hc20 => ?_)
      ·refine wp_seq' fun K15 hK15 => ?_
       refine wp_reg ?_
       refine ol_r (r_assign rfl) rfl ?_
       refine ol_nil (to_k0 (fun _ _ h => h) (hK15 _ _ _ _ _ ?_))
       clear hK15
       refine hQ.ret (rvs1 (rv_t rfl)) (fun _ _ h => h) fun w hb hs hB hkd => ?_
       first
         | (refine ⟨by rw [show zonesC xs = 3 from if_pos (by omega)], hb⟩; done)
         | (rw [show zonesC xs = risR 0 1000000000 xs from if_neg (by omega)]
            first
              | (refine ⟨by rw [chkG_end hP (by omega)], hb⟩; done)
              | (refine ⟨by rw [chkG_bad hP hx13 (inB_not.2 (by omega))], hb⟩; done)
              | (refine ⟨by rw [chkG_ord hP hx13 (inB_iff.2 (by omega)) phs23 hx28 (by simpa using hc31)], hb⟩; done))
      ·refine wp_skip' (to_k0 (fun _ _ h => h) (hK12 _ _ _ _ _ ?_))
       clear hK12
       refine wp_seq' fun K16 hK16 => ?_
       refine wp_reg ?_
       refine ol_r (r_move rfl) rfl ?_
       refine ol_r (r_gtr rfl rfl) rfl ?_
       refine ol_r (r_move rfl) rfl ?_
       refine ol_split (d := 23) rfl (fun hs23 => ?_) (fun hs23 => ?_)
       ·have phs23 := hs23; try simp only [decide_eq_true_eq, decide_eq_false_iff_not, Bool.not_eq_true', Bool.not_eq_false', Bool.not_true, Bool.not_false] at phs23
        refine ol_g rfl rfl hs23 ?_
        refine ol_r (r_move rfl) rfl ?_
        refine ol_g rfl rfl hs23 ?_
        refine ol_r (r_move rfl) rfl ?_
        refine ol_g rfl rfl hs23 ?_
        refine ol_r (r_move rfl) rfl ?_
        refine ol_g rfl rfl hs23 ?_
        refine ol_r (r_sub rfl rfl (by omega)) rfl ?_
        refine ol_g rfl rfl hs23 ?_
        refine ol_ixr hl rfl rfl sl22 (by omega) rfl fun x28 hx28 => ?_
        try simp only [Int.toNat_natCast] at hx28
        refine ol_g rfl rfl hs23 ?_
        refine ol_r (r_ldw rfl (fun w1 hb1 hs1 hB1 => show Loads _ _ _ _ (.int .i64 x28) from Rd.loads hl ty3 hx28 hb1)) rfl ?_
        refine ol_g rfl rfl hs23 ?_
        refine ol_r (r_leq rfl rfl) rfl ?_
        refine ol_r (r_pickT rfl hs23 rfl) rfl ?_
        refine ol_nil (to_k0 (fun _ _ h => h) (hK16 _ _ _ _ _ ?_))
        clear hK16
        first | refine wp_condD rfl (fun hc31 => ?_) (fun hc31 => ?_) | refine wp_condN rfl (fun hc31 => ?_) (fun hc31 => ?_) | refine wp_condNB rfl (fun hc31 => ?_) (fun hc31 => ?_) | refine wp_cond' rfl (fun hc31 => ?_) (fun hc31 => ?_)
        ·refine wp_seq' fun K17 hK17 => ?_
         refine wp_reg ?_
         refine ol_r (r_assign rfl) rfl ?_
         refine ol_nil (to_k0 (fun _ _ h => h) (hK17 _ _ _ _ _ ?_))
         clear hK17
         refine hQ.ret (rvs1 (rv_t rfl)) (fun _ _ h => h) fun w hb hs hB hkd => ?_
         first
           | (refine ⟨by rw [show zonesC xs = 3 from if_pos (by omega)], hb⟩; done)
           | (rw [show zonesC xs = risR 0 1000000000 xs from if_neg (by omega)]
              first
                | (refine ⟨by rw [chkG_end hP (by omega)], hb⟩; done)
                | (refine ⟨by rw [chkG_bad hP hx13 (inB_not.2 (by omega))], hb⟩; done)
                | (refine ⟨by rw [chkG_ord hP hx13 (inB_iff.2 (by omega)) phs23 hx28 (by simpa using hc31)], hb⟩; done))
        ·refine wp_skip' (to_k0 (fun _ _ h => h) (hK10 _ _ _ _ _ ?_))
         clear hK10
         refine wp_reg ?_
         refine ol_r (r_add rfl rfl (by omega)) rfl ?_
         refine ol_r (r_move rfl) rfl ?_
         refine ol_nil (to_k0 (fun _ _ h => h) (hK7 (k + 1) _ _ ?_ ?_ (sub_cons rfl sub_nil) (sub_cons rfl (sub_cons rfl (sub_cons rfl sub_nil))) (by exact subH_nil) subH_nil))
         ·try dsimp only
          refine ⟨by omega, ?_⟩
          have hq : inB x13 0 1000000000 = true := inB_iff.2 (by omega)
          first | exact chkG_next hP hx13 hq phs23 hx28 (by simpa using hc31) | exact chkG_next0 hP hx13 hq phs23
         ·try dsimp only
          omega
       ·have phs23 := hs23; try simp only [decide_eq_true_eq, decide_eq_false_iff_not, Bool.not_eq_true', Bool.not_eq_false', Bool.not_true, Bool.not_false] at phs23
        refine ol_s rfl rfl hs23 rfl ?_
        refine ol_s rfl rfl hs23 rfl ?_
        refine ol_s rfl rfl hs23 rfl ?_
        refine ol_s rfl rfl hs23 rfl ?_
        refine ol_s rfl rfl hs23 rfl ?_
        refine ol_s rfl rfl hs23 rfl ?_
        refine ol_s rfl rfl hs23 rfl ?_
        refine ol_r (r_pickF rfl hs23 rfl) rfl ?_
        refine ol_nil (to_k0 (fun _ _ h => h) (hK16 _ _ _ _ _ ?_))
        clear hK16
        refine wp_condF rfl ?_
        refine wp_skip' (to_k0 (fun _ _ h => h) (hK10 _ _ _ _ _ ?_))
        clear hK10
        refine wp_reg ?_
        refine ol_r (r_add rfl rfl (by omega)) rfl ?_
        refine ol_r (r_move rfl) rfl ?_
        refine ol_nil (to_k0 (fun _ _ h => h) (hK7 (k + 1) _ _ ?_ ?_ (sub_cons rfl sub_nil) (sub_cons rfl (sub_cons rfl (sub_cons rfl sub_nil))) (by exact subH_nil) subH_nil))
        ·try dsimp only
         refine ⟨by omega, ?_⟩
         have hq : inB x13 0 1000000000 = true := inB_iff.2 (by omega)
         first | exact chkG_next hP hx13 hq phs23 hx28 (by simpa using hc31) | exact chkG_next0 hP hx13 hq phs23
        ·try dsimp only
         omega
    ·refine wp_exit' (to_k0 (fun _ _ h => h) (hK5 _ _ _ _ _ ?_))
     clear hK5
     refine wp_seq' fun K18 hK18 => ?_
     refine wp_reg ?_
     refine ol_r (r_assign rfl) rfl ?_
     refine ol_nil (to_k0 (fun _ _ h => h) (hK18 _ _ _ _ _ ?_))
     clear hK18
     refine hQ.ret (rvs1 (rv_t rfl)) (fun _ _ h => h) fun w hb hs hB hkd => ?_
     first
       | (refine ⟨by rw [show zonesC xs = 3 from if_pos (by omega)], hb⟩; done)
       | (rw [show zonesC xs = risR 0 1000000000 xs from if_neg (by omega)]
          first
            | (refine ⟨by rw [chkG_end hP (by omega)], hb⟩; done)
            | (refine ⟨by rw [chkG_bad hP hx13 (inB_not.2 (by omega))], hb⟩; done)
            | (refine ⟨by rw [chkG_ord hP hx13 (inB_iff.2 (by omega)) phs23 hx28 (by simpa using hc31)], hb⟩; done))
theorem effort_CheckSizes (a : Option Addr) (n cap : Nat) (xs : List Int) (w : World) (hl : Rd encI w.heap.size w a n cap xs) :
    Calls Try.prog 33 #[.slice a n cap] w fun e w' => e = .returned (.int .i64 (sizesC xs)) ∧ Below w.heap.size w w' := by
  have hn := hl.len
  subst hn
  refine enterQ (N := 13) (C := fun _ => True) (H := []) (B := w.heap.size) (args := [_]) Try.func33 rfl rfl rfl (Nat.le_refl _) (Sat.nil _ _) fun Q hQ => ?_
  refine wp_seq' fun K1 hK1 => ?_
  refine wp_reg ?_
  refine ol_r (r_assign rfl) rfl ?_
  refine ol_nil (to_k0 (fun _ _ h => h) (hK1 _ _ _ _ _ ?_))
  clear hK1
  refine wp_seq' fun K2 hK2 => ?_
  refine wp_block' ?_
  refine wp_seq' fun K3 hK3 => ?_
  refine wp_reg ?_
  refine ol_r (r_move rfl) rfl ?_
  refine ol_r (r_len rfl sl22) rfl ?_
  refine ol_r (r_eql rfl rfl) rfl ?_
  refine ol_r (r_assign rfl) rfl ?_
  refine ol_nil (to_k0 (fun _ _ h => h) (hK3 _ _ _ _ _ ?_))
  clear hK3
  first | refine wp_condD rfl (fun hc3 => ?_) (fun hc3 => ?_) | refine wp_condN rfl (fun hc3 => ?_) (fun hc3 => ?_) | refine wp_condNB rfl (fun hc3 => ?_) (fun hc3 => ?_) | refine wp_cond' rfl (fun hc3 => ?_) (fun hc3 => ?_)
  ·refine wp_seq' fun K4 hK4 => ?_
   refine wp_reg ?_
   refine ol_r (r_assign rfl) rfl ?_
   refine ol_nil (to_k0 (fun _ _ h => h) (hK4 _ _ _ _ _ ?_))
   clear hK4
   refine hQ.ret (rvs1 (rv_t rfl)) (fun _ _ h => h) fun w hb hs hB hkd => ?_
   first
     | (refine ⟨by rw [show sizesC xs = 13 from if_pos (by omega)], hb⟩; done)
     | (refine ⟨by unfold sizesC; rw [if_neg (by omega), if_pos (by omega)], hb⟩; done)
     | (refine ⟨by unfold sizesC; rw [if_neg (by omega), if_neg (by omega)], hb⟩; done)
  ·refine wp_seq' fun K5 hK5 => ?_
   refine wp_reg ?_
   refine ol_r (r_move rfl) rfl ?_
   refine ol_r (r_len rfl sl22) rfl ?_
   refine ol_r (r_gtr rfl rfl) rfl ?_
   refine ol_r (r_assign rfl) rfl ?_
   refine ol_nil (to_k0 (fun _ _ h => h) (hK5 _ _ _ _ _ ?_))
   clear hK5
   first | refine wp_condD rfl (fun hc7 => ?_) (fun hc7 => ?_) | refine wp_condN rfl (fun hc7 => ?_) (fun hc7 => ?_) | refine wp_condNB rfl (fun hc7 => ?_) (fun hc7 => ?_) | refine wp_cond' rfl (fun hc7 => ?_) (fun hc7 => ?_)
   ·refine wp_seq' fun K6 hK6 => ?_
    refine wp_reg ?_
    refine ol_r (r_assign rfl) rfl ?_
    refine ol_nil (to_k0 (fun _ _ h => h) (hK6 _ _ _ _ _ ?_))
    clear hK6
    refine hQ.ret (rvs1 (rv_t rfl)) (fun _ _ h => h) fun w hb hs hB hkd => ?_
    first
      | (refine ⟨by rw [show sizesC xs = 13 from if_pos (by omega)], hb⟩; done)
      | (refine ⟨by unfold sizesC; rw [if_neg (by omega), if_pos (by omega)], hb⟩; done)
      | (refine ⟨by unfold sizesC; rw [if_neg (by omega), if_neg (by omega)], hb⟩; done)
   ·refine wp_skip' (to_k0 (fun _ _ h => h) (hK2 _ _ _ _ _ ?_))
    clear hK2
    refine wp_seq' fun K7 hK7 => ?_
    refine wp_reg ?_
    refine ol_r (r_move rfl) rfl ?_
    refine ol_call rfl rfl cb76 rfl (fun w1 hb1 hs1 hB1 => Calls.mono (effort_rising _ _ _ xs _ _ _ (hl.at hb1 hB1)) ?_)
    rintro e w2 ⟨rfl, hb2⟩
    refine After.below rfl hb1 hs1 hB1 hb2 ?_
    clear hb2 hB1 hs1 hb1 w2 w1
    refine ol_r (r_assign rfl) rfl ?_
    refine ol_nil (to_k0 (fun _ _ h => h) (hK7 _ _ _ _ _ ?_))
    clear hK7
    refine hQ.ret (rvs1 (rv_t rfl)) (fun _ _ h => h) fun w hb hs hB hkd => ?_
    first
      | (refine ⟨by rw [show sizesC xs = 13 from if_pos (by omega)], hb⟩; done)
      | (refine ⟨by unfold sizesC; rw [if_neg (by omega), if_pos (by omega)], hb⟩; done)
      | (refine ⟨by unfold sizesC; rw [if_neg (by omega), if_neg (by omega)], hb⟩; done)
theorem ref_CheckSizes (a : Option Addr) (n cap : Nat) (xs : List Int) (w : World) (hl : Rd encI w.heap.size w a n cap xs) :
    Calls Try.prog 34 #[.slice a n cap] w fun e w' => e = .returned (.int .i64 (sizesC xs)) ∧ Below w.heap.size w w' := by
  have hn := hl.len
  have hfit := hl.fit
  subst hn
  refine enterQ (N := 36) (C := fun _ => True) (H := []) (B := w.heap.size) (args := [_]) Try.func34 rfl rfl rfl (Nat.le_refl _) (Sat.nil _ _) fun Q hQ => ?_
  refine wp_seq' fun K1 hK1 => ?_
  refine wp_reg ?_
  refine ol_r (r_assign rfl) rfl ?_
  refine ol_nil (to_k0 (fun _ _ h => h) (hK1 _ _ _ _ _ ?_))
  clear hK1
  refine wp_seq' fun K2 hK2 => ?_
  refine wp_seq' fun K3 hK3 => ?_
  refine wp_reg ?_
  refine ol_r (r_move rfl) rfl ?_
  refine ol_r (r_len rfl sl22) rfl ?_
  refine ol_r (r_eql rfl rfl) rfl ?_
  refine ol_nil (to_k0 (fun _ _ h => h) (hK3 _ _ _ _ _ ?_))
  clear hK3
  first | refine wp_condD rfl (fun hc7 => ?_) (fun hc7 => ?_) | refine wp_condN rfl (fun hc7 => ?_) (fun hc7 => ?_) | refine wp_condNB rfl (fun hc7 => ?_) (fun hc7 => ?_) | refine wp_cond' rfl (fun hc7 => ?_) (fun hc7 => ?_)
  ·refine wp_seq' fun K4 hK4 => ?_
   refine wp_reg ?_
   refine ol_r (r_assign rfl) rfl ?_
   refine ol_nil (to_k0 (fun _ _ h => h) (hK4 _ _ _ _ _ ?_))
   clear hK4
   refine hQ.ret (rvs1 (rv_t rfl)) (fun _ _ h => h) fun w hb hs hB hkd => ?_
   first
     | (refine ⟨by rw [show sizesC xs = 13 from if_pos (by omega)], hb⟩; done)
     | (refine ⟨by unfold sizesC; rw [if_neg (by omega), if_pos (by omega)], hb⟩; done)
     | (rw [show sizesC xs = risR 1 1000000 xs by unfold sizesC; rw [if_neg (by omega), if_neg (by omega)]]
        first
          | (refine ⟨by rw [chkG_end hP (by omega)], hb⟩; done)
          | (refine ⟨by rw [chkG_bad hP hx16 (inB_not.2 (by omega))], hb⟩; done)
          | (refine ⟨by rw [chkG_ord hP hx16 (inB_iff.2 (by omega)) phs26 hx31 (by simpa using hc34)], hb⟩; done))
  ·refine wp_skip' (to_k0 (fun _ _ h => h) (hK2 _ _ _ _ _ ?_))
   clear hK2
   refine wp_seq' fun K5 hK5 => ?_
   refine wp_seq' fun K6 hK6 => ?_
   refine wp_reg ?_
   refine ol_r (r_move rfl) rfl ?_
   refine ol_r (r_len rfl sl22) rfl ?_
   refine ol_r (r_gtr rfl rfl) rfl ?_
   refine ol_nil (to_k0 (fun _ _ h => h) (hK6 _ _ _ _ _ ?_))
   clear hK6
   first | refine wp_condD rfl (fun hc10 => ?_) (fun hc10 => ?_) | refine wp_condN rfl (fun hc10 => ?_) (fun hc10 => ?_) | refine wp_condNB rfl (fun hc10 => ?_) (fun hc10 => ?_) | refine wp_cond' rfl (fun hc10 => ?_) (fun hc10 => ?_)
   ·refine wp_seq' fun K7 hK7 => ?_
    refine wp_reg ?_
    refine ol_r (r_assign rfl) rfl ?_
    refine ol_nil (to_k0 (fun _ _ h => h) (hK7 _ _ _ _ _ ?_))
    clear hK7
    refine hQ.ret (rvs1 (rv_t rfl)) (fun _ _ h => h) fun w hb hs hB hkd => ?_
    first
      | (refine ⟨by rw [show sizesC xs = 13 from if_pos (by omega)], hb⟩; done)
      | (refine ⟨by unfold sizesC; rw [if_neg (by omega), if_pos (by omega)], hb⟩; done)
      | (rw [show sizesC xs = risR 1 1000000 xs by unfold sizesC; rw [if_neg (by omega), if_neg (by omega)]]
         first
           | (refine ⟨by rw [chkG_end hP (by omega)], hb⟩; done)
           | (refine ⟨by rw [chkG_bad hP hx16 (inB_not.2 (by omega))], hb⟩; done)
           | (refine ⟨by rw [chkG_ord hP hx16 (inB_iff.2 (by omega)) phs26 hx31 (by simpa using hc34)], hb⟩; done))
   ·refine wp_skip' (to_k0 (fun _ _ h => h) (hK5 _ _ _ _ _ ?_))
    clear hK5
    refine wp_seq' fun K8 hK8 => ?_
    refine wp_seq' fun K9 hK9 => ?_
    refine wp_reg ?_
    refine ol_r (r_move rfl) rfl ?_
    refine ol_r (r_len rfl sl22) rfl ?_
    refine ol_r (r_move rfl) rfl ?_
    refine ol_nil (to_k0 (fun _ _ h => h) (hK9 _ _ _ _ _ ?_))
    clear hK9
    refine wp_block' ?_
    apply wp_loopM (σ := Nat) (fun s => s ≤ xs.length ∧ risR 1 1000000 xs = chkG (inB · 1 1000000) (fun y x => decide (x ≤ y)) (ahead xs s) (xs.drop s)) (fun s => [(13, .int .i64 s)]) [(0, _), (11, _), (12, _)] (fun s => []) [] (fun s => xs.length - s) (0)
    ·try dsimp only
     exact ⟨Nat.zero_le _, risR_start _ _ _⟩
    ·exact (sub_cons rfl sub_nil)
    ·exact (sub_cons rfl (sub_cons rfl (sub_cons rfl sub_nil)))
    ·exact subH_nil
    ·exact subH_nil
    ·rintro k ⟨hk, hP⟩
     intro K10 hK10
     refine wp_seq' fun K11 hK11 => ?_
     refine wp_reg ?_
     refine ol_r (r_lss rfl rfl) rfl ?_
     refine ol_nil (to_k0 (fun _ _ h => h) (hK11 _ _ _ _ _ ?_))
     clear hK11
     refine wp_seq' fun K12 hK12 => ?_
     first | refine wp_condD rfl (fun hc14 => ?_) (fun hc14 => ?_) | refine wp_condN rfl (fun hc14 => ?_) (fun hc14 => ?_) | refine wp_condNB rfl (fun hc14 => ?_) (fun hc14 => ?_) | refine wp_cond' rfl (fun hc14 => ?_) (fun hc14 => ?_)
     ·refine wp_skip' (to_k0 (fun _ _ h => h) (hK12 _ _ _ _ _ ?_))
      clear hK12
      refine wp_seq' fun K13 hK13 => ?_
      refine wp_block' ?_
      refine wp_seq' fun K14 hK14 => ?_
      refine wp_reg ?_
      refine ol_r (r_move rfl) rfl ?_
      refine ol_ixr hl rfl rfl sl22 (by omega) rfl fun x16 hx16 => ?_
      try simp only [Int.toNat_natCast] at hx16
      refine ol_r (r_ldw rfl (fun w1 hb1 hs1 hB1 => show Loads _ _ _ _ (.int .i64 x16) from Rd.loads hl ty3 hx16 hb1)) rfl ?_
      refine ol_r (r_assign rfl) rfl ?_
      refine ol_r (r_assign rfl) rfl ?_
      refine ol_nil (to_k0 (fun _ _ h => h) (hK14 _ _ _ _ _ ?_))
      clear hK14
      refine wp_seq' fun K15 hK15 => ?_
      refine wp_seq' fun K16 hK16 => ?_
      refine wp_reg ?_
      refine ol_r (r_move rfl) rfl ?_
      refine ol_r (r_lss rfl rfl) rfl ?_
      refine ol_r (r_move rfl) rfl ?_
      refine ol_split (d := 20) rfl (fun hs20 => ?_) (fun hs20 => ?_)
      ·have phs20 := hs20; try simp only [decide_eq_true_eq, decide_eq_false_iff_not, Bool.not_eq_true', Bool.not_eq_false', Bool.not_true, Bool.not_false] at phs20
       refine ol_s rfl rfl hs20 rfl ?_
       refine ol_s rfl rfl hs20 rfl ?_
       refine ol_r (r_pickT rfl hs20 rfl) rfl ?_
       refine ol_nil (to_k0 (fun _ _ h => h) (hK16 _ _ _ _ _ ?_))
       clear hK16
       refine wp_condT rfl ?_
       refine wp_seq' fun K17 hK17 => ?_
       refine wp_reg ?_
       refine ol_r (r_assign rfl) rfl ?_
       refine ol_nil (to_k0 (fun _ _ h => h) (hK17 _ _ _ _ _ ?_))
       clear hK17
       refine hQ.ret (rvs1 (rv_t rfl)) (fun _ _ h => h) fun w hb hs hB hkd => ?_
       first
         | (refine ⟨by rw [show sizesC xs = 13 from if_pos (by omega)], hb⟩; done)
         | (refine ⟨by unfold sizesC; rw [if_neg (by omega), if_pos (by omega)], hb⟩; done)
         | (rw [show sizesC xs = risR 1 1000000 xs by unfold sizesC; rw [if_neg (by omega), if_neg (by omega)]]
            first
              | (refine ⟨by rw [chkG_end hP (by omega)], hb⟩; done)
              | (refine ⟨by rw [chkG_bad hP hx16 (inB_not.2 (by omega))], hb⟩; done)
              | (refine ⟨by rw [chkG_ord hP hx16 (inB_iff.2 (by omega)) phs26 hx31 (by simpa using hc34)], hb⟩; done))
      ·have phs20 := hs20; try simp only [decide_eq_true_eq, decide_eq_false_iff_not, Bool.not_eq_true', Bool.not_eq_false', Bool.not_true, Bool.not_false] at phs20
       refine ol_g rfl rfl hs20 ?_
       refine ol_r (r_move rfl) rfl ?_
       refine ol_g rfl rfl hs20 ?_
       refine ol_r (r_gtr rfl rfl) rfl ?_
       refine ol_r (r_pickF rfl hs20 rfl) rfl ?_
       refine ol_nil (to_k0 (fun _ _ h => h) (hK16 _ _ _ _ _ ?_))
       clear hK16
       first | refine wp_condD rfl (fun hc23 => ?_) (fun hc23 => ?_) | refine wp_condN rfl (fun hc23 => ?_) (fun hc23 => ?_) | refine wp_condNB rfl (fun hc23 => ?_) (fun hc23 => ?_) | refine wp_cond' rfl (fun hc23 => ?_) (fun hc23 => ?_)
       ·refine wp_seq' fun K18 hK18 => ?_
        refine wp_reg ?_
        refine ol_r (r_assign rfl) rfl ?_
        refine ol_nil (to_k0 (fun _ _ h => h) (hK18 _ _ _ _ _ ?_))
        clear hK18
        refine hQ.ret (rvs1 (rv_t rfl)) (fun _ _ h => h) fun w hb hs hB hkd => ?_
        first
          | (refine ⟨by rw [show sizesC xs = 13 from if_pos (by omega)], hb⟩; done)
          | (refine ⟨by unfold sizesC; rw [if_neg (by omega), if_pos (by omega)], hb⟩; done)
          | (rw [show sizesC xs = risR 1 1000000 xs by unfold sizesC; rw [if_neg (by omega), if_neg (by omega)]]
             first
               | (refine ⟨by rw [chkG_end hP (by omega)], hb⟩; done)
               | (refine ⟨by rw [chkG_bad hP hx16 (inB_not.2 (by omega))], hb⟩; done)
               | (refine ⟨by rw [chkG_ord hP hx16 (inB_iff.2 (by omega)) phs26 hx31 (by simpa using hc34)], hb⟩; done))
       ·refine wp_skip' (to_k0 (fun _ _ h => h) (hK15 _ _ _ _ _ ?_))
        clear hK15
        refine wp_seq' fun K19 hK19 => ?_
        refine wp_reg ?_
        refine ol_r (r_move rfl) rfl ?_
        refine ol_r (r_gtr rfl rfl) rfl ?_
        refine ol_r (r_move rfl) rfl ?_
        refine ol_split (d := 26) rfl (fun hs26 => ?_) (fun hs26 => ?_)
        ·have phs26 := hs26; try simp only [decide_eq_true_eq, decide_eq_false_iff_not, Bool.not_eq_true', Bool.not_eq_false', Bool.not_true, Bool.not_false] at phs26
         refine ol_g rfl rfl hs26 ?_
         refine ol_r (r_move rfl) rfl ?_
         refine ol_g rfl rfl hs26 ?_
         refine ol_r (r_move rfl) rfl ?_
         refine ol_g rfl rfl hs26 ?_
         refine ol_r (r_move rfl) rfl ?_
         refine ol_g rfl rfl hs26 ?_
         refine ol_r (r_sub rfl rfl (by omega)) rfl ?_
         refine ol_g rfl rfl hs26 ?_
         refine ol_ixr hl rfl rfl sl22 (by omega) rfl fun x31 hx31 => ?_
         try simp only [Int.toNat_natCast] at hx31
         refine ol_g rfl rfl hs26 ?_
         refine ol_r (r_ldw rfl (fun w1 hb1 hs1 hB1 => show Loads _ _ _ _ (.int .i64 x31) from Rd.loads hl ty3 hx31 hb1)) rfl ?_
         refine ol_g rfl rfl hs26 ?_
         refine ol_r (r_leq rfl rfl) rfl ?_
         refine ol_r (r_pickT rfl hs26 rfl) rfl ?_
         refine ol_nil (to_k0 (fun _ _ h => h) (hK19 _ _ _ _ _ ?_))
         clear hK19
         first | refine wp_condD rfl (fun hc34 => ?_) (fun hc34 => ?_) | refine wp_condN rfl (fun hc34 => ?_) (fun hc34 => ?_) | refine wp_condNB rfl (fun hc34 => ?_) (fun hc34 => ?_) | refine wp_cond' rfl (fun hc34 => ?_) (fun hc34 => ?_)
         ·refine wp_seq' fun K20 hK20 => ?_
          refine wp_reg ?_
          refine ol_r (r_assign rfl) rfl ?_
          refine ol_nil (to_k0 (fun _ _ h => h) (hK20 _ _ _ _ _ ?_))
          clear hK20
          refine hQ.ret (rvs1 (rv_t rfl)) (fun _ _ h => h) fun w hb hs hB hkd => ?_
          first
            | (refine ⟨by rw [show sizesC xs = 13 from if_pos (by omega)], hb⟩; done)
            | (refine ⟨by unfold sizesC; rw [if_neg (by omega), if_pos (by omega)], hb⟩; done)
            | (rw [show sizesC xs = risR 1 1000000 xs by unfold sizesC; rw [if_neg (by omega), if_neg (by omega)]]
               first
                 | (refine ⟨by rw [chkG_end hP (by omega)], hb⟩; done)
                 | (refine ⟨by rw [chkG_bad hP hx16 (inB_not.2 (by omega))], hb⟩; done)
                 | (refine ⟨by rw [chkG_ord hP hx16 (inB_iff.2 (by omega)) phs26 hx31 (by simpa using hc34)], hb⟩; done))
         ·refine wp_skip' (to_k0 (fun _ _ h => h) (hK13 _ _ _ _ _ ?_))
          clear hK13
          refine wp_reg ?_
          refine ol_r (r_add rfl rfl (by omega)) rfl ?_
          refine ol_r (r_move rfl) rfl ?_
          refine ol_nil (to_k0 (fun _ _ h => h) (hK10 (k + 1) _ _ ?_ ?_ (sub_cons rfl sub_nil) (sub_cons rfl (sub_cons rfl (sub_cons rfl sub_nil))) (by exact subH_nil) subH_nil))
          ·try dsimp only
           refine ⟨by omega, ?_⟩
           have hq : inB x16 1 1000000 = true := inB_iff.2 (by omega)
           first | exact chkG_next hP hx16 hq phs26 hx31 (by simpa using hc34) | exact chkG_next0 hP hx16 hq phs26
          ·try dsimp only
           omega
        ·have phs26 := hs26; try simp only [decide_eq_true_eq, decide_eq_false_iff_not, Bool.not_eq_true', Bool.not_eq_false', Bool.not_true, Bool.not_false] at phs26
         refine ol_s rfl rfl hs26 rfl ?_
         refine ol_s rfl rfl hs26 rfl ?_
         refine ol_s rfl rfl hs26 rfl ?_
         refine ol_s rfl rfl hs26 rfl ?_
         refine ol_s rfl rfl hs26 rfl ?_
         refine ol_s rfl rfl hs26 rfl ?_
         refine ol_s rfl rfl hs26 rfl ?_
         refine ol_r (r_pickF rfl hs26 rfl) rfl ?_
         refine ol_nil (to_k0 (fun _ _ h => h) (hK19 _ _ _ _ _ ?_))
         clear hK19
         refine wp_condF rfl ?_
         refine wp_skip' (to_k0 (fun _ _ h => h) (hK13 _ _ _ _ _ ?_))
         clear hK13
         refine wp_reg ?_
         refine ol_r (r_add rfl rfl (by omega)) rfl ?_
         refine ol_r (r_move rfl) rfl ?_
         refine ol_nil (to_k0 (fun _ _ h => h) (hK10 (k + 1) _ _ ?_ ?_ (sub_cons rfl sub_nil) (sub_cons rfl (sub_cons rfl (sub_cons rfl sub_nil))) (by exact subH_nil) subH_nil))
         ·try dsimp only
          refine ⟨by omega, ?_⟩
          have hq : inB x16 1 1000000 = true := inB_iff.2 (by omega)
          first | exact chkG_next hP hx16 hq phs26 hx31 (by simpa using hc34) | exact chkG_next0 hP hx16 hq phs26
         ·try dsimp only
          omega
     ·refine wp_exit' (to_k0 (fun _ _ h => h) (hK8 _ _ _ _ _ ?_))
      clear hK8
      refine wp_seq' fun K21 hK21 => ?_
      refine wp_reg ?_
      refine ol_r (r_assign rfl) rfl ?_
      refine ol_nil (to_k0 (fun _ _ h => h) (hK21 _ _ _ _ _ ?_))
      clear hK21
      refine hQ.ret (rvs1 (rv_t rfl)) (fun _ _ h => h) fun w hb hs hB hkd => ?_
      first
        | (refine ⟨by rw [show sizesC xs = 13 from if_pos (by omega)], hb⟩; done)
        | (refine ⟨by unfold sizesC; rw [if_neg (by omega), if_pos (by omega)], hb⟩; done)
        | (rw [show sizesC xs = risR 1 1000000 xs by unfold sizesC; rw [if_neg (by omega), if_neg (by omega)]]
           first
             | (refine ⟨by rw [chkG_end hP (by omega)], hb⟩; done)
             | (refine ⟨by rw [chkG_bad hP hx16 (inB_not.2 (by omega))], hb⟩; done)
             | (refine ⟨by rw [chkG_ord hP hx16 (inB_iff.2 (by omega)) phs26 hx31 (by simpa using hc34)], hb⟩; done))
/-! #### cmp.Or, slices.BinarySearch -/
def orR : List Int → Int
  | [] => 0
  | x :: r => if x ≠ 0 then x else orR r
theorem cmp_Or (a : Option Addr) (n cap : Nat) (xs : List Int) (w : World) (hl : Rd encI w.heap.size w a n cap xs) :
    Calls Try.prog 74 #[.slice a n cap] w fun e w' => e = .returned (.int .i64 (orR xs)) ∧ Below w.heap.size w w' := by
  have hn := hl.len
  have hfit := hl.fit
  subst hn
  refine enterQ (N := 18) (C := fun _ => True) (H := []) (B := w.heap.size) (args := [_]) Try.func74 rfl rfl rfl (Nat.le_refl _) (Sat.nil _ _) fun Q hQ => ?_
  refine wp_seq' fun K1 hK1 => ?_
  refine wp_reg ?_
  refine ol_r (r_assign rfl) rfl ?_
  refine ol_nil (to_k0 (fun _ _ h => h) (hK1 _ _ _ _ _ ?_))
  clear hK1
  refine wp_seq' fun K2 hK2 => ?_
  refine wp_reg ?_
  refine ol_r (r_assign rfl) rfl ?_
  refine ol_nil (to_k0 (fun _ _ h => h) (hK2 _ _ _ _ _ ?_))
  clear hK2
  refine wp_seq' fun K3 hK3 => ?_
  refine wp_seq' fun K4 hK4 => ?_
  refine wp_reg ?_
  refine ol_r (r_move rfl) rfl ?_
  refine ol_r (r_len rfl sl143) rfl ?_
  refine ol_r (r_move rfl) rfl ?_
  refine ol_nil (to_k0 (fun _ _ h => h) (hK4 _ _ _ _ _ ?_))
  clear hK4
  refine wp_block' ?_
  apply wp_loopM (σ := Nat) (fun s => s ≤ xs.length ∧ orR xs = orR (xs.drop s)) (fun s => [(8, .int .i64 s)]) [(3, _), (6, _), (7, _)] (fun s => []) [] (fun s => xs.length - s) (0)
  ·try dsimp only
   exact ⟨Nat.zero_le _, rfl⟩
  ·exact (sub_cons rfl sub_nil)
  ·exact (sub_cons rfl (sub_cons rfl (sub_cons rfl sub_nil)))
  ·exact subH_nil
  ·exact subH_nil
  ·rintro k ⟨hk, hP⟩
   intro K5 hK5
   refine wp_seq' fun K6 hK6 => ?_
   refine wp_reg ?_
   refine ol_r (r_lss rfl rfl) rfl ?_
   refine ol_nil (to_k0 (fun _ _ h => h) (hK6 _ _ _ _ _ ?_))
   clear hK6
   refine wp_seq' fun K7 hK7 => ?_
   first | refine wp_condD rfl (fun hc9 => ?_) (fun hc9 => ?_) | refine wp_condN rfl (fun hc9 => ?_) (fun hc9 => ?_) | refine wp_condNB rfl (fun hc9 => ?_) (fun hc9 => ?_) | refine wp_cond' rfl (fun hc9 => ?_) (fun hc9 => ?_)
   ·refine wp_skip' (to_k0 (fun _ _ h => h) (hK7 _ _ _ _ _ ?_))
    clear hK7
    refine wp_seq' fun K8 hK8 => ?_
    refine wp_block' ?_
    refine wp_seq' fun K9 hK9 => ?_
    refine wp_reg ?_
    refine ol_ixr hl rfl rfl sl143 (by omega) rfl fun x10 hx10 => ?_
    try simp only [Int.toNat_natCast] at hx10
    refine ol_r (r_ldw rfl (fun w1 hb1 hs1 hB1 => show Loads _ _ _ _ (.int .i64 x10) from Rd.loads hl ty25 hx10 hb1)) rfl ?_
    refine ol_r (r_assign rfl) rfl ?_
    refine ol_nil (to_k0 (fun _ _ h => h) (hK9 _ _ _ _ _ ?_))
    clear hK9
    refine wp_seq' fun K10 hK10 => ?_
    refine wp_reg ?_
    refine ol_r (r_move rfl) rfl ?_
    refine ol_r (r_move rfl) rfl ?_
    refine ol_r (r_neq rfl rfl) rfl ?_
    refine ol_nil (to_k0 (fun _ _ h => h) (hK10 _ _ _ _ _ ?_))
    clear hK10
    first | refine wp_condD rfl (fun hc14 => ?_) (fun hc14 => ?_) | refine wp_condN rfl (fun hc14 => ?_) (fun hc14 => ?_) | refine wp_condNB rfl (fun hc14 => ?_) (fun hc14 => ?_) | refine wp_cond' rfl (fun hc14 => ?_) (fun hc14 => ?_)
    ·refine wp_seq' fun K11 hK11 => ?_
     refine wp_reg ?_
     refine ol_r (r_move rfl) rfl ?_
     refine ol_r (r_assign rfl) rfl ?_
     refine ol_nil (to_k0 (fun _ _ h => h) (hK11 _ _ _ _ _ ?_))
     clear hK11
     refine hQ.ret (rvs1 (rv_t rfl)) (fun _ _ h => h) fun w hb hs hB hkd => ?_
     first
       | (refine ⟨by rw [hP, List.drop_eq_nil_of_le (by omega)]; rfl, hb⟩; done)
       | (refine ⟨by rw [hP, drop_cons_get hx10, show orR (x10 :: xs.drop (k + 1)) = x10 from if_pos hc14], hb⟩; done)
    ·refine wp_skip' (to_k0 (fun _ _ h => h) (hK8 _ _ _ _ _ ?_))
     clear hK8
     refine wp_reg ?_
     refine ol_r (r_add rfl rfl (by omega)) rfl ?_
     refine ol_r (r_move rfl) rfl ?_
     refine ol_nil (to_k0 (fun _ _ h => h) (hK5 (k + 1) _ _ ?_ ?_ (sub_cons rfl sub_nil) (sub_cons rfl (sub_cons rfl (sub_cons rfl sub_nil))) (by exact subH_nil) subH_nil))
     ·try dsimp only
      refine ⟨by omega, ?_⟩
      rw [hP, drop_cons_get hx10]
      exact if_neg hc14
     ·try dsimp only
      omega
   ·refine wp_exit' (to_k0 (fun _ _ h => h) (hK3 _ _ _ _ _ ?_))
    clear hK3
    refine wp_seq' fun K12 hK12 => ?_
    refine wp_reg ?_
    refine ol_r (r_move rfl) rfl ?_
    refine ol_r (r_assign rfl) rfl ?_
    refine ol_nil (to_k0 (fun _ _ h => h) (hK12 _ _ _ _ _ ?_))
    clear hK12
    refine hQ.ret (rvs1 (rv_t rfl)) (fun _ _ h => h) fun w hb hs hB hkd => ?_
    first
      | (refine ⟨by rw [hP, List.drop_eq_nil_of_le (by omega)]; rfl, hb⟩; done)
      | (refine ⟨by rw [hP, drop_cons_get hx10, show orR (x10 :: xs.drop (k + 1)) = x10 from if_pos hc14], hb⟩; done)
theorem cmp_isNaN (x : Int) (w : World) : Calls Try.prog 131 #[.int .i64 x] w fun e w' => e = .returned (.bool false) ∧ Below w.heap.size w w' := by
  refine enterQ (N := 6) (C := fun _ => True) (H := []) (B := w.heap.size) (args := [_]) Try.func131 rfl rfl rfl (Nat.le_refl _) (Sat.nil _ _) fun Q hQ => ?_
  refine wp_seq' fun K1 hK1 => ?_
  refine wp_reg ?_
  refine ol_r (r_assign rfl) rfl ?_
  refine ol_nil (to_k0 (fun _ _ h => h) (hK1 _ _ _ _ _ ?_))
  clear hK1
  refine wp_seq' fun K2 hK2 => ?_
  refine wp_reg ?_
  refine ol_r (r_move rfl) rfl ?_
  refine ol_r (r_move rfl) rfl ?_
  refine ol_r (r_neq rfl rfl) rfl ?_
  refine ol_r (r_assign rfl) rfl ?_
  refine ol_nil (to_k0 (fun _ _ h => h) (hK2 _ _ _ _ _ ?_))
  clear hK2
  refine hQ.ret (rvs1 (rv_t rfl)) (fun _ _ h => h) fun w hb hs hB hkd => ?_
  exact ⟨by simp, hb⟩
theorem slices_isNaN (x : Int) (w : World) : Calls Try.prog 115 #[.int .i64 x] w fun e w' => e = .returned (.bool false) ∧ Below w.heap.size w w' := by
  refine enterQ (N := 6) (C := fun _ => True) (H := []) (B := w.heap.size) (args := [_]) Try.func115 rfl rfl rfl (Nat.le_refl _) (Sat.nil _ _) fun Q hQ => ?_
  refine wp_seq' fun K1 hK1 => ?_
  refine wp_reg ?_
  refine ol_r (r_assign rfl) rfl ?_
  refine ol_nil (to_k0 (fun _ _ h => h) (hK1 _ _ _ _ _ ?_))
  clear hK1
  refine wp_seq' fun K2 hK2 => ?_
  refine wp_reg ?_
  refine ol_r (r_move rfl) rfl ?_
  refine ol_r (r_move rfl) rfl ?_
  refine ol_r (r_neq rfl rfl) rfl ?_
  refine ol_r (r_assign rfl) rfl ?_
  refine ol_nil (to_k0 (fun _ _ h => h) (hK2 _ _ _ _ _ ?_))
  clear hK2
  refine hQ.ret (rvs1 (rv_t rfl)) (fun _ _ h => h) fun w hb hs hB hkd => ?_
  exact ⟨by simp, hb⟩
theorem cmp_Less (x y : Int) (w : World) : Calls Try.prog 114 #[.int .i64 x, .int .i64 y] w fun e w' => e = .returned (.bool (decide (x < y))) ∧ Below w.heap.size w w' := by
  refine enterQ (N := 17) (C := fun _ => True) (H := []) (B := w.heap.size) (args := [_, _]) Try.func114 rfl rfl rfl (Nat.le_refl _) (Sat.nil _ _) fun Q hQ => ?_
  refine wp_seq' fun K1 hK1 => ?_
  refine wp_reg ?_
  refine ol_r (r_assign rfl) rfl ?_
  refine ol_nil (to_k0 (fun _ _ h => h) (hK1 _ _ _ _ _ ?_))
  clear hK1
  refine wp_seq' fun K2 hK2 => ?_
  refine wp_reg ?_
  refine ol_r (r_move rfl) rfl ?_
  refine ol_call rfl rfl cb131 rfl (fun w1 hb1 hs1 hB1 => Calls.mono (cmp_isNaN _ _) ?_)
  rintro e w2 ⟨rfl, hb2⟩
  refine After.below rfl hb1 hs1 hB1 hb2 ?_
  clear hb2 hB1 hs1 hb1 w2 w1
  refine ol_r (r_move rfl) rfl ?_
  refine ol_split (d := 7) rfl (fun hs7 => ?_) (fun hs7 => ?_)
  ·have phs7 := hs7; try simp only [decide_eq_true_eq, decide_eq_false_iff_not, Bool.not_eq_true', Bool.not_eq_false', Bool.not_true, Bool.not_false] at phs7
   refine ol_g rfl rfl hs7 ?_
   refine ol_r (r_move rfl) rfl ?_
   refine ol_g rfl rfl hs7 ?_
   refine ol_call rfl rfl cb131 rfl (fun w1 hb1 hs1 hB1 => Calls.mono (cmp_isNaN _ _) ?_)
   rintro e w2 ⟨rfl, hb2⟩
   refine After.below rfl hb1 hs1 hB1 hb2 ?_
   clear hb2 hB1 hs1 hb1 w2 w1
   refine ol_g rfl rfl hs7 ?_
   refine ol_r (r_not rfl) rfl ?_
   refine ol_r (r_pickT rfl hs7 rfl) rfl ?_
   refine ol_r (r_move rfl) rfl ?_
   refine ol_split (d := 12) rfl (fun hs12 => ?_) (fun hs12 => ?_)
   ·have phs12 := hs12; try simp only [decide_eq_true_eq, decide_eq_false_iff_not, Bool.not_eq_true', Bool.not_eq_false', Bool.not_true, Bool.not_false] at phs12
    refine ol_s rfl rfl hs12 rfl ?_
    refine ol_s rfl rfl hs12 rfl ?_
    refine ol_s rfl rfl hs12 rfl ?_
    refine ol_r (r_pickT rfl hs12 rfl) rfl ?_
    refine ol_r (r_assign rfl) rfl ?_
    refine ol_nil (to_k0 (fun _ _ h => h) (hK2 _ _ _ _ _ ?_))
    clear hK2
    refine hQ.ret (rvs1 (rv_t rfl)) (fun _ _ h => h) fun w hb hs hB hkd => ?_
    first
      | exact ⟨rfl, hb⟩
      | (exfalso; simp_all; done)
   ·have phs12 := hs12; try simp only [decide_eq_true_eq, decide_eq_false_iff_not, Bool.not_eq_true', Bool.not_eq_false', Bool.not_true, Bool.not_false] at phs12
    refine ol_g rfl rfl hs12 ?_
    refine ol_r (r_move rfl) rfl ?_
    refine ol_g rfl rfl hs12 ?_
    refine ol_r (r_move rfl) rfl ?_
    refine ol_g rfl rfl hs12 ?_
    refine ol_r (r_lss rfl rfl) rfl ?_
    refine ol_r (r_pickF rfl hs12 rfl) rfl ?_
    refine ol_r (r_assign rfl) rfl ?_
    refine ol_nil (to_k0 (fun _ _ h => h) (hK2 _ _ _ _ _ ?_))
    clear hK2
    refine hQ.ret (rvs1 (rv_t rfl)) (fun _ _ h => h) fun w hb hs hB hkd => ?_
    first
      | exact ⟨rfl, hb⟩
      | (exfalso; simp_all; done)
  ·have phs7 := hs7; try simp only [decide_eq_true_eq, decide_eq_false_iff_not, Bool.not_eq_true', Bool.not_eq_false', Bool.not_true, Bool.not_false] at phs7
   refine ol_s rfl rfl hs7 rfl ?_
   refine ol_s rfl rfl hs7 rfl ?_
   refine ol_s rfl rfl hs7 rfl ?_
   refine ol_r (r_pickF rfl hs7 rfl) rfl ?_
   refine ol_r (r_move rfl) rfl ?_
   refine ol_g rfl rfl rfl ?_
   refine ol_r (r_move rfl) rfl ?_
   refine ol_g rfl rfl rfl ?_
   refine ol_r (r_move rfl) rfl ?_
   refine ol_g rfl rfl rfl ?_
   refine ol_r (r_lss rfl rfl) rfl ?_
   refine ol_r (r_pickF rfl rfl rfl) rfl ?_
   refine ol_r (r_assign rfl) rfl ?_
   refine ol_nil (to_k0 (fun _ _ h => h) (hK2 _ _ _ _ _ ?_))
   clear hK2
   refine hQ.ret (rvs1 (rv_t rfl)) (fun _ _ h => h) fun w hb hs hB hkd => ?_
   first
     | exact ⟨rfl, hb⟩
     | (exfalso; simp_all; done)
theorem binarySearch (a : Option Addr) (n cap : Nat) (xs : List Int) (t : Int) (w : World) (hl : Rd encI w.heap.size w a n cap xs) (hn1 : n ≤ 1000000000000) :
    Calls Try.prog 75 #[.slice a n cap, .int .i64 t] w fun e w' => ∃ (k : Nat) (ok : Bool), Place xs t k ∧ (ok = true ↔ xs[k]? = some t) ∧ e = .returned (.tuple #[.int .i64 k, .bool ok]) ∧ Below w.heap.size w w' := by
  have hn := hl.len
  have hfit := hl.fit
  subst hn
  refine enterQ (N := 54) (C := fun _ => True) (H := []) (B := w.heap.size) (args := [_, _]) Try.func75 rfl rfl rfl (Nat.le_refl _) (Sat.nil _ _) fun Q hQ => ?_
  refine wp_seq' fun K1 hK1 => ?_
  refine wp_reg ?_
  refine ol_r (r_assign rfl) rfl ?_
  refine ol_r (r_assign rfl) rfl ?_
  refine ol_nil (to_k0 (fun _ _ h => h) (hK1 _ _ _ _ _ ?_))
  clear hK1
  refine wp_seq' fun K2 hK2 => ?_
  refine wp_reg ?_
  refine ol_r (r_move rfl) rfl ?_
  refine ol_r (r_len rfl sl22) rfl ?_
  refine ol_r (r_assign rfl) rfl ?_
  refine ol_nil (to_k0 (fun _ _ h => h) (hK2 _ _ _ _ _ ?_))
  clear hK2
  refine wp_seq' fun K3 hK3 => ?_
  refine wp_reg ?_
  refine ol_r (r_move rfl) rfl ?_
  refine ol_r (r_assign rfl) rfl ?_
  refine ol_r (r_assign rfl) rfl ?_
  refine ol_nil (to_k0 (fun _ _ h => h) (hK3 _ _ _ _ _ ?_))
  clear hK3
  refine wp_seq' fun K4 hK4 => ?_
  refine wp_block' ?_
  apply wp_loopM (σ := Int × Int) (fun s => 0 ≤ s.1 ∧ s.1 ≤ s.2 ∧ s.2 ≤ xs.length ∧ (s.1 = 0 ∨ ∃ y, xs[(s.1 - 1).toNat]? = some y ∧ y < t) ∧ (s.2 = xs.length ∨ ∃ y, xs[s.2.toNat]? = some y ∧ t ≤ y)) (fun s => [(7, .int .i64 s.1), (8, .int .i64 s.2)]) [(0, _), (1, _), (4, _), (5, _), (6, _)] (fun s => []) [] (fun s => (s.2 - s.1).toNat) ((0, xs.length))
  ·try dsimp only
   exact ⟨by omega, by omega, by omega, .inl rfl, .inl rfl⟩
  ·exact (sub_cons rfl (sub_cons rfl sub_nil))
  ·exact (sub_cons rfl (sub_cons rfl (sub_cons rfl (sub_cons rfl (sub_cons rfl sub_nil)))))
  ·exact subH_nil
  ·exact subH_nil
  ·rintro ⟨i, j⟩ ⟨h1, h2, h3, h4, h5⟩
   dsimp only at h1 h2 h3 h4 h5 ⊢
   intro K5 hK5
   refine wp_seq' fun K6 hK6 => ?_
   refine wp_seq' fun K7 hK7 => ?_
   refine wp_reg ?_
   refine ol_r (r_move rfl) rfl ?_
   refine ol_r (r_move rfl) rfl ?_
   refine ol_r (r_lss rfl rfl) rfl ?_
   refine ol_nil (to_k0 (fun _ _ h => h) (hK7 _ _ _ _ _ ?_))
   clear hK7
   first | refine wp_condD rfl (fun hc15 => ?_) (fun hc15 => ?_) | refine wp_condN rfl (fun hc15 => ?_) (fun hc15 => ?_) | refine wp_condNB rfl (fun hc15 => ?_) (fun hc15 => ?_) | refine wp_cond' rfl (fun hc15 => ?_) (fun hc15 => ?_)
   ·refine wp_skip' (to_k0 (fun _ _ h => h) (hK6 _ _ _ _ _ ?_))
    clear hK6
    refine wp_block' ?_
    refine wp_seq' fun K8 hK8 => ?_
    refine wp_reg ?_
    refine ol_r (r_move rfl) rfl ?_
    refine ol_r (r_move rfl) rfl ?_
    refine ol_r (r_add rfl rfl (by omega)) rfl ?_
    refine ol_r (r_conv (k2 := .u64) rfl (by kernel_rfl) (by kernel_rfl) (wrap_u64 (by omega))) rfl ?_
    refine ol_r (r_shr1 rfl rfl) rfl ?_
    refine ol_r (r_conv (k2 := .i64) rfl (by kernel_rfl) (by kernel_rfl) (IntWalk.i64_in _ (by omega))) rfl ?_
    refine ol_r (r_assign rfl) rfl ?_
    refine ol_nil (to_k0 (fun _ _ h => h) (hK8 _ _ _ _ _ ?_))
    clear hK8
    refine wp_seq' fun K9 hK9 => ?_
    refine wp_reg ?_
    refine ol_r (r_move rfl) rfl ?_
    refine ol_r (r_move rfl) rfl ?_
    refine ol_ixr hl rfl rfl sl22 (by omega) rfl fun x24 hx24 => ?_
    try simp only [Int.toNat_natCast] at hx24
    refine ol_r (r_ldw rfl (fun w1 hb1 hs1 hB1 => show Loads _ _ _ _ (.int .i64 x24) from Rd.loads hl ty3 hx24 hb1)) rfl ?_
    refine ol_r (r_move rfl) rfl ?_
    refine ol_call rfl rfl cb114 rfl (fun w1 hb1 hs1 hB1 => Calls.mono (cmp_Less _ _ _) ?_)
    rintro e w2 ⟨rfl, hb2⟩
    refine After.below rfl hb1 hs1 hB1 hb2 ?_
    clear hb2 hB1 hs1 hb1 w2 w1
    refine ol_nil (to_k0 (fun _ _ h => h) (hK9 _ _ _ _ _ ?_))
    clear hK9
    first | refine wp_condD rfl (fun hc27 => ?_) (fun hc27 => ?_) | refine wp_condN rfl (fun hc27 => ?_) (fun hc27 => ?_) | refine wp_condNB rfl (fun hc27 => ?_) (fun hc27 => ?_) | refine wp_cond' rfl (fun hc27 => ?_) (fun hc27 => ?_)
    ·refine wp_reg ?_
     refine ol_r (r_move rfl) rfl ?_
     refine ol_r (r_add rfl rfl (by omega)) rfl ?_
     refine ol_r (r_assign rfl) rfl ?_
     refine ol_nil (to_k0 (fun _ _ h => h) (hK5 ((_, _)) _ _ ?_ ?_ (sub_cons rfl (sub_cons rfl sub_nil)) (sub_cons rfl (sub_cons rfl (sub_cons rfl (sub_cons rfl (sub_cons rfl sub_nil))))) (by exact subH_nil) subH_nil))
     ·try dsimp only
      first
        | exact ⟨by omega, by omega, by omega, .inr ⟨_, by rw [Int.add_sub_cancel]; exact hx24, by simpa using hc27⟩, h5⟩
        | exact ⟨by omega, by omega, by omega, h4, .inr ⟨_, hx24, by simpa using hc27⟩⟩
     ·try dsimp only
      omega
    ·refine wp_reg ?_
     refine ol_r (r_move rfl) rfl ?_
     refine ol_r (r_assign rfl) rfl ?_
     refine ol_nil (to_k0 (fun _ _ h => h) (hK5 ((_, _)) _ _ ?_ ?_ (sub_cons rfl (sub_cons rfl sub_nil)) (sub_cons rfl (sub_cons rfl (sub_cons rfl (sub_cons rfl (sub_cons rfl sub_nil))))) (by exact subH_nil) subH_nil))
     ·try dsimp only
      first
        | exact ⟨by omega, by omega, by omega, .inr ⟨_, by rw [Int.add_sub_cancel]; exact hx24, by simpa using hc27⟩, h5⟩
        | exact ⟨by omega, by omega, by omega, h4, .inr ⟨_, hx24, by simpa using hc27⟩⟩
     ·try dsimp only
      omega
   ·refine wp_exit' (to_k0 (fun _ _ h => h) (hK4 _ _ _ _ _ ?_))
    clear hK4
    refine wp_seq' fun K10 hK10 => ?_
    refine wp_reg ?_
    have hij : i = j := by omega
    subst hij
    obtain ⟨k, rfl⟩ := Int.eq_ofNat_of_zero_le h1
    have hPl : Place xs t k := ⟨by omega, by
        rcases h4 with h | ⟨y, hy, hyt⟩
        · exact .inl (by omega)
        · by_cases hk0 : k = 0
          · exact .inl hk0
          · exact .inr ⟨y, by rw [← hy]; congr 1; omega, hyt⟩, by
        rcases h5 with h | ⟨y, hy, hyt⟩
        · exact .inl (by omega)
        · exact .inr ⟨y, by simpa using hy, hyt⟩⟩
    refine ol_r (r_move rfl) rfl ?_
    refine ol_r (r_move rfl) rfl ?_
    refine ol_r (r_move rfl) rfl ?_
    refine ol_r (r_lss rfl rfl) rfl ?_
    refine ol_r (r_move rfl) rfl ?_
    refine ol_split (d := 35) rfl (fun hs35 => ?_) (fun hs35 => ?_)
    ·have phs35 := hs35; try simp only [decide_eq_true_eq, decide_eq_false_iff_not, Bool.not_eq_true', Bool.not_eq_false', Bool.not_true, Bool.not_false] at phs35
     refine ol_g rfl rfl hs35 ?_
     refine ol_r (r_move rfl) rfl ?_
     refine ol_g rfl rfl hs35 ?_
     refine ol_r (r_move rfl) rfl ?_
     refine ol_g rfl rfl hs35 ?_
     refine ol_ixr hl rfl rfl sl22 (by omega) rfl fun x38 hx38 => ?_
     try simp only [Int.toNat_natCast] at hx38
     refine ol_g rfl rfl hs35 ?_
     refine ol_r (r_ldw rfl (fun w1 hb1 hs1 hB1 => show Loads _ _ _ _ (.int .i64 x38) from Rd.loads hl ty3 hx38 hb1)) rfl ?_
     refine ol_g rfl rfl hs35 ?_
     refine ol_r (r_move rfl) rfl ?_
     refine ol_g rfl rfl hs35 ?_
     refine ol_r (r_eql rfl rfl) rfl ?_
     refine ol_g rfl rfl hs35 ?_
     refine ol_r (r_move rfl) rfl ?_
     refine ol_split (d := 42) rfl (fun hs42 => ?_) (fun hs42 => ?_)
     ·have phs42 := hs42; try simp only [decide_eq_true_eq, decide_eq_false_iff_not, Bool.not_eq_true', Bool.not_eq_false', Bool.not_true, Bool.not_false] at phs42
      refine ol_s rfl rfl hs42 rfl ?_
      refine ol_s rfl rfl hs42 rfl ?_
      refine ol_s rfl rfl hs42 rfl ?_
      refine ol_s rfl rfl hs42 rfl ?_
      refine ol_s rfl rfl hs42 rfl ?_
      refine ol_s rfl rfl hs42 rfl ?_
      refine ol_u rfl rfl rfl ?_
      refine ol_u rfl rfl rfl ?_
      refine ol_s rfl rfl hs42 rfl ?_
      refine ol_g rfl rfl hs35 ?_
      refine ol_r (r_pickT rfl hs42 rfl) rfl ?_
      refine ol_r (r_pickT rfl hs35 rfl) rfl ?_
      refine ol_r (r_assign rfl) rfl ?_
      refine ol_r (r_assign rfl) rfl ?_
      refine ol_nil (to_k0 (fun _ _ h => h) (hK10 _ _ _ _ _ ?_))
      clear hK10
      refine hQ.ret (rvs2 (rv_t rfl) (rv_t rfl)) (fun _ _ h => h) fun w hb hs hB hkd => ?_
      refine ⟨k, _, hPl, ?_, rfl, hb⟩
      first
        | (exact ⟨fun _ => by rw [hx38, phs42], fun _ => rfl⟩; done)
        | (exact ⟨fun h => (by cases h), fun h => (by rw [hx38] at h; cases h; exact absurd rfl phs42)⟩; done)
        | (exact ⟨fun h => (by cases h), fun h => (by have := (List.getElem?_eq_some_iff.1 h).1; omega)⟩; done)
        | (exfalso; simp_all; done)
     ·have phs42 := hs42; try simp only [decide_eq_true_eq, decide_eq_false_iff_not, Bool.not_eq_true', Bool.not_eq_false', Bool.not_true, Bool.not_false] at phs42
      refine ol_g rfl rfl hs42 ?_
      refine ol_r (r_move rfl) rfl ?_
      refine ol_g rfl rfl hs42 ?_
      refine ol_r (r_move rfl) rfl ?_
      refine ol_g rfl rfl hs42 ?_
      refine ol_ixr hl rfl rfl sl22 (by omega) rfl fun x45 hx45 => ?_
      try simp only [Int.toNat_natCast] at hx45
      refine ol_g rfl rfl hs42 ?_
      refine ol_r (r_ldw rfl (fun w1 hb1 hs1 hB1 => show Loads _ _ _ _ (.int .i64 x45) from Rd.loads hl ty3 hx45 hb1)) rfl ?_
      refine ol_g rfl rfl hs42 ?_
      refine ol_call rfl rfl cb115 rfl (fun w1 hb1 hs1 hB1 => Calls.mono (slices_isNaN _ _) ?_)
      rintro e w2 ⟨rfl, hb2⟩
      refine After.below rfl hb1 hs1 hB1 hb2 ?_
      clear hb2 hB1 hs1 hb1 w2 w1
      refine ol_g rfl rfl hs42 ?_
      refine ol_r (r_move rfl) rfl ?_
      refine ol_split (d := 48) rfl (fun hs48 => ?_) (fun hs48 => ?_)
      ·have phs48 := hs48; try simp only [decide_eq_true_eq, decide_eq_false_iff_not, Bool.not_eq_true', Bool.not_eq_false', Bool.not_true, Bool.not_false] at phs48
       refine ol_g rfl rfl hs48 ?_
       refine ol_r (r_move rfl) rfl ?_
       refine ol_g rfl rfl hs48 ?_
       refine ol_call rfl rfl cb115 rfl (fun w1 hb1 hs1 hB1 => Calls.mono (slices_isNaN _ _) ?_)
       rintro e w2 ⟨rfl, hb2⟩
       refine After.below rfl hb1 hs1 hB1 hb2 ?_
       clear hb2 hB1 hs1 hb1 w2 w1
       refine ol_g rfl rfl hs42 ?_
       refine ol_r (r_pickT rfl hs48 rfl) rfl ?_
       refine ol_g rfl rfl hs35 ?_
       refine ol_r (r_pickF rfl hs42 rfl) rfl ?_
       refine ol_r (r_pickT rfl hs35 rfl) rfl ?_
       refine ol_r (r_assign rfl) rfl ?_
       refine ol_r (r_assign rfl) rfl ?_
       refine ol_nil (to_k0 (fun _ _ h => h) (hK10 _ _ _ _ _ ?_))
       clear hK10
       refine hQ.ret (rvs2 (rv_t rfl) (rv_t rfl)) (fun _ _ h => h) fun w hb hs hB hkd => ?_
       refine ⟨k, _, hPl, ?_, rfl, hb⟩
       first
         | (exact ⟨fun _ => by rw [hx38, phs42], fun _ => rfl⟩; done)
         | (exact ⟨fun h => (by cases h), fun h => (by rw [hx38] at h; cases h; exact absurd rfl phs42)⟩; done)
         | (exact ⟨fun h => (by cases h), fun h => (by have := (List.getElem?_eq_some_iff.1 h).1; omega)⟩; done)
         | (exfalso; simp_all; done)
      ·have phs48 := hs48; try simp only [decide_eq_true_eq, decide_eq_false_iff_not, Bool.not_eq_true', Bool.not_eq_false', Bool.not_true, Bool.not_false] at phs48
       refine ol_s rfl rfl hs48 rfl ?_
       refine ol_s rfl rfl hs48 rfl ?_
       refine ol_g rfl rfl hs42 ?_
       refine ol_r (r_pickF rfl hs48 rfl) rfl ?_
       refine ol_g rfl rfl hs35 ?_
       refine ol_r (r_pickF rfl hs42 rfl) rfl ?_
       refine ol_r (r_pickT rfl hs35 rfl) rfl ?_
       refine ol_r (r_assign rfl) rfl ?_
       refine ol_r (r_assign rfl) rfl ?_
       refine ol_nil (to_k0 (fun _ _ h => h) (hK10 _ _ _ _ _ ?_))
       clear hK10
       refine hQ.ret (rvs2 (rv_t rfl) (rv_t rfl)) (fun _ _ h => h) fun w hb hs hB hkd => ?_
       refine ⟨k, _, hPl, ?_, rfl, hb⟩
       first
         | (exact ⟨fun _ => by rw [hx38, phs42], fun _ => rfl⟩; done)
         | (exact ⟨fun h => (by cases h), fun h => (by rw [hx38] at h; cases h; exact absurd rfl phs42)⟩; done)
         | (exact ⟨fun h => (by cases h), fun h => (by have := (List.getElem?_eq_some_iff.1 h).1; omega)⟩; done)
         | (exfalso; simp_all; done)
    ·have phs35 := hs35; try simp only [decide_eq_true_eq, decide_eq_false_iff_not, Bool.not_eq_true', Bool.not_eq_false', Bool.not_true, Bool.not_false] at phs35
     refine ol_s rfl rfl hs35 rfl ?_
     refine ol_s rfl rfl hs35 rfl ?_
     refine ol_s rfl rfl hs35 rfl ?_
     refine ol_s rfl rfl hs35 rfl ?_
     refine ol_s rfl rfl hs35 rfl ?_
     refine ol_s rfl rfl hs35 rfl ?_
     refine ol_s rfl rfl hs35 rfl ?_
     refine ol_u rfl rfl rfl ?_
     refine ol_u rfl rfl rfl ?_
     refine ol_u rfl rfl rfl ?_
     refine ol_u rfl rfl rfl ?_
     refine ol_u rfl rfl rfl ?_
     refine ol_u rfl rfl rfl ?_
     refine ol_u rfl rfl rfl ?_
     refine ol_u rfl rfl rfl ?_
     refine ol_u rfl rfl rfl ?_
     refine ol_s rfl rfl hs35 rfl ?_
     refine ol_r (r_pickF rfl hs35 rfl) rfl ?_
     refine ol_r (r_assign rfl) rfl ?_
     refine ol_r (r_assign rfl) rfl ?_
     refine ol_nil (to_k0 (fun _ _ h => h) (hK10 _ _ _ _ _ ?_))
     clear hK10
     refine hQ.ret (rvs2 (rv_t rfl) (rv_t rfl)) (fun _ _ h => h) fun w hb hs hB hkd => ?_
     refine ⟨k, _, hPl, ?_, rfl, hb⟩
     first
       | (exact ⟨fun _ => by rw [hx38, phs42], fun _ => rfl⟩; done)
       | (exact ⟨fun h => (by cases h), fun h => (by rw [hx38] at h; cases h; exact absurd rfl phs42)⟩; done)
       | (exact ⟨fun h => (by cases h), fun h => (by have := (List.getElem?_eq_some_iff.1 h).1; omega)⟩; done)
       | (exfalso; simp_all; done)
theorem effort_Zones (a b : Option Addr) (n cap m c2 : Nat) (xs zs : List Int) (w : World) (hl : Rd encI w.heap.size w a n cap xs) (hz : Rd encI w.heap.size w b m c2 zs) :
    Calls Try.prog 22 #[.slice a n cap, .slice b m c2] w fun e w' => ∃ (out : List Int) (u c : Int) (o : Option Addr) (k kc : Nat), ZonesR xs zs out u c ∧ e = .returned (.tuple #[.slice o k kc, .int .i64 u, .int .i64 c]) ∧ Fresh encI 3 w w' o k kc out := by
  have hn := hl.len
  have hfit := hl.fit
  have hm := hz.len
  subst hn
  subst hm
  refine enterQ (N := 53) (C := fun _ => True) (H := []) (B := w.heap.size) (args := [_, _]) Try.func22 rfl rfl rfl (Nat.le_refl _) (Sat.nil _ _) fun Q hQ => ?_
  refine wp_seq' fun K1 hK1 => ?_
  refine wp_reg ?_
  refine ol_r (r_assign rfl) rfl ?_
  refine ol_r (r_assign rfl) rfl ?_
  refine ol_r (r_assign rfl) rfl ?_
  refine ol_nil (to_k0 (fun _ _ h => h) (hK1 _ _ _ _ _ ?_))
  clear hK1
  refine wp_seq' fun K2 hK2 => ?_
  refine wp_seq' fun K3 hK3 => ?_
  refine wp_reg ?_
  refine ol_r (r_move rfl) rfl ?_
  refine ol_call rfl rfl cb20 rfl (fun w1 hb1 hs1 hB1 => Calls.mono (effort_CheckStream _ _ _ xs _ (hl.at hb1 hB1)) ?_)
  rintro e w2 ⟨rfl, hb2⟩
  refine After.below rfl hb1 hs1 hB1 hb2 ?_
  clear hb2 hB1 hs1 hb1 w2 w1
  refine ol_r (r_move rfl) rfl ?_
  refine ol_call rfl rfl cb24 rfl (fun w1 hb1 hs1 hB1 => Calls.mono (effort_CheckZones _ _ _ zs _ (hz.at hb1 hB1)) ?_)
  rintro e w2 ⟨rfl, hb2⟩
  refine After.below rfl hb1 hs1 hB1 hb2 ?_
  clear hb2 hB1 hs1 hb1 w2 w1
  refine ol_bsN 18 rfl rw143 rfl rfl (fun _ => by kernel_rfl) rfl fun a18 => ?_
  refine ol_call rfl rfl cb74 rfl (fun w1 hb1 hs1 hB1 => Calls.mono (cmp_Or _ _ _ [streamR xs, zonesC zs] _ (Sat.rd hs1 (E := encI) (id := 18) rfl rfl)) ?_)
  rintro e w2 ⟨rfl, hb2⟩
  refine After.below rfl hb1 hs1 hB1 hb2 ?_
  clear hb2 hB1 hs1 hb1 w2 w1
  refine ol_r (r_assign rfl) rfl ?_
  refine ol_nil (to_k0 (fun _ _ h => h) (hK3 _ _ _ _ _ ?_))
  clear hK3
  refine wp_seq' fun K4 hK4 => ?_
  refine wp_reg ?_
  refine ol_r (r_move rfl) rfl ?_
  refine ol_r (r_neq rfl rfl) rfl ?_
  refine ol_nil (to_k0 (fun _ _ h => h) (hK4 _ _ _ _ _ ?_))
  clear hK4
  first | refine wp_condD rfl (fun hc21 => ?_) (fun hc21 => ?_) | refine wp_condN rfl (fun hc21 => ?_) (fun hc21 => ?_) | refine wp_condNB rfl (fun hc21 => ?_) (fun hc21 => ?_) | refine wp_cond' rfl (fun hc21 => ?_) (fun hc21 => ?_)
  ·refine wp_seq' fun K5 hK5 => ?_
   refine wp_reg ?_
   refine ol_r (r_move rfl) rfl ?_
   refine ol_r (r_assign rfl) rfl ?_
   refine ol_r (r_assign rfl) rfl ?_
   refine ol_r (r_assign rfl) rfl ?_
   refine ol_nil (to_k0 (fun _ _ h => h) (hK5 _ _ _ _ _ ?_))
   clear hK5
   refine hQ.ret (rvs3 (rv_t rfl) (rv_t rfl) (rv_t rfl)) (fun _ _ h => h) fun w hb hs hB hkd => ?_
   first
     | (refine ⟨[], 0, _, none, 0, 0, ?_, rfl, Fresh.nil hb⟩
        unfold ZonesR
        unfold orR at hc21 ⊢
        by_cases h1 : streamR xs ≠ 0
        · rw [if_pos h1, if_pos h1]; exact ⟨rfl, rfl, rfl⟩
        · rw [if_neg h1] at hc21
          rw [if_neg h1, if_neg h1]
          unfold orR at hc21 ⊢
          by_cases h2 : zonesC zs ≠ 0
          · rw [if_pos h2, if_pos h2]; exact ⟨rfl, rfl, rfl⟩
          · rw [if_neg h2] at hc21; exact absurd rfl hc21)
     | (have hin : i = xs.length := by omega
        subst hin
        rw [List.take_length] at hZ
        refine ⟨out, u, 0, _, _, _, ?_, rfl, hb, hs.ok 26 _ rfl⟩
        unfold ZonesR
        rw [if_neg (by simp [hE.1]), if_neg (by simp [hE.2])]
        exact ⟨hZ, hu, rfl⟩)
  ·refine wp_skip' (to_k0 (fun _ _ h => h) (hK2 _ _ _ _ _ ?_))
   clear hK2
   refine wp_seq' fun K6 hK6 => ?_
   refine wp_reg ?_
   have hE : streamR xs = 0 ∧ zonesC zs = 0 := by
     have h := Decidable.not_not.1 hc21
     unfold orR at h
     by_cases h1 : streamR xs ≠ 0
     · rw [if_pos h1] at h; exact absurd h h1
     · rw [if_neg h1] at h
       unfold orR at h
       by_cases h2 : zonesC zs ≠ 0
       · rw [if_pos h2] at h; exact absurd h h2
       · exact ⟨Decidable.not_not.1 h1, Decidable.not_not.1 h2⟩
   have hok := streamR_ok hE.1
   have hzk := zonesC_ok hE.2
   refine ol_r (r_move rfl) rfl ?_
   refine ol_r (r_len rfl sl22) rfl ?_
   refine ol_r (r_add rfl rfl (by omega)) rfl ?_
   refine ol_make encI (0) 26 rfl rfl rw22 z3 rfl rfl (by omega) rfl fun a26 => ?_
   have ez : ((zs.length : Int) + 1).toNat = zs.length + 1 := by omega
   simp only [ez]
   refine ol_r (r_assign rfl) rfl ?_
   refine ol_nil (to_k0 (fun _ _ h => h) (hK6 _ _ _ _ _ ?_))
   clear hK6
   refine wp_seq' fun K7 hK7 => ?_
   refine wp_reg ?_
   refine ol_r (r_assign rfl) rfl ?_
   refine ol_nil (to_k0 (fun _ _ h => h) (hK7 _ _ _ _ _ ?_))
   clear hK7
   refine wp_seq' fun K8 hK8 => ?_
   refine wp_seq' fun K9 hK9 => ?_
   refine wp_reg ?_
   refine ol_r (r_move rfl) rfl ?_
   refine ol_r (r_len rfl sl22) rfl ?_
   refine ol_r (r_move rfl) rfl ?_
   refine ol_nil (to_k0 (fun _ _ h => h) (hK9 _ _ _ _ _ ?_))
   clear hK9
   refine wp_block' ?_
   apply wp_loopM (σ := Nat × Int × List Int) (fun s => s.1 ≤ xs.length ∧ s.2.1 = pU xs s.1 ∧ Zoned zs (xs.take s.1) s.2.2) (fun s => [(29, .int .i64 s.1), (9, .int .i64 s.2.1)]) [(1, _), (4, _), (5, _), (6, _), (8, _), (27, _), (28, _)] (fun s => [(26, .row a26 (zs.length + 1) (zs.length + 1) (encI.enc s.2.2) 3 1)]) [(18, _)] (fun s => xs.length - s.1) ((0, 0, List.replicate (zs.length + 1) 0))
   ·try dsimp only
    exact ⟨Nat.zero_le _, (pU_zero _).symm, Zoned.start⟩
   ·exact (sub_cons rfl (sub_cons rfl sub_nil))
   ·exact (sub_cons rfl (sub_cons rfl (sub_cons rfl (sub_cons rfl (sub_cons rfl (sub_cons rfl (sub_cons rfl sub_nil)))))))
   ·exact (subH_row rfl (by first | (dsimp only; rfl; done) | (rfl; done) | (dsimp only; done)) subH_nil)
   ·exact (subH_same rfl subH_nil)
   ·rintro ⟨i, u, out⟩ ⟨hi, hu, hZ⟩
    dsimp only at hi hu hZ ⊢
    intro K10 hK10
    refine wp_seq' fun K11 hK11 => ?_
    refine wp_reg ?_
    refine ol_r (r_lss rfl rfl) rfl ?_
    refine ol_nil (to_k0 (fun _ _ h => h) (hK11 _ _ _ _ _ ?_))
    clear hK11
    refine wp_seq' fun K12 hK12 => ?_
    first | refine wp_condD rfl (fun hc30 => ?_) (fun hc30 => ?_) | refine wp_condN rfl (fun hc30 => ?_) (fun hc30 => ?_) | refine wp_condNB rfl (fun hc30 => ?_) (fun hc30 => ?_) | refine wp_cond' rfl (fun hc30 => ?_) (fun hc30 => ?_)
    ·refine wp_skip' (to_k0 (fun _ _ h => h) (hK12 _ _ _ _ _ ?_))
     clear hK12
     refine wp_seq' fun K13 hK13 => ?_
     refine wp_block' ?_
     refine wp_seq' fun K14 hK14 => ?_
     refine wp_reg ?_
     refine ol_ixr hl rfl rfl sl22 (by omega) rfl fun x31 hx31 => ?_
     try simp only [Int.toNat_natCast] at hx31
     refine ol_r (r_ldw rfl (fun w1 hb1 hs1 hB1 => show Loads _ _ _ _ (.int .i64 x31) from Rd.loads hl ty3 hx31 hb1)) rfl ?_
     refine ol_r (r_assign rfl) rfl ?_
     refine ol_nil (to_k0 (fun _ _ h => h) (hK14 _ _ _ _ _ ?_))
     clear hK14
     refine wp_seq' fun K15 hK15 => ?_
     refine wp_seq' fun K16 hK16 => ?_
     refine wp_reg ?_
     have qx := hok.2 _ (List.mem_of_getElem? hx31)
     have qu := pU_bd hok.1 i (xs := xs)
     have ql := hZ.len
     refine ol_r (r_move rfl) rfl ?_
     refine ol_r (r_lss rfl rfl) rfl ?_
     refine ol_nil (to_k0 (fun _ _ h => h) (hK16 _ _ _ _ _ ?_))
     clear hK16
     first | refine wp_condD rfl (fun hc34 => ?_) (fun hc34 => ?_) | refine wp_condN rfl (fun hc34 => ?_) (fun hc34 => ?_) | refine wp_condNB rfl (fun hc34 => ?_) (fun hc34 => ?_) | refine wp_cond' rfl (fun hc34 => ?_) (fun hc34 => ?_)
     ·refine wp_seq' fun K17 hK17 => ?_
      refine wp_reg ?_
      refine ol_r (r_move rfl) rfl ?_
      refine ol_r (r_add rfl rfl (by omega)) rfl ?_
      refine ol_r (r_assign rfl) rfl ?_
      refine ol_nil (to_k0 (fun _ _ h => h) (hK17 _ _ _ _ _ ?_))
      clear hK17
      refine wp_exit' (to_k0 (fun _ _ h => h) (hK13 _ _ _ _ _ ?_))
      clear hK13
      refine wp_reg ?_
      refine ol_r (r_add rfl rfl (by omega)) rfl ?_
      refine ol_r (r_move rfl) rfl ?_
      refine ol_nil (to_k0 (fun _ _ h => h) (hK10 ((i + 1, _, _)) _ _ ?_ ?_ (sub_cons rfl (sub_cons rfl sub_nil)) (sub_cons rfl (sub_cons rfl (sub_cons rfl (sub_cons rfl (sub_cons rfl (sub_cons rfl (sub_cons rfl sub_nil))))))) (by exact (subH_row rfl (by first | (dsimp only; rfl; done) | (rfl; done) | (dsimp only; done)) subH_nil)) (subH_same rfl subH_nil)))
      ·try dsimp only
       first
         | exact ⟨by omega, by rw [pU_succ hx31, nv_neg hc34, hu], by rw [take_succ_get hx31]; exact hZ.skip hc34⟩
         | (refine ⟨by omega, by rw [pU_succ hx31, nv_nn hc34, hu]; omega, ?_⟩
            rw [take_succ_get hx31]
            exact hZ.step hc34 hPl hx46)
      ·try dsimp only
       omega
     ·refine wp_skip' (to_k0 (fun _ _ h => h) (hK15 _ _ _ _ _ ?_))
      clear hK15
      refine wp_seq' fun K18 hK18 => ?_
      refine wp_reg ?_
      refine ol_r (r_move rfl) rfl ?_
      refine ol_r (r_move rfl) rfl ?_
      refine ol_r (r_add rfl rfl (by omega)) rfl ?_
      refine ol_call rfl rfl cb75 rfl (fun w1 hb1 hs1 hB1 => ?_)
      refine Calls.mono (binarySearch _ _ _ zs _ _ (hz.at hb1 hB1) (by omega)) ?_
      rintro e w2 ⟨j, okj, hPl, hoj, rfl, hb2⟩
      refine After.below rfl hb1 hs1 hB1 hb2 ?_
      clear hb2 hB1 hs1 hb1 w2 w1
      refine ol_r (r_move rfl) rfl ?_
      refine ol_r (r_extract rfl rfl) rfl ?_
      refine ol_r (r_extract rfl rfl) rfl ?_
      refine ol_r (r_assign rfl) rfl ?_
      refine ol_r (r_assign rfl) rfl ?_
      refine ol_nil (to_k0 (fun _ _ h => h) (hK18 _ _ _ _ _ ?_))
      clear hK18
      refine wp_reg ?_
      refine ol_r (r_move rfl) rfl ?_
      refine ol_r (r_move rfl) rfl ?_
      have hj := hPl.1
      refine ol_ixo (id := 26) encI _ rfl rfl rfl rfl sl22 (by omega) rfl fun x46 hx46 => ?_
      try simp only [Int.toNat_natCast] at hx46
      try simp only [Int.toNat_natCast] at hx46
      refine ol_r (r_ldw rfl (fun w1 hb1 hs1 hB1 => show Loads _ _ _ _ (.int .i64 x46) from ld_own (id := 26) hs1 rfl rfl ty3 hx46)) rfl ?_
      have qs := (hZ.sum).2 _ (List.mem_of_getElem? hx46)
      rw [List.length_take] at qs
      refine ol_r (r_add rfl rfl (by omega)) rfl ?_
      refine ol_ixo (id := 26) encI _ rfl rfl rfl rfl sl22 (by omega) rfl fun x49 hx49 => ?_
      try simp only [Int.toNat_natCast] at hx49
      try simp only [Int.toNat_natCast] at hx49
      refine ol_storeRow (id := 26) _ _ _ rfl rfl rfl rfl sz3 (by omega) ?_
      refine ol_nil (to_k0 (fun _ _ h => h) (hK13 _ _ _ _ _ ?_))
      clear hK13
      refine wp_reg ?_
      refine ol_r (r_add rfl rfl (by omega)) rfl ?_
      refine ol_r (r_move rfl) rfl ?_
      refine ol_nil (to_k0 (fun _ _ h => h) (hK10 ((i + 1, _, _)) _ _ ?_ ?_ (sub_cons rfl (sub_cons rfl sub_nil)) (sub_cons rfl (sub_cons rfl (sub_cons rfl (sub_cons rfl (sub_cons rfl (sub_cons rfl (sub_cons rfl sub_nil))))))) (by exact (subH_row rfl (by first | (dsimp only; rfl; done) | (rfl; done) | (dsimp only; done)) subH_nil)) (subH_same rfl subH_nil)))
      ·try dsimp only
       first
         | exact ⟨by omega, by rw [pU_succ hx31, nv_neg hc34, hu], by rw [take_succ_get hx31]; exact hZ.skip hc34⟩
         | (refine ⟨by omega, by rw [pU_succ hx31, nv_nn hc34, hu]; omega, ?_⟩
            rw [take_succ_get hx31]
            exact hZ.step hc34 hPl hx46)
      ·try dsimp only
       omega
    ·refine wp_exit' (to_k0 (fun _ _ h => h) (hK8 _ _ _ _ _ ?_))
     clear hK8
     refine wp_seq' fun K19 hK19 => ?_
     refine wp_reg ?_
     refine ol_r (r_move rfl) rfl ?_
     refine ol_r (r_move rfl) rfl ?_
     refine ol_r (r_assign rfl) rfl ?_
     refine ol_r (r_assign rfl) rfl ?_
     refine ol_r (r_assign rfl) rfl ?_
     refine ol_nil (to_k0 (fun _ _ h => h) (hK19 _ _ _ _ _ ?_))
     clear hK19
     refine hQ.ret (rvs3 (rv_t rfl) (rv_t rfl) (rv_t rfl)) (fun _ _ h => h) fun w hb hs hB hkd => ?_
     first
       | (refine ⟨[], 0, _, none, 0, 0, ?_, rfl, Fresh.nil hb⟩
          unfold ZonesR
          unfold orR at hc21 ⊢
          by_cases h1 : streamR xs ≠ 0
          · rw [if_pos h1, if_pos h1]; exact ⟨rfl, rfl, rfl⟩
          · rw [if_neg h1] at hc21
            rw [if_neg h1, if_neg h1]
            unfold orR at hc21 ⊢
            by_cases h2 : zonesC zs ≠ 0
            · rw [if_pos h2, if_pos h2]; exact ⟨rfl, rfl, rfl⟩
            · rw [if_neg h2] at hc21; exact absurd rfl hc21)
       | (have hin : i = xs.length := by omega
          subst hin
          rw [List.take_length] at hZ
          refine ⟨out, u, 0, _, _, _, ?_, rfl, hb, hs.ok 26 _ rfl⟩
          unfold ZonesR
          rw [if_neg (by simp [hE.1]), if_neg (by simp [hE.2])]
          exact ⟨hZ, hu, rfl⟩)
theorem ref_Zones (a b : Option Addr) (n cap m c2 : Nat) (xs zs : List Int) (w : World) (hl : Rd encI w.heap.size w a n cap xs) (hz : Rd encI w.heap.size w b m c2 zs) :
    Calls Try.prog 23 #[.slice a n cap, .slice b m c2] w fun e w' => ∃ (out : List Int) (u c : Int) (o : Option Addr) (k kc : Nat), ZonesR xs zs out u c ∧ e = .returned (.tuple #[.slice o k kc, .int .i64 u, .int .i64 c]) ∧ Fresh encI 3 w w' o k kc out := by
  have hn := hl.len
  have hfit := hl.fit
  have hm := hz.len
  subst hn
  subst hm
  refine enterQ (N := 61) (C := fun _ => True) (H := []) (B := w.heap.size) (args := [_, _]) Try.func23 rfl rfl rfl (Nat.le_refl _) (Sat.nil _ _) fun Q hQ => ?_
  refine wp_seq' fun K1 hK1 => ?_
  refine wp_reg ?_
  refine ol_r (r_assign rfl) rfl ?_
  refine ol_r (r_assign rfl) rfl ?_
  refine ol_r (r_assign rfl) rfl ?_
  refine ol_nil (to_k0 (fun _ _ h => h) (hK1 _ _ _ _ _ ?_))
  clear hK1
  refine wp_seq' fun K2 hK2 => ?_
  refine wp_seq' fun K3 hK3 => ?_
  refine wp_reg ?_
  refine ol_r (r_move rfl) rfl ?_
  refine ol_call rfl rfl cb21 rfl (fun w1 hb1 hs1 hB1 => Calls.mono (ref_CheckStream _ _ _ xs _ (hl.at hb1 hB1)) ?_)
  rintro e w2 ⟨rfl, hb2⟩
  refine After.below rfl hb1 hs1 hB1 hb2 ?_
  clear hb2 hB1 hs1 hb1 w2 w1
  refine ol_r (r_assign rfl) rfl ?_
  refine ol_nil (to_k0 (fun _ _ h => h) (hK3 _ _ _ _ _ ?_))
  clear hK3
  refine wp_seq' fun K4 hK4 => ?_
  refine wp_reg ?_
  refine ol_r (r_move rfl) rfl ?_
  refine ol_r (r_neq rfl rfl) rfl ?_
  refine ol_nil (to_k0 (fun _ _ h => h) (hK4 _ _ _ _ _ ?_))
  clear hK4
  first | refine wp_condD rfl (fun hc17 => ?_) (fun hc17 => ?_) | refine wp_condN rfl (fun hc17 => ?_) (fun hc17 => ?_) | refine wp_condNB rfl (fun hc17 => ?_) (fun hc17 => ?_) | refine wp_cond' rfl (fun hc17 => ?_) (fun hc17 => ?_)
  ·refine wp_seq' fun K5 hK5 => ?_
   refine wp_reg ?_
   refine ol_r (r_move rfl) rfl ?_
   refine ol_r (r_assign rfl) rfl ?_
   refine ol_r (r_assign rfl) rfl ?_
   refine ol_r (r_assign rfl) rfl ?_
   refine ol_nil (to_k0 (fun _ _ h => h) (hK5 _ _ _ _ _ ?_))
   clear hK5
   refine hQ.ret (rvs3 (rv_t rfl) (rv_t rfl) (rv_t rfl)) (fun _ _ h => h) fun w hb hs hB hkd => ?_
   first
     | (refine ⟨[], 0, _, none, 0, 0, ?_, rfl, Fresh.nil hb⟩
        unfold ZonesR
        first
          | (rw [if_pos hc17]; exact ⟨rfl, rfl, rfl⟩)
          | (rw [if_neg hc17, if_pos hc22]; exact ⟨rfl, rfl, rfl⟩))
     | (have hin : i = xs.length := by omega
        subst hin
        rw [List.take_length] at hZ
        refine ⟨out, u, 0, _, _, _, ?_, rfl, hb, hs.ok 27 _ rfl⟩
        unfold ZonesR
        rw [if_neg hc17, if_neg hc22]
        exact ⟨hZ, hu, rfl⟩)
  ·refine wp_skip' (to_k0 (fun _ _ h => h) (hK2 _ _ _ _ _ ?_))
   clear hK2
   refine wp_seq' fun K6 hK6 => ?_
   refine wp_seq' fun K7 hK7 => ?_
   refine wp_reg ?_
   refine ol_r (r_move rfl) rfl ?_
   refine ol_call rfl rfl cb25 rfl (fun w1 hb1 hs1 hB1 => Calls.mono (ref_CheckZones _ _ _ zs _ (hz.at hb1 hB1)) ?_)
   rintro e w2 ⟨rfl, hb2⟩
   refine After.below rfl hb1 hs1 hB1 hb2 ?_
   clear hb2 hB1 hs1 hb1 w2 w1
   refine ol_r (r_assign rfl) rfl ?_
   refine ol_nil (to_k0 (fun _ _ h => h) (hK7 _ _ _ _ _ ?_))
   clear hK7
   refine wp_seq' fun K8 hK8 => ?_
   refine wp_reg ?_
   refine ol_r (r_move rfl) rfl ?_
   refine ol_r (r_neq rfl rfl) rfl ?_
   refine ol_nil (to_k0 (fun _ _ h => h) (hK8 _ _ _ _ _ ?_))
   clear hK8
   first | refine wp_condD rfl (fun hc22 => ?_) (fun hc22 => ?_) | refine wp_condN rfl (fun hc22 => ?_) (fun hc22 => ?_) | refine wp_condNB rfl (fun hc22 => ?_) (fun hc22 => ?_) | refine wp_cond' rfl (fun hc22 => ?_) (fun hc22 => ?_)
   ·refine wp_seq' fun K9 hK9 => ?_
    refine wp_reg ?_
    refine ol_r (r_move rfl) rfl ?_
    refine ol_r (r_assign rfl) rfl ?_
    refine ol_r (r_assign rfl) rfl ?_
    refine ol_r (r_assign rfl) rfl ?_
    refine ol_nil (to_k0 (fun _ _ h => h) (hK9 _ _ _ _ _ ?_))
    clear hK9
    refine hQ.ret (rvs3 (rv_t rfl) (rv_t rfl) (rv_t rfl)) (fun _ _ h => h) fun w hb hs hB hkd => ?_
    first
      | (refine ⟨[], 0, _, none, 0, 0, ?_, rfl, Fresh.nil hb⟩
         unfold ZonesR
         first
           | (rw [if_pos hc17]; exact ⟨rfl, rfl, rfl⟩)
           | (rw [if_neg hc17, if_pos hc22]; exact ⟨rfl, rfl, rfl⟩))
      | (have hin : i = xs.length := by omega
         subst hin
         rw [List.take_length] at hZ
         refine ⟨out, u, 0, _, _, _, ?_, rfl, hb, hs.ok 27 _ rfl⟩
         unfold ZonesR
         rw [if_neg hc17, if_neg hc22]
         exact ⟨hZ, hu, rfl⟩)
   ·refine wp_skip' (to_k0 (fun _ _ h => h) (hK6 _ _ _ _ _ ?_))
    clear hK6
    refine wp_seq' fun K10 hK10 => ?_
    refine wp_reg ?_
    have hE1 : streamR xs = 0 := Decidable.not_not.1 hc17
    have hE2 : zonesC zs = 0 := Decidable.not_not.1 hc22
    have hok := streamR_ok hE1
    have hzk := zonesC_ok hE2
    refine ol_r (r_move rfl) rfl ?_
    refine ol_r (r_len rfl sl22) rfl ?_
    refine ol_r (r_add rfl rfl (by omega)) rfl ?_
    refine ol_make encI (0) 27 rfl rfl rw22 z3 rfl rfl (by omega) rfl fun a27 => ?_
    have ez : ((zs.length : Int) + 1).toNat = zs.length + 1 := by omega
    simp only [ez]
    refine ol_r (r_assign rfl) rfl ?_
    refine ol_nil (to_k0 (fun _ _ h => h) (hK10 _ _ _ _ _ ?_))
    clear hK10
    refine wp_seq' fun K11 hK11 => ?_
    refine wp_reg ?_
    refine ol_r (r_assign rfl) rfl ?_
    refine ol_nil (to_k0 (fun _ _ h => h) (hK11 _ _ _ _ _ ?_))
    clear hK11
    refine wp_seq' fun K12 hK12 => ?_
    refine wp_seq' fun K13 hK13 => ?_
    refine wp_reg ?_
    refine ol_r (r_move rfl) rfl ?_
    refine ol_r (r_len rfl sl22) rfl ?_
    refine ol_r (r_move rfl) rfl ?_
    refine ol_nil (to_k0 (fun _ _ h => h) (hK13 _ _ _ _ _ ?_))
    clear hK13
    refine wp_block' ?_
    apply wp_loopM (σ := Nat × Int × List Int) (fun s => s.1 ≤ xs.length ∧ s.2.1 = pU xs s.1 ∧ Zoned zs (xs.take s.1) s.2.2) (fun s => [(30, .int .i64 s.1), (10, .int .i64 s.2.1)]) [(1, _), (4, _), (5, _), (6, _), (9, _), (28, _), (29, _)] (fun s => [(27, .row a27 (zs.length + 1) (zs.length + 1) (encI.enc s.2.2) 3 1)]) [] (fun s => xs.length - s.1) ((0, 0, List.replicate (zs.length + 1) 0))
    ·try dsimp only
     exact ⟨Nat.zero_le _, (pU_zero _).symm, Zoned.start⟩
    ·exact (sub_cons rfl (sub_cons rfl sub_nil))
    ·exact (sub_cons rfl (sub_cons rfl (sub_cons rfl (sub_cons rfl (sub_cons rfl (sub_cons rfl (sub_cons rfl sub_nil)))))))
    ·exact (subH_row rfl (by first | (dsimp only; rfl; done) | (rfl; done) | (dsimp only; done)) subH_nil)
    ·exact subH_nil
    ·rintro ⟨i, u, out⟩ ⟨hi, hu, hZ⟩
     dsimp only at hi hu hZ ⊢
     intro K14 hK14
     refine wp_seq' fun K15 hK15 => ?_
     refine wp_reg ?_
     refine ol_r (r_lss rfl rfl) rfl ?_
     refine ol_nil (to_k0 (fun _ _ h => h) (hK15 _ _ _ _ _ ?_))
     clear hK15
     refine wp_seq' fun K16 hK16 => ?_
     first | refine wp_condD rfl (fun hc31 => ?_) (fun hc31 => ?_) | refine wp_condN rfl (fun hc31 => ?_) (fun hc31 => ?_) | refine wp_condNB rfl (fun hc31 => ?_) (fun hc31 => ?_) | refine wp_cond' rfl (fun hc31 => ?_) (fun hc31 => ?_)
     ·refine wp_skip' (to_k0 (fun _ _ h => h) (hK16 _ _ _ _ _ ?_))
      clear hK16
      refine wp_seq' fun K17 hK17 => ?_
      refine wp_block' ?_
      refine wp_seq' fun K18 hK18 => ?_
      refine wp_reg ?_
      refine ol_ixr hl rfl rfl sl22 (by omega) rfl fun x32 hx32 => ?_
      try simp only [Int.toNat_natCast] at hx32
      refine ol_r (r_ldw rfl (fun w1 hb1 hs1 hB1 => show Loads _ _ _ _ (.int .i64 x32) from Rd.loads hl ty3 hx32 hb1)) rfl ?_
      refine ol_r (r_assign rfl) rfl ?_
      refine ol_nil (to_k0 (fun _ _ h => h) (hK18 _ _ _ _ _ ?_))
      clear hK18
      refine wp_seq' fun K19 hK19 => ?_
      refine wp_seq' fun K20 hK20 => ?_
      refine wp_reg ?_
      have qx := hok.2 _ (List.mem_of_getElem? hx32)
      have qu := pU_bd hok.1 i (xs := xs)
      have ql := hZ.len
      refine ol_r (r_move rfl) rfl ?_
      refine ol_r (r_lss rfl rfl) rfl ?_
      refine ol_nil (to_k0 (fun _ _ h => h) (hK20 _ _ _ _ _ ?_))
      clear hK20
      first | refine wp_condD rfl (fun hc35 => ?_) (fun hc35 => ?_) | refine wp_condN rfl (fun hc35 => ?_) (fun hc35 => ?_) | refine wp_condNB rfl (fun hc35 => ?_) (fun hc35 => ?_) | refine wp_cond' rfl (fun hc35 => ?_) (fun hc35 => ?_)
      ·refine wp_seq' fun K21 hK21 => ?_
       refine wp_reg ?_
       refine ol_r (r_move rfl) rfl ?_
       refine ol_r (r_add rfl rfl (by omega)) rfl ?_
       refine ol_r (r_assign rfl) rfl ?_
       refine ol_nil (to_k0 (fun _ _ h => h) (hK21 _ _ _ _ _ ?_))
       clear hK21
       refine wp_exit' (to_k0 (fun _ _ h => h) (hK17 _ _ _ _ _ ?_))
       clear hK17
       refine wp_reg ?_
       refine ol_r (r_add rfl rfl (by omega)) rfl ?_
       refine ol_r (r_move rfl) rfl ?_
       refine ol_nil (to_k0 (fun _ _ h => h) (hK14 ((i + 1, _, _)) _ _ ?_ ?_ (sub_cons rfl (sub_cons rfl sub_nil)) (sub_cons rfl (sub_cons rfl (sub_cons rfl (sub_cons rfl (sub_cons rfl (sub_cons rfl (sub_cons rfl sub_nil))))))) (by exact (subH_row rfl (by first | (dsimp only; rfl; done) | (rfl; done) | (dsimp only; done)) subH_nil)) subH_nil))
       ·try dsimp only
        first
          | exact ⟨by omega, by rw [pU_succ hx32, nv_neg hc35, hu], by rw [take_succ_get hx32]; exact hZ.skip hc35⟩
          | (refine ⟨by omega, by rw [pU_succ hx32, nv_nn hc35, hu]; omega, ?_⟩
             rw [take_succ_get hx32]
             exact hZ.step hc35 hPl hx54)
       ·try dsimp only
        omega
      ·refine wp_skip' (to_k0 (fun _ _ h => h) (hK19 _ _ _ _ _ ?_))
       clear hK19
       refine wp_seq' fun K22 hK22 => ?_
       refine wp_reg ?_
       refine ol_r (r_assign rfl) rfl ?_
       refine ol_nil (to_k0 (fun _ _ h => h) (hK22 _ _ _ _ _ ?_))
       clear hK22
       refine wp_seq' fun K23 hK23 => ?_
       refine wp_block' ?_
       apply wp_loopM (σ := Nat) (fun s => s ≤ zs.length ∧ (s = 0 ∨ ∃ y, zs[s - 1]? = some y ∧ y < x32 + 1)) (fun s => [(13, .int .i64 s)]) [(1, _), (4, _), (5, _), (6, _), (9, _), (10, _), (12, _), (28, _), (29, _), (30, _)] (fun s => []) [(27, _)] (fun s => zs.length - s) (0)
       ·try dsimp only
        exact ⟨Nat.zero_le _, .inl rfl⟩
       ·exact (sub_cons rfl sub_nil)
       ·exact (sub_cons rfl (sub_cons rfl (sub_cons rfl (sub_cons rfl (sub_cons rfl (sub_cons rfl (sub_cons rfl (sub_cons rfl (sub_cons rfl (sub_cons rfl sub_nil))))))))))
       ·exact subH_nil
       ·exact (subH_same rfl subH_nil)
       ·rintro j ⟨hj, hjj⟩
        intro K24 hK24
        refine wp_seq' fun K25 hK25 => ?_
        refine wp_seq' fun K26 hK26 => ?_
        refine wp_reg ?_
        refine ol_r (r_move rfl) rfl ?_
        refine ol_r (r_move rfl) rfl ?_
        refine ol_r (r_len rfl sl22) rfl ?_
        refine ol_r (r_lss rfl rfl) rfl ?_
        refine ol_r (r_move rfl) rfl ?_
        refine ol_split (d := 42) rfl (fun hs42 => ?_) (fun hs42 => ?_)
        ·have phs42 := hs42; try simp only [decide_eq_true_eq, decide_eq_false_iff_not, Bool.not_eq_true', Bool.not_eq_false', Bool.not_true, Bool.not_false] at phs42
         refine ol_g rfl rfl hs42 ?_
         refine ol_r (r_move rfl) rfl ?_
         refine ol_g rfl rfl hs42 ?_
         refine ol_r (r_move rfl) rfl ?_
         refine ol_g rfl rfl hs42 ?_
         refine ol_ixr hz rfl rfl sl22 (by omega) rfl fun x45 hx45 => ?_
         try simp only [Int.toNat_natCast] at hx45
         refine ol_g rfl rfl hs42 ?_
         refine ol_r (r_ldw rfl (fun w1 hb1 hs1 hB1 => show Loads _ _ _ _ (.int .i64 x45) from Rd.loads hz ty3 hx45 hb1)) rfl ?_
         refine ol_g rfl rfl hs42 ?_
         refine ol_r (r_move rfl) rfl ?_
         refine ol_g rfl rfl hs42 ?_
         refine ol_r (r_leq rfl rfl) rfl ?_
         refine ol_r (r_pickT rfl hs42 rfl) rfl ?_
         refine ol_nil (to_k0 (fun _ _ h => h) (hK26 _ _ _ _ _ ?_))
         clear hK26
         first | refine wp_condD rfl (fun hc49 => ?_) (fun hc49 => ?_) | refine wp_condN rfl (fun hc49 => ?_) (fun hc49 => ?_) | refine wp_condNB rfl (fun hc49 => ?_) (fun hc49 => ?_) | refine wp_cond' rfl (fun hc49 => ?_) (fun hc49 => ?_)
         ·refine wp_skip' (to_k0 (fun _ _ h => h) (hK25 _ _ _ _ _ ?_))
          clear hK25
          refine wp_block' ?_
          refine wp_reg ?_
          refine ol_r (r_move rfl) rfl ?_
          refine ol_r (r_add rfl rfl (by omega)) rfl ?_
          refine ol_r (r_assign rfl) rfl ?_
          refine ol_nil (to_k0 (fun _ _ h => h) (hK24 (j + 1) _ _ ?_ ?_ (sub_cons rfl sub_nil) (sub_cons rfl (sub_cons rfl (sub_cons rfl (sub_cons rfl (sub_cons rfl (sub_cons rfl (sub_cons rfl (sub_cons rfl (sub_cons rfl (sub_cons rfl sub_nil)))))))))) (by exact subH_nil) (subH_same rfl subH_nil)))
          ·try dsimp only
           exact ⟨by omega, .inr ⟨_, hx45, by omega⟩⟩
          ·try dsimp only
           omega
         ·refine wp_exit' (to_k0 (fun _ _ h => h) (hK23 _ _ _ _ _ ?_))
          clear hK23
          refine wp_reg ?_
          refine ol_r (r_move rfl) rfl ?_
          refine ol_r (r_move rfl) rfl ?_
          have hPl : Place zs (x32 + 1) j := ⟨hj, hjj, by
              first
                | exact .inl (by omega)
                | exact .inr ⟨_, hx45, by omega⟩⟩
          refine ol_ixo (id := 27) encI _ rfl rfl rfl rfl sl22 (by omega) rfl fun x54 hx54 => ?_
          try simp only [Int.toNat_natCast] at hx54
          try simp only [Int.toNat_natCast] at hx54
          refine ol_r (r_ldw rfl (fun w1 hb1 hs1 hB1 => show Loads _ _ _ _ (.int .i64 x54) from ld_own (id := 27) hs1 rfl rfl ty3 hx54)) rfl ?_
          have qs := (hZ.sum).2 _ (List.mem_of_getElem? hx54)
          rw [List.length_take] at qs
          refine ol_r (r_add rfl rfl (by omega)) rfl ?_
          refine ol_ixo (id := 27) encI _ rfl rfl rfl rfl sl22 (by omega) rfl fun x57 hx57 => ?_
          try simp only [Int.toNat_natCast] at hx57
          try simp only [Int.toNat_natCast] at hx57
          refine ol_storeRow (id := 27) _ _ _ rfl rfl rfl rfl sz3 (by omega) ?_
          refine ol_nil (to_k0 (fun _ _ h => h) (hK17 _ _ _ _ _ ?_))
          clear hK17
          refine wp_reg ?_
          refine ol_r (r_add rfl rfl (by omega)) rfl ?_
          refine ol_r (r_move rfl) rfl ?_
          refine ol_nil (to_k0 (fun _ _ h => h) (hK14 ((i + 1, _, _)) _ _ ?_ ?_ (sub_cons rfl (sub_cons rfl sub_nil)) (sub_cons rfl (sub_cons rfl (sub_cons rfl (sub_cons rfl (sub_cons rfl (sub_cons rfl (sub_cons rfl sub_nil))))))) (by exact (subH_row rfl (by first | (dsimp only; rfl; done) | (rfl; done) | (dsimp only; done)) subH_nil)) subH_nil))
          ·try dsimp only
           first
             | exact ⟨by omega, by rw [pU_succ hx32, nv_neg hc35, hu], by rw [take_succ_get hx32]; exact hZ.skip hc35⟩
             | (refine ⟨by omega, by rw [pU_succ hx32, nv_nn hc35, hu]; omega, ?_⟩
                rw [take_succ_get hx32]
                exact hZ.step hc35 hPl hx54)
          ·try dsimp only
           omega
        ·have phs42 := hs42; try simp only [decide_eq_true_eq, decide_eq_false_iff_not, Bool.not_eq_true', Bool.not_eq_false', Bool.not_true, Bool.not_false] at phs42
         refine ol_s rfl rfl hs42 rfl ?_
         refine ol_s rfl rfl hs42 rfl ?_
         refine ol_s rfl rfl hs42 rfl ?_
         refine ol_s rfl rfl hs42 rfl ?_
         refine ol_s rfl rfl hs42 rfl ?_
         refine ol_s rfl rfl hs42 rfl ?_
         refine ol_r (r_pickF rfl hs42 rfl) rfl ?_
         refine ol_nil (to_k0 (fun _ _ h => h) (hK26 _ _ _ _ _ ?_))
         clear hK26
         refine wp_condF rfl ?_
         refine wp_exit' (to_k0 (fun _ _ h => h) (hK23 _ _ _ _ _ ?_))
         clear hK23
         refine wp_reg ?_
         refine ol_r (r_move rfl) rfl ?_
         refine ol_r (r_move rfl) rfl ?_
         have hPl : Place zs (x32 + 1) j := ⟨hj, hjj, by
             first
               | exact .inl (by omega)
               | exact .inr ⟨_, hx45, by omega⟩⟩
         refine ol_ixo (id := 27) encI _ rfl rfl rfl rfl sl22 (by omega) rfl fun x54 hx54 => ?_
         try simp only [Int.toNat_natCast] at hx54
         try simp only [Int.toNat_natCast] at hx54
         refine ol_r (r_ldw rfl (fun w1 hb1 hs1 hB1 => show Loads _ _ _ _ (.int .i64 x54) from ld_own (id := 27) hs1 rfl rfl ty3 hx54)) rfl ?_
         have qs := (hZ.sum).2 _ (List.mem_of_getElem? hx54)
         rw [List.length_take] at qs
         refine ol_r (r_add rfl rfl (by omega)) rfl ?_
         refine ol_ixo (id := 27) encI _ rfl rfl rfl rfl sl22 (by omega) rfl fun x57 hx57 => ?_
         try simp only [Int.toNat_natCast] at hx57
         try simp only [Int.toNat_natCast] at hx57
         refine ol_storeRow (id := 27) _ _ _ rfl rfl rfl rfl sz3 (by omega) ?_
         refine ol_nil (to_k0 (fun _ _ h => h) (hK17 _ _ _ _ _ ?_))
         clear hK17
         refine wp_reg ?_
         refine ol_r (r_add rfl rfl (by omega)) rfl ?_
         refine ol_r (r_move rfl) rfl ?_
         refine ol_nil (to_k0 (fun _ _ h => h) (hK14 ((i + 1, _, _)) _ _ ?_ ?_ (sub_cons rfl (sub_cons rfl sub_nil)) (sub_cons rfl (sub_cons rfl (sub_cons rfl (sub_cons rfl (sub_cons rfl (sub_cons rfl (sub_cons rfl sub_nil))))))) (by exact (subH_row rfl (by first | (dsimp only; rfl; done) | (rfl; done) | (dsimp only; done)) subH_nil)) subH_nil))
         ·try dsimp only
          first
            | exact ⟨by omega, by rw [pU_succ hx32, nv_neg hc35, hu], by rw [take_succ_get hx32]; exact hZ.skip hc35⟩
            | (refine ⟨by omega, by rw [pU_succ hx32, nv_nn hc35, hu]; omega, ?_⟩
               rw [take_succ_get hx32]
               exact hZ.step hc35 hPl hx54)
         ·try dsimp only
          omega
     ·refine wp_exit' (to_k0 (fun _ _ h => h) (hK12 _ _ _ _ _ ?_))
      clear hK12
      refine wp_seq' fun K27 hK27 => ?_
      refine wp_reg ?_
      refine ol_r (r_move rfl) rfl ?_
      refine ol_r (r_move rfl) rfl ?_
      refine ol_r (r_assign rfl) rfl ?_
      refine ol_r (r_assign rfl) rfl ?_
      refine ol_r (r_assign rfl) rfl ?_
      refine ol_nil (to_k0 (fun _ _ h => h) (hK27 _ _ _ _ _ ?_))
      clear hK27
      refine hQ.ret (rvs3 (rv_t rfl) (rv_t rfl) (rv_t rfl)) (fun _ _ h => h) fun w hb hs hB hkd => ?_
      first
        | (refine ⟨[], 0, _, none, 0, 0, ?_, rfl, Fresh.nil hb⟩
           unfold ZonesR
           first
             | (rw [if_pos hc17]; exact ⟨rfl, rfl, rfl⟩)
             | (rw [if_neg hc17, if_pos hc22]; exact ⟨rfl, rfl, rfl⟩))
        | (have hin : i = xs.length := by omega
           subst hin
           rw [List.take_length] at hZ
           refine ⟨out, u, 0, _, _, _, ?_, rfl, hb, hs.ok 27 _ rfl⟩
           unfold ZonesR
           rw [if_neg hc17, if_neg hc22]
           exact ⟨hZ, hu, rfl⟩)
end Go.Proofs.Ytafkojlccknicaa
