/-
  CheckTests, Fit, Errors, program and reference; the walk of LoadFitMatchesSpec.
-/
import Derived.Test.YtamlldedmhkobaaLoadMore
import Derived.Test.YtamlldedmhkobaaEncTest
import Derived.Test.YtamlldedmhkobaaHx3
namespace Go.Proofs.Ytamlldedmhkobaa
open Go Go.RowKit Hx
set_option linter.unusedVariables false
set_option linter.unusedSimpArgs false
set_option maxRecDepth 8000

def tstB (x : TestR) : Bool := inB x.sec 1 10000 && inB x.work 0 100000000
def tstO (p : Option TestR) (x : TestR) : Bool := match p with | some y => decide (x.sec ≤ y.sec) | none => false
def chkTs : Option TestR → List TestR → Int
  | _, [] => 0
  | p, x :: r => if tstB x = false then 9 else if tstO p x = true then 10 else chkTs (some x) r
def testsR (xs : List TestR) : Int := if 20 < xs.length then 3 else chkTs none xs
theorem chkTs_cons (p : Option TestR) (x : TestR) (r : List TestR) : chkTs p (x :: r) = if tstB x = false then 9 else if tstO p x = true then 10 else chkTs (some x) r := rfl
theorem chk_bad {xs : List TestR} {k : Nat} {x : TestR} (hP : testsR xs = chkTs (ahead xs k) (xs.drop k)) (hx : xs[k]? = some x) (h : tstB x = false) : testsR xs = 9 := by
  rw [hP, drop_cons_get hx, chkTs_cons, if_pos h]
theorem chk_ord {xs : List TestR} {k : Nat} {x y : TestR} (hP : testsR xs = chkTs (ahead xs k) (xs.drop k)) (hx : xs[k]? = some x) (h : tstB x = true) (hk : (0 : Int) < (k : Int)) (hy : xs[((k : Int) - 1).toNat]? = some y) (ho : x.sec ≤ y.sec) : testsR xs = 10 := by
  rw [hP, drop_cons_get hx, chkTs_cons, if_neg (by rw [h]; simp), ahead_pred hk hy, if_pos (by simpa [tstO] using ho)]
theorem chk_next {xs : List TestR} {k : Nat} {x y : TestR} (hP : testsR xs = chkTs (ahead xs k) (xs.drop k)) (hx : xs[k]? = some x) (h : tstB x = true) (hk : (0 : Int) < (k : Int)) (hy : xs[((k : Int) - 1).toNat]? = some y) (ho : ¬x.sec ≤ y.sec) : testsR xs = chkTs (ahead xs (k + 1)) (xs.drop (k + 1)) := by
  rw [hP, drop_cons_get hx, chkTs_cons, if_neg (by rw [h]; simp), ahead_pred hk hy, if_neg (by simpa [tstO] using ho), ahead_succ hx]
theorem chk_next0 {xs : List TestR} {k : Nat} {x : TestR} (hP : testsR xs = chkTs (ahead xs k) (xs.drop k)) (hx : xs[k]? = some x) (h : tstB x = true) (hk : ¬(0 : Int) < (k : Int)) : testsR xs = chkTs (ahead xs (k + 1)) (xs.drop (k + 1)) := by
  have h0 : k = 0 := by omega
  subst h0
  rw [hP, drop_cons_get hx, chkTs_cons, if_neg (by rw [h]; simp), ahead_zero, if_neg (by simp [tstO]), ahead_succ hx]
theorem chk_end {xs : List TestR} {k : Nat} (hP : testsR xs = chkTs (ahead xs k) (xs.drop k)) (hk : xs.length ≤ k) : testsR xs = 0 := by
  rw [hP, List.drop_eq_nil_of_le hk]; rfl

theorem load_CheckTests (a : Option Addr) (n cap : Nat) (xs : List TestR) (w : World) (hl : Rd encTest w.heap.size w a n cap xs) :
    Calls Try.prog 28 #[.slice a n cap] w fun e w' => e = .returned (.int .i64 (testsR xs)) ∧ Below w.heap.size w w' := by
  have hn := hl.len
  have hfit := hl.fit
  refine enterQ (N := 39) (C := fun _ => True) (H := []) (B := w.heap.size) (args := [_]) Try.func28 rfl rfl rfl (Nat.le_refl _) (Sat.nil _ _) fun Q hQ => ?_
  refine wp_seq' fun K1 hK1 => ?_
  refine wp_reg ?_
  refine ol_r (r_assign rfl) rfl ?_
  refine ol_nil (to_k0 (fun _ _ h => h) (hK1 _ _ _ _ _ ?_))
  clear hK1
  refine wp_seq' fun K2 hK2 => ?_
  refine wp_seq' fun K3 hK3 => ?_
  refine wp_reg ?_
  refine ol_r (r_move rfl) rfl ?_
  refine ol_r (r_len rfl sl38) rfl ?_
  refine ol_r (r_gtr rfl rfl) rfl ?_
  refine ol_nil (to_k0 (fun _ _ h => h) (hK3 _ _ _ _ _ ?_))
  clear hK3
  first | refine wp_condD rfl (fun hc7 => ?_) (fun hc7 => ?_) | refine wp_condN rfl (fun hc7 => ?_) (fun hc7 => ?_) | refine wp_condNB rfl (fun hc7 => ?_) (fun hc7 => ?_) | refine wp_cond' rfl (fun hc7 => ?_) (fun hc7 => ?_)
  ·refine wp_seq' fun K4 hK4 => ?_
   refine wp_reg ?_
   refine ol_r (r_assign rfl) rfl ?_
   refine ol_nil (to_k0 (fun _ _ h => h) (hK4 _ _ _ _ _ ?_))
   clear hK4
   refine hQ.ret (rvs1 (rv_t rfl)) (fun _ _ h => h) fun w hb hs hB hkd => ?_
   first
     | (refine ⟨by rw [show testsR xs = 3 from if_pos (by omega)], hb⟩; done)
     | (refine ⟨by rw [chk_end hP (by omega)], hb⟩; done)
     | (have hq : tstB x13 = true := by unfold tstB; rw [show inB x13.sec 1 10000 = true by simpa using hs19, show inB x13.work 0 100000000 = true by simpa using hc24]; rfl
        refine ⟨by rw [chk_ord hP hx13 hq phs27 hx33 hc37], hb⟩; done)
     | (refine ⟨?_, hb⟩; rw [chk_bad hP hx13 (by unfold tstB; simp_all)]; done)
  ·refine wp_skip' (to_k0 (fun _ _ h => h) (hK2 _ _ _ _ _ ?_))
   clear hK2
   refine wp_seq' fun K5 hK5 => ?_
   refine wp_seq' fun K6 hK6 => ?_
   refine wp_reg ?_
   refine ol_r (r_move rfl) rfl ?_
   refine ol_r (r_len rfl sl38) rfl ?_
   refine ol_r (r_move rfl) rfl ?_
   refine ol_nil (to_k0 (fun _ _ h => h) (hK6 _ _ _ _ _ ?_))
   clear hK6
   refine wp_block' ?_
   apply wp_loopM (σ := Nat) (fun s => s ≤ n ∧ testsR xs = chkTs (ahead xs s) (xs.drop s)) (fun s => [(10, .int .i64 s)]) [(0, _), (8, _), (9, _)] (fun s => []) [] (fun s => n - s) (0)
   ·try dsimp only
    exact ⟨by omega, by unfold testsR; rw [if_neg (by omega)]; rfl⟩
   ·exact (sub_cons rfl sub_nil)
   ·exact (sub_cons rfl (sub_cons rfl (sub_cons rfl sub_nil)))
   ·exact subH_nil
   ·exact subH_nil
   ·rintro k ⟨hk, hP⟩
    intro K7 hK7
    refine wp_seq' fun K8 hK8 => ?_
    refine wp_reg ?_
    refine ol_r (r_lss rfl rfl) rfl ?_
    refine ol_nil (to_k0 (fun _ _ h => h) (hK8 _ _ _ _ _ ?_))
    clear hK8
    refine wp_seq' fun K9 hK9 => ?_
    first | refine wp_condD rfl (fun hc11 => ?_) (fun hc11 => ?_) | refine wp_condN rfl (fun hc11 => ?_) (fun hc11 => ?_) | refine wp_condNB rfl (fun hc11 => ?_) (fun hc11 => ?_) | refine wp_cond' rfl (fun hc11 => ?_) (fun hc11 => ?_)
    ·refine wp_skip' (to_k0 (fun _ _ h => h) (hK9 _ _ _ _ _ ?_))
     clear hK9
     refine wp_seq' fun K10 hK10 => ?_
     refine wp_block' ?_
     refine wp_seq' fun K11 hK11 => ?_
     refine wp_reg ?_
     refine ol_r (r_move rfl) rfl ?_
     refine ol_ixr hl rfl rfl sl38 (by omega) rfl fun x13 hx13 => ?_
     try simp only [Int.toNat_natCast] at hx13
     refine ol_r (r_ldw rfl (fun w1 hb1 hs1 hB1 => Rd.loads hl ty87 hx13 hb1)) rfl ?_
     refine ol_alloc 4 z87 rfl fun b4 => ?_
     refine ol_r (r_assign rfl) rfl ?_
     refine ol_store (id := 4) rfl rfl rfl rfl sz87 rfl rfl (by first | decide | exact Nat.zero_lt_succ _ | simp) ?_
     refine ol_nil (to_k0 (fun _ _ h => h) (hK11 _ _ _ _ _ ?_))
     clear hK11
     refine wp_seq' fun K12 hK12 => ?_
     refine wp_seq' fun K13 hK13 => ?_
     refine wp_reg ?_
     refine ol_r (r_fa (o' := 0) rfl fl87_0 rfl) rfl ?_
     refine ol_r (r_ld (id := 4) rfl rfl rfl sc3) rfl ?_
     refine ol_call rfl rfl cb67 rfl (fun w1 hb1 hs1 hB1 => Calls.mono (load_in _ _ _ _) ?_)
     rintro e w2 ⟨rfl, hb2⟩
     refine After.below rfl hb1 hs1 hB1 hb2 ?_
     clear hb2 hB1 hs1 hb1 w2 w1
     refine ol_r (r_not rfl) rfl ?_
     refine ol_r (r_move rfl) rfl ?_
     refine ol_split (d := 19) rfl (fun hs19 => ?_) (fun hs19 => ?_)
     ·have phs19 := hs19; try simp only [decide_eq_true_eq, decide_eq_false_iff_not, Bool.not_eq_true', Bool.not_eq_false', Bool.not_true, Bool.not_false] at phs19
      refine ol_s rfl rfl hs19 rfl ?_
      refine ol_s rfl rfl hs19 rfl ?_
      refine ol_s rfl rfl hs19 rfl ?_
      refine ol_s rfl rfl hs19 rfl ?_
      refine ol_r (r_pickT rfl hs19 rfl) rfl ?_
      refine ol_nil (to_k0 (fun _ _ h => h) (hK13 _ _ _ _ _ ?_))
      clear hK13
      refine wp_condT rfl ?_
      refine wp_seq' fun K14 hK14 => ?_
      refine wp_reg ?_
      refine ol_r (r_assign rfl) rfl ?_
      refine ol_nil (to_k0 (fun _ _ h => h) (hK14 _ _ _ _ _ ?_))
      clear hK14
      refine hQ.ret (rvs1 (rv_t rfl)) (fun _ _ h => h) fun w hb hs hB hkd => ?_
      first
        | (refine ⟨by rw [show testsR xs = 3 from if_pos (by omega)], hb⟩; done)
        | (refine ⟨by rw [chk_end hP (by omega)], hb⟩; done)
        | (have hq : tstB x13 = true := by unfold tstB; rw [show inB x13.sec 1 10000 = true by simpa using hs19, show inB x13.work 0 100000000 = true by simpa using hc24]; rfl
           refine ⟨by rw [chk_ord hP hx13 hq phs27 hx33 hc37], hb⟩; done)
        | (refine ⟨?_, hb⟩; rw [chk_bad hP hx13 (by unfold tstB; simp_all)]; done)
     ·have phs19 := hs19; try simp only [decide_eq_true_eq, decide_eq_false_iff_not, Bool.not_eq_true', Bool.not_eq_false', Bool.not_true, Bool.not_false] at phs19
      refine ol_g rfl rfl hs19 ?_
      refine ol_r (r_fa (o' := 1) rfl fl87_1 rfl) rfl ?_
      refine ol_g rfl rfl hs19 ?_
      refine ol_r (r_ld (id := 4) rfl rfl rfl sc3) rfl ?_
      refine ol_g rfl rfl hs19 ?_
      refine ol_call rfl rfl cb67 rfl (fun w1 hb1 hs1 hB1 => Calls.mono (load_in _ _ _ _) ?_)
      rintro e w2 ⟨rfl, hb2⟩
      refine After.below rfl hb1 hs1 hB1 hb2 ?_
      clear hb2 hB1 hs1 hb1 w2 w1
      refine ol_g rfl rfl hs19 ?_
      refine ol_r (r_not rfl) rfl ?_
      refine ol_r (r_pickF rfl hs19 rfl) rfl ?_
      refine ol_nil (to_k0 (fun _ _ h => h) (hK13 _ _ _ _ _ ?_))
      clear hK13
      first | refine wp_condD rfl (fun hc24 => ?_) (fun hc24 => ?_) | refine wp_condN rfl (fun hc24 => ?_) (fun hc24 => ?_) | refine wp_condNB rfl (fun hc24 => ?_) (fun hc24 => ?_) | refine wp_cond' rfl (fun hc24 => ?_) (fun hc24 => ?_)
      ·refine wp_seq' fun K15 hK15 => ?_
       refine wp_reg ?_
       refine ol_r (r_assign rfl) rfl ?_
       refine ol_nil (to_k0 (fun _ _ h => h) (hK15 _ _ _ _ _ ?_))
       clear hK15
       refine hQ.ret (rvs1 (rv_t rfl)) (fun _ _ h => h) fun w hb hs hB hkd => ?_
       first
         | (refine ⟨by rw [show testsR xs = 3 from if_pos (by omega)], hb⟩; done)
         | (refine ⟨by rw [chk_end hP (by omega)], hb⟩; done)
         | (have hq : tstB x13 = true := by unfold tstB; rw [show inB x13.sec 1 10000 = true by simpa using hs19, show inB x13.work 0 100000000 = true by simpa using hc24]; rfl
            refine ⟨by rw [chk_ord hP hx13 hq phs27 hx33 hc37], hb⟩; done)
         | (refine ⟨?_, hb⟩; rw [chk_bad hP hx13 (by unfold tstB; simp_all)]; done)
      ·refine wp_skip' (to_k0 (fun _ _ h => h) (hK12 _ _ _ _ _ ?_))
       clear hK12
       refine wp_seq' fun K16 hK16 => ?_
       refine wp_regq (by kernel_rfl) (by kernel_rfl) ?_
       refine ql_r (r_move rfl) rfl ?_
       refine ql_r (r_gtr rfl rfl) rfl ?_
       refine ql_r (r_move rfl) rfl ?_
       refine ql_split (d := 27) rfl (fun hs27 => ?_) (fun hs27 => ?_)
       ·have phs27 := hs27; try simp only [decide_eq_true_eq, decide_eq_false_iff_not, Bool.not_eq_true', Bool.not_eq_false', Bool.not_true, Bool.not_false] at phs27
        refine ql_g rfl rfl hs27 ?_
        refine ql_r (r_fa (o' := 0) rfl fl87_0 rfl) rfl ?_
        refine ql_g rfl rfl hs27 ?_
        refine ql_r (r_ld (id := 4) rfl rfl rfl sc3) rfl ?_
        refine ql_g rfl rfl hs27 ?_
        refine ql_r (r_move rfl) rfl ?_
        refine ql_g rfl rfl hs27 ?_
        refine ql_r (r_move rfl) rfl ?_
        refine ql_g rfl rfl hs27 ?_
        refine ql_r (r_sub rfl rfl (by omega)) rfl ?_
        refine ql_g rfl rfl hs27 ?_
        refine ql_ixr hl rfl rfl sl38 (by omega) rfl fun x33 hx33 => ?_
        try simp only [Int.toNat_natCast] at hx33
        refine ql_g rfl rfl hs27 ?_
        refine ql_r (r_faw rfl (ix_some hl (by omega)) fl87_0) rfl ?_
        refine ql_g rfl rfl hs27 ?_
        refine ql_r (r_ldw rfl (fun w1 hb1 hs1 hB1 => Rd.loadsF (o := 0) hl sc3 hx33 hb1 rfl)) rfl ?_
        refine ql_g rfl rfl hs27 ?_
        refine ql_r (r_leq rfl rfl) rfl ?_
        refine ql_r (r_pickT rfl hs27 rfl) rfl ?_
        refine ql_nil (to_k0 (fun _ _ h => h) (hK16 _ _ _ _ _ ?_))
        clear hK16
        first | refine wp_condD rfl (fun hc37 => ?_) (fun hc37 => ?_) | refine wp_condN rfl (fun hc37 => ?_) (fun hc37 => ?_) | refine wp_condNB rfl (fun hc37 => ?_) (fun hc37 => ?_) | refine wp_cond' rfl (fun hc37 => ?_) (fun hc37 => ?_)
        ·refine wp_seq' fun K17 hK17 => ?_
         refine wp_reg ?_
         refine ol_r (r_assign rfl) rfl ?_
         refine ol_nil (to_k0 (fun _ _ h => h) (hK17 _ _ _ _ _ ?_))
         clear hK17
         refine hQ.ret (rvs1 (rv_t rfl)) (fun _ _ h => h) fun w hb hs hB hkd => ?_
         first
           | (refine ⟨by rw [show testsR xs = 3 from if_pos (by omega)], hb⟩; done)
           | (refine ⟨by rw [chk_end hP (by omega)], hb⟩; done)
           | (have hq : tstB x13 = true := by unfold tstB; rw [show inB x13.sec 1 10000 = true by simpa using hs19, show inB x13.work 0 100000000 = true by simpa using hc24]; rfl
              refine ⟨by rw [chk_ord hP hx13 hq phs27 hx33 hc37], hb⟩; done)
           | (refine ⟨?_, hb⟩; rw [chk_bad hP hx13 (by unfold tstB; simp_all)]; done)
        ·refine wp_skip' (to_k0 (fun _ _ h => h) (hK10 _ _ _ _ _ ?_))
         clear hK10
         refine wp_reg ?_
         refine ol_r (r_add rfl rfl (by omega)) rfl ?_
         refine ol_r (r_move rfl) rfl ?_
         refine ol_nil (to_k0 (fun _ _ h => h) (hK7 (k + 1) _ _ ?_ ?_ (sub_cons rfl sub_nil) (sub_cons rfl (sub_cons rfl (sub_cons rfl sub_nil))) (by exact subH_nil) subH_nil))
         ·try dsimp only
          have hq : tstB x13 = true := by unfold tstB; rw [show inB x13.sec 1 10000 = true by simpa using hs19, show inB x13.work 0 100000000 = true by simpa using hc24]; rfl
          refine ⟨by omega, ?_⟩
          first | exact chk_next hP hx13 hq phs27 hx33 hc37 | exact chk_next0 hP hx13 hq phs27
         ·try dsimp only
          omega
       ·have phs27 := hs27; try simp only [decide_eq_true_eq, decide_eq_false_iff_not, Bool.not_eq_true', Bool.not_eq_false', Bool.not_true, Bool.not_false] at phs27
        refine ql_s rfl rfl hs27 rfl ?_
        refine ql_s rfl rfl hs27 rfl ?_
        refine ql_s rfl rfl hs27 rfl ?_
        refine ql_s rfl rfl hs27 rfl ?_
        refine ql_s rfl rfl hs27 rfl ?_
        refine ql_s rfl rfl hs27 rfl ?_
        refine ql_s rfl rfl hs27 rfl ?_
        refine ql_s rfl rfl hs27 rfl ?_
        refine ql_s rfl rfl hs27 rfl ?_
        refine ql_r (r_pickF rfl hs27 rfl) rfl ?_
        refine ql_nil (to_k0 (fun _ _ h => h) (hK16 _ _ _ _ _ ?_))
        clear hK16
        refine wp_condF rfl ?_
        refine wp_skip' (to_k0 (fun _ _ h => h) (hK10 _ _ _ _ _ ?_))
        clear hK10
        refine wp_reg ?_
        refine ol_r (r_add rfl rfl (by omega)) rfl ?_
        refine ol_r (r_move rfl) rfl ?_
        refine ol_nil (to_k0 (fun _ _ h => h) (hK7 (k + 1) _ _ ?_ ?_ (sub_cons rfl sub_nil) (sub_cons rfl (sub_cons rfl (sub_cons rfl sub_nil))) (by exact subH_nil) subH_nil))
        ·try dsimp only
         have hq : tstB x13 = true := by unfold tstB; rw [show inB x13.sec 1 10000 = true by simpa using hs19, show inB x13.work 0 100000000 = true by simpa using hc24]; rfl
         refine ⟨by omega, ?_⟩
         first | exact chk_next hP hx13 hq phs27 hx33 hc37 | exact chk_next0 hP hx13 hq phs27
        ·try dsimp only
         omega
    ·refine wp_exit' (to_k0 (fun _ _ h => h) (hK5 _ _ _ _ _ ?_))
     clear hK5
     refine wp_seq' fun K18 hK18 => ?_
     refine wp_reg ?_
     refine ol_r (r_assign rfl) rfl ?_
     refine ol_nil (to_k0 (fun _ _ h => h) (hK18 _ _ _ _ _ ?_))
     clear hK18
     refine hQ.ret (rvs1 (rv_t rfl)) (fun _ _ h => h) fun w hb hs hB hkd => ?_
     first
       | (refine ⟨by rw [show testsR xs = 3 from if_pos (by omega)], hb⟩; done)
       | (refine ⟨by rw [chk_end hP (by omega)], hb⟩; done)
       | (have hq : tstB x13 = true := by unfold tstB; rw [show inB x13.sec 1 10000 = true by simpa using hs19, show inB x13.work 0 100000000 = true by simpa using hc24]; rfl
          refine ⟨by rw [chk_ord hP hx13 hq phs27 hx33 hc37], hb⟩; done)
       | (refine ⟨?_, hb⟩; rw [chk_bad hP hx13 (by unfold tstB; simp_all)]; done)
theorem ref_CheckTests (a : Option Addr) (n cap : Nat) (xs : List TestR) (w : World) (hl : Rd encTest w.heap.size w a n cap xs) :
    Calls Try.prog 29 #[.slice a n cap] w fun e w' => e = .returned (.int .i64 (testsR xs)) ∧ Below w.heap.size w w' := by
  have hn := hl.len
  have hfit := hl.fit
  refine enterQ (N := 37) (C := fun _ => True) (H := []) (B := w.heap.size) (args := [_]) Try.func29 rfl rfl rfl (Nat.le_refl _) (Sat.nil _ _) fun Q hQ => ?_
  refine wp_seq' fun K1 hK1 => ?_
  refine wp_reg ?_
  refine ol_r (r_assign rfl) rfl ?_
  refine ol_nil (to_k0 (fun _ _ h => h) (hK1 _ _ _ _ _ ?_))
  clear hK1
  refine wp_seq' fun K2 hK2 => ?_
  refine wp_seq' fun K3 hK3 => ?_
  refine wp_reg ?_
  refine ol_r (r_move rfl) rfl ?_
  refine ol_r (r_len rfl sl38) rfl ?_
  refine ol_r (r_gtr rfl rfl) rfl ?_
  refine ol_nil (to_k0 (fun _ _ h => h) (hK3 _ _ _ _ _ ?_))
  clear hK3
  first | refine wp_condD rfl (fun hc7 => ?_) (fun hc7 => ?_) | refine wp_condN rfl (fun hc7 => ?_) (fun hc7 => ?_) | refine wp_condNB rfl (fun hc7 => ?_) (fun hc7 => ?_) | refine wp_cond' rfl (fun hc7 => ?_) (fun hc7 => ?_)
  ·refine wp_seq' fun K4 hK4 => ?_
   refine wp_reg ?_
   refine ol_r (r_assign rfl) rfl ?_
   refine ol_nil (to_k0 (fun _ _ h => h) (hK4 _ _ _ _ _ ?_))
   clear hK4
   refine hQ.ret (rvs1 (rv_t rfl)) (fun _ _ h => h) fun w hb hs hB hkd => ?_
   first
     | (refine ⟨by rw [show testsR xs = 3 from if_pos (by omega)], hb⟩; done)
     | (refine ⟨by rw [chk_end hP (by omega)], hb⟩; done)
     | (have hq : tstB x13 = true := by unfold tstB; simp_all
        refine ⟨by rw [chk_ord hP hx13 hq phs25 hx31 hc35], hb⟩; done)
     | (refine ⟨?_, hb⟩; rw [chk_bad hP hx13 (by unfold tstB; simp_all)]; done)
  ·refine wp_skip' (to_k0 (fun _ _ h => h) (hK2 _ _ _ _ _ ?_))
   clear hK2
   refine wp_seq' fun K5 hK5 => ?_
   refine wp_seq' fun K6 hK6 => ?_
   refine wp_reg ?_
   refine ol_r (r_move rfl) rfl ?_
   refine ol_r (r_len rfl sl38) rfl ?_
   refine ol_r (r_move rfl) rfl ?_
   refine ol_nil (to_k0 (fun _ _ h => h) (hK6 _ _ _ _ _ ?_))
   clear hK6
   refine wp_block' ?_
   apply wp_loopM (σ := Nat) (fun s => s ≤ n ∧ testsR xs = chkTs (ahead xs s) (xs.drop s)) (fun s => [(10, .int .i64 s)]) [(0, _), (8, _), (9, _)] (fun s => []) [] (fun s => n - s) (0)
   ·try dsimp only
    exact ⟨by omega, by unfold testsR; rw [if_neg (by omega)]; rfl⟩
   ·exact (sub_cons rfl sub_nil)
   ·exact (sub_cons rfl (sub_cons rfl (sub_cons rfl sub_nil)))
   ·exact subH_nil
   ·exact subH_nil
   ·rintro k ⟨hk, hP⟩
    intro K7 hK7
    refine wp_seq' fun K8 hK8 => ?_
    refine wp_reg ?_
    refine ol_r (r_lss rfl rfl) rfl ?_
    refine ol_nil (to_k0 (fun _ _ h => h) (hK8 _ _ _ _ _ ?_))
    clear hK8
    refine wp_seq' fun K9 hK9 => ?_
    first | refine wp_condD rfl (fun hc11 => ?_) (fun hc11 => ?_) | refine wp_condN rfl (fun hc11 => ?_) (fun hc11 => ?_) | refine wp_condNB rfl (fun hc11 => ?_) (fun hc11 => ?_) | refine wp_cond' rfl (fun hc11 => ?_) (fun hc11 => ?_)
    ·refine wp_skip' (to_k0 (fun _ _ h => h) (hK9 _ _ _ _ _ ?_))
     clear hK9
     refine wp_seq' fun K10 hK10 => ?_
     refine wp_block' ?_
     refine wp_seq' fun K11 hK11 => ?_
     refine wp_reg ?_
     refine ol_r (r_move rfl) rfl ?_
     refine ol_ixr hl rfl rfl sl38 (by omega) rfl fun x13 hx13 => ?_
     try simp only [Int.toNat_natCast] at hx13
     refine ol_r (r_ldw rfl (fun w1 hb1 hs1 hB1 => Rd.loads hl ty87 hx13 hb1)) rfl ?_
     refine ol_alloc 4 z87 rfl fun b4 => ?_
     refine ol_r (r_assign rfl) rfl ?_
     refine ol_store (id := 4) rfl rfl rfl rfl sz87 rfl rfl (by first | decide | exact Nat.zero_lt_succ _ | simp) ?_
     refine ol_nil (to_k0 (fun _ _ h => h) (hK11 _ _ _ _ _ ?_))
     clear hK11
     refine wp_seq' fun K12 hK12 => ?_
     refine wp_seq' fun K13 hK13 => ?_
     refine wp_reg ?_
     refine ol_r (r_fa (o' := 0) rfl fl87_0 rfl) rfl ?_
     refine ol_r (r_ld (id := 4) rfl rfl rfl sc3) rfl ?_
     refine ol_call rfl rfl cb62 rfl (fun w1 hb1 hs1 hB1 => Calls.mono (ref_outside _ _ _ _) ?_)
     rintro e w2 ⟨rfl, hb2⟩
     refine After.below rfl hb1 hs1 hB1 hb2 ?_
     clear hb2 hB1 hs1 hb1 w2 w1
     refine ol_r (r_move rfl) rfl ?_
     refine ol_split (d := 18) rfl (fun hs18 => ?_) (fun hs18 => ?_)
     ·have phs18 := hs18; try simp only [decide_eq_true_eq, decide_eq_false_iff_not, Bool.not_eq_true', Bool.not_eq_false', Bool.not_true, Bool.not_false] at phs18
      refine ol_s rfl rfl hs18 rfl ?_
      refine ol_s rfl rfl hs18 rfl ?_
      refine ol_s rfl rfl hs18 rfl ?_
      refine ol_r (r_pickT rfl hs18 rfl) rfl ?_
      refine ol_nil (to_k0 (fun _ _ h => h) (hK13 _ _ _ _ _ ?_))
      clear hK13
      refine wp_condT rfl ?_
      refine wp_seq' fun K14 hK14 => ?_
      refine wp_reg ?_
      refine ol_r (r_assign rfl) rfl ?_
      refine ol_nil (to_k0 (fun _ _ h => h) (hK14 _ _ _ _ _ ?_))
      clear hK14
      refine hQ.ret (rvs1 (rv_t rfl)) (fun _ _ h => h) fun w hb hs hB hkd => ?_
      first
        | (refine ⟨by rw [show testsR xs = 3 from if_pos (by omega)], hb⟩; done)
        | (refine ⟨by rw [chk_end hP (by omega)], hb⟩; done)
        | (have hq : tstB x13 = true := by unfold tstB; simp_all
           refine ⟨by rw [chk_ord hP hx13 hq phs25 hx31 hc35], hb⟩; done)
        | (refine ⟨?_, hb⟩; rw [chk_bad hP hx13 (by unfold tstB; simp_all)]; done)
     ·have phs18 := hs18; try simp only [decide_eq_true_eq, decide_eq_false_iff_not, Bool.not_eq_true', Bool.not_eq_false', Bool.not_true, Bool.not_false] at phs18
      refine ol_g rfl rfl hs18 ?_
      refine ol_r (r_fa (o' := 1) rfl fl87_1 rfl) rfl ?_
      refine ol_g rfl rfl hs18 ?_
      refine ol_r (r_ld (id := 4) rfl rfl rfl sc3) rfl ?_
      refine ol_g rfl rfl hs18 ?_
      refine ol_call rfl rfl cb62 rfl (fun w1 hb1 hs1 hB1 => Calls.mono (ref_outside _ _ _ _) ?_)
      rintro e w2 ⟨rfl, hb2⟩
      refine After.below rfl hb1 hs1 hB1 hb2 ?_
      clear hb2 hB1 hs1 hb1 w2 w1
      refine ol_r (r_pickF rfl hs18 rfl) rfl ?_
      refine ol_nil (to_k0 (fun _ _ h => h) (hK13 _ _ _ _ _ ?_))
      clear hK13
      first | refine wp_condD rfl (fun hc22 => ?_) (fun hc22 => ?_) | refine wp_condN rfl (fun hc22 => ?_) (fun hc22 => ?_) | refine wp_condNB rfl (fun hc22 => ?_) (fun hc22 => ?_) | refine wp_cond' rfl (fun hc22 => ?_) (fun hc22 => ?_)
      ·refine wp_seq' fun K15 hK15 => ?_
       refine wp_reg ?_
       refine ol_r (r_assign rfl) rfl ?_
       refine ol_nil (to_k0 (fun _ _ h => h) (hK15 _ _ _ _ _ ?_))
       clear hK15
       refine hQ.ret (rvs1 (rv_t rfl)) (fun _ _ h => h) fun w hb hs hB hkd => ?_
       first
         | (refine ⟨by rw [show testsR xs = 3 from if_pos (by omega)], hb⟩; done)
         | (refine ⟨by rw [chk_end hP (by omega)], hb⟩; done)
         | (have hq : tstB x13 = true := by unfold tstB; simp_all
            refine ⟨by rw [chk_ord hP hx13 hq phs25 hx31 hc35], hb⟩; done)
         | (refine ⟨?_, hb⟩; rw [chk_bad hP hx13 (by unfold tstB; simp_all)]; done)
      ·refine wp_skip' (to_k0 (fun _ _ h => h) (hK12 _ _ _ _ _ ?_))
       clear hK12
       refine wp_seq' fun K16 hK16 => ?_
       refine wp_regq (by kernel_rfl) (by kernel_rfl) ?_
       refine ql_r (r_move rfl) rfl ?_
       refine ql_r (r_gtr rfl rfl) rfl ?_
       refine ql_r (r_move rfl) rfl ?_
       refine ql_split (d := 25) rfl (fun hs25 => ?_) (fun hs25 => ?_)
       ·have phs25 := hs25; try simp only [decide_eq_true_eq, decide_eq_false_iff_not, Bool.not_eq_true', Bool.not_eq_false', Bool.not_true, Bool.not_false] at phs25
        refine ql_g rfl rfl hs25 ?_
        refine ql_r (r_fa (o' := 0) rfl fl87_0 rfl) rfl ?_
        refine ql_g rfl rfl hs25 ?_
        refine ql_r (r_ld (id := 4) rfl rfl rfl sc3) rfl ?_
        refine ql_g rfl rfl hs25 ?_
        refine ql_r (r_move rfl) rfl ?_
        refine ql_g rfl rfl hs25 ?_
        refine ql_r (r_move rfl) rfl ?_
        refine ql_g rfl rfl hs25 ?_
        refine ql_r (r_sub rfl rfl (by omega)) rfl ?_
        refine ql_g rfl rfl hs25 ?_
        refine ql_ixr hl rfl rfl sl38 (by omega) rfl fun x31 hx31 => ?_
        try simp only [Int.toNat_natCast] at hx31
        refine ql_g rfl rfl hs25 ?_
        refine ql_r (r_faw rfl (ix_some hl (by omega)) fl87_0) rfl ?_
        refine ql_g rfl rfl hs25 ?_
        refine ql_r (r_ldw rfl (fun w1 hb1 hs1 hB1 => Rd.loadsF (o := 0) hl sc3 hx31 hb1 rfl)) rfl ?_
        refine ql_g rfl rfl hs25 ?_
        refine ql_r (r_leq rfl rfl) rfl ?_
        refine ql_r (r_pickT rfl hs25 rfl) rfl ?_
        refine ql_nil (to_k0 (fun _ _ h => h) (hK16 _ _ _ _ _ ?_))
        clear hK16
        first | refine wp_condD rfl (fun hc35 => ?_) (fun hc35 => ?_) | refine wp_condN rfl (fun hc35 => ?_) (fun hc35 => ?_) | refine wp_condNB rfl (fun hc35 => ?_) (fun hc35 => ?_) | refine wp_cond' rfl (fun hc35 => ?_) (fun hc35 => ?_)
        ·refine wp_seq' fun K17 hK17 => ?_
         refine wp_reg ?_
         refine ol_r (r_assign rfl) rfl ?_
         refine ol_nil (to_k0 (fun _ _ h => h) (hK17 _ _ _ _ _ ?_))
         clear hK17
         refine hQ.ret (rvs1 (rv_t rfl)) (fun _ _ h => h) fun w hb hs hB hkd => ?_
         first
           | (refine ⟨by rw [show testsR xs = 3 from if_pos (by omega)], hb⟩; done)
           | (refine ⟨by rw [chk_end hP (by omega)], hb⟩; done)
           | (have hq : tstB x13 = true := by unfold tstB; simp_all
              refine ⟨by rw [chk_ord hP hx13 hq phs25 hx31 hc35], hb⟩; done)
           | (refine ⟨?_, hb⟩; rw [chk_bad hP hx13 (by unfold tstB; simp_all)]; done)
        ·refine wp_skip' (to_k0 (fun _ _ h => h) (hK10 _ _ _ _ _ ?_))
         clear hK10
         refine wp_reg ?_
         refine ol_r (r_add rfl rfl (by omega)) rfl ?_
         refine ol_r (r_move rfl) rfl ?_
         refine ol_nil (to_k0 (fun _ _ h => h) (hK7 (k + 1) _ _ ?_ ?_ (sub_cons rfl sub_nil) (sub_cons rfl (sub_cons rfl (sub_cons rfl sub_nil))) (by exact subH_nil) subH_nil))
         ·try dsimp only
          have hq : tstB x13 = true := by unfold tstB; simp_all
          refine ⟨by omega, ?_⟩
          first | exact chk_next hP hx13 hq phs25 hx31 hc35 | exact chk_next0 hP hx13 hq phs25
         ·try dsimp only
          omega
       ·have phs25 := hs25; try simp only [decide_eq_true_eq, decide_eq_false_iff_not, Bool.not_eq_true', Bool.not_eq_false', Bool.not_true, Bool.not_false] at phs25
        refine ql_s rfl rfl hs25 rfl ?_
        refine ql_s rfl rfl hs25 rfl ?_
        refine ql_s rfl rfl hs25 rfl ?_
        refine ql_s rfl rfl hs25 rfl ?_
        refine ql_s rfl rfl hs25 rfl ?_
        refine ql_s rfl rfl hs25 rfl ?_
        refine ql_s rfl rfl hs25 rfl ?_
        refine ql_s rfl rfl hs25 rfl ?_
        refine ql_s rfl rfl hs25 rfl ?_
        refine ql_r (r_pickF rfl hs25 rfl) rfl ?_
        refine ql_nil (to_k0 (fun _ _ h => h) (hK16 _ _ _ _ _ ?_))
        clear hK16
        refine wp_condF rfl ?_
        refine wp_skip' (to_k0 (fun _ _ h => h) (hK10 _ _ _ _ _ ?_))
        clear hK10
        refine wp_reg ?_
        refine ol_r (r_add rfl rfl (by omega)) rfl ?_
        refine ol_r (r_move rfl) rfl ?_
        refine ol_nil (to_k0 (fun _ _ h => h) (hK7 (k + 1) _ _ ?_ ?_ (sub_cons rfl sub_nil) (sub_cons rfl (sub_cons rfl (sub_cons rfl sub_nil))) (by exact subH_nil) subH_nil))
        ·try dsimp only
         have hq : tstB x13 = true := by unfold tstB; simp_all
         refine ⟨by omega, ?_⟩
         first | exact chk_next hP hx13 hq phs25 hx31 hc35 | exact chk_next0 hP hx13 hq phs25
        ·try dsimp only
         omega
    ·refine wp_exit' (to_k0 (fun _ _ h => h) (hK5 _ _ _ _ _ ?_))
     clear hK5
     refine wp_seq' fun K18 hK18 => ?_
     refine wp_reg ?_
     refine ol_r (r_assign rfl) rfl ?_
     refine ol_nil (to_k0 (fun _ _ h => h) (hK18 _ _ _ _ _ ?_))
     clear hK18
     refine hQ.ret (rvs1 (rv_t rfl)) (fun _ _ h => h) fun w hb hs hB hkd => ?_
     first
       | (refine ⟨by rw [show testsR xs = 3 from if_pos (by omega)], hb⟩; done)
       | (refine ⟨by rw [chk_end hP (by omega)], hb⟩; done)
       | (have hq : tstB x13 = true := by unfold tstB; simp_all
          refine ⟨by rw [chk_ord hP hx13 hq phs25 hx31 hc35], hb⟩; done)
       | (refine ⟨?_, hb⟩; rw [chk_bad hP hx13 (by unfold tstB; simp_all)]; done)

/-! #### ratio -/
def gcdI (num den : Int) : Nat := Nat.gcd num.natAbs den.toNat
def ratV (num den : Int) : List Value := [.int .i64 (num.tdiv (gcdI num den)), .int .i64 (den.tdiv (gcdI num den))]
theorem gcd_pos {num den : Int} (h : 0 < den) : 0 < gcdI num den := Nat.gcd_pos_of_pos_right _ (by omega)
theorem max_abs (x : Int) : (if x < -x then -x else x) = (x.natAbs : Int) := by split <;> omega
theorem gcd_next {a b : Nat} (h : 0 < b) : Nat.gcd b (a % b) = Nat.gcd a b := by rw [Nat.gcd_comm a b, Nat.gcd_rec b a]; exact Nat.gcd_comm _ _

theorem load_ratio (num den : Int) (w : World) (h1 : -9000000000000000000 ≤ num ∧ num ≤ 9000000000000000000) (h2 : 0 < den ∧ den ≤ 9000000000000000000) :
    Calls Try.prog 72 #[.int .i64 num, .int .i64 den] w fun e w' => e = .returned (.agg (ratV num den).toArray) ∧ Below w.heap.size w w' := by
  refine enterQ (N := 25) (C := fun _ => True) (H := []) (B := w.heap.size) (args := [_, _]) Try.func72 rfl rfl rfl (Nat.le_refl _) (Sat.nil _ _) fun Q hQ => ?_
  refine wp_seq' fun K1 hK1 => ?_
  refine wp_reg ?_
  refine ol_alloc 4 z40 rfl fun b4 => ?_
  refine ol_nil (to_k0 (fun _ _ h => h) (hK1 _ _ _ _ _ ?_))
  clear hK1
  refine wp_seq' fun K2 hK2 => ?_
  refine wp_reg ?_
  refine ol_r (r_move rfl) rfl ?_
  refine ol_r (r_move rfl) rfl ?_
  refine ol_r (r_neg rfl (by omega)) rfl ?_
  refine ol_r (r_max rfl rfl) rfl ?_
  refine ol_r (r_move rfl) rfl ?_
  refine ol_r (r_assign rfl) rfl ?_
  refine ol_r (r_assign rfl) rfl ?_
  refine ol_nil (to_k0 (fun _ _ h => h) (hK2 _ _ _ _ _ ?_))
  clear hK2
  refine wp_seq' fun K3 hK3 => ?_
  refine wp_block' ?_
  apply wp_loopM (σ := Nat × Nat) (fun s => Nat.gcd s.1 s.2 = gcdI num den ∧ s.1 ≤ 9000000000000000000 ∧ s.2 ≤ 9000000000000000000) (fun s => [(5, .int .i64 s.1), (6, .int .i64 s.2)]) [(0, _), (1, _), (4, _)] (fun s => []) [(4, _)] (fun s => s.2) ((num.natAbs, den.toNat))
  ·try dsimp only
   exact ⟨rfl, by omega, by omega⟩
  ·exact (sub_cons (by first | rfl | (show some _ = some _; congr 2; omega)) (sub_cons (by first | rfl | (show some _ = some _; congr 2; omega)) sub_nil))
  ·exact (sub_cons rfl (sub_cons rfl (sub_cons rfl sub_nil)))
  ·exact subH_nil
  ·exact (subH_same rfl subH_nil)
  ·rintro ⟨x, y⟩ ⟨hg, hx, hy⟩
   intro K4 hK4
   refine wp_seq' fun K5 hK5 => ?_
   refine wp_seq' fun K6 hK6 => ?_
   refine wp_reg ?_
   refine ol_r (r_move rfl) rfl ?_
   refine ol_r (r_gtr rfl rfl) rfl ?_
   refine ol_nil (to_k0 (fun _ _ h => h) (hK6 _ _ _ _ _ ?_))
   clear hK6
   first | refine wp_condD rfl (fun hc13 => ?_) (fun hc13 => ?_) | refine wp_condN rfl (fun hc13 => ?_) (fun hc13 => ?_) | refine wp_condNB rfl (fun hc13 => ?_) (fun hc13 => ?_) | refine wp_cond' rfl (fun hc13 => ?_) (fun hc13 => ?_)
   ·refine wp_skip' (to_k0 (fun _ _ h => h) (hK5 _ _ _ _ _ ?_))
    clear hK5
    refine wp_block' ?_
    refine wp_regq (by kernel_rfl) (by kernel_rfl) ?_
    refine ql_r (r_move rfl) rfl ?_
    refine ql_r (r_move rfl) rfl ?_
    refine ql_r (r_move rfl) rfl ?_
    first | refine ql_r (r_rem rfl rfl (by omega)) rfl ?_ | refine ql_r (r_trem rfl rfl (by omega)) rfl ?_
    refine ql_r (r_assign rfl) rfl ?_
    refine ql_r (r_assign rfl) rfl ?_
    refine ql_nil (to_k0 (fun _ _ h => h) (hK4 ((y, x % y)) _ _ ?_ ?_ (sub_cons rfl (sub_cons rfl sub_nil)) (sub_cons rfl (sub_cons rfl (sub_cons rfl sub_nil))) (by exact subH_nil) (subH_same rfl subH_nil)))
    ·try dsimp only
     exact ⟨by rw [gcd_next (by omega)]; exact hg, hy, Nat.le_trans (Nat.mod_le _ _) hx⟩
    ·try dsimp only
     exact Nat.mod_lt _ (by omega)
   ·refine wp_exit' (to_k0 (fun _ _ h => h) (hK3 _ _ _ _ _ ?_))
    clear hK3
    refine wp_seq' fun K7 hK7 => ?_
    refine wp_regt 7 (by kernel_rfl) (by kernel_rfl) ?_
    simp only [List.take_succ_cons, List.take_zero, List.drop_succ_cons, List.drop_zero]
    refine sl_r (r_move rfl) rfl ?_
    refine sl_r (r_move rfl) rfl ?_
    have hy0 : y = 0 := by omega
    have hxg : gcdI num den = x := by rw [← hg, hy0]; exact Nat.gcd_zero_right x
    have hpos : 0 < x := by rw [← hxg]; exact gcd_pos h2.1
    have hden : den / (x : Int) = den.tdiv (x : Int) := (Int.tdiv_eq_ediv_of_nonneg (by omega)).symm
    first | refine sl_r (r_quo rfl rfl (by omega)) rfl ?_ | refine sl_r (r_tquo rfl rfl (by omega)) rfl ?_
    refine sl_r (r_move rfl) rfl ?_
    refine sl_r (r_move rfl) rfl ?_
    first | refine sl_r (r_quo rfl rfl (by omega)) rfl ?_ | refine sl_r (r_tquo rfl rfl (by omega)) rfl ?_
    refine sl_r (r_build rfl (fun _ => bd40_0_1 _ _ _)) rfl ?_
    refine sl_nil ?_
    refine ol_store (id := 4) rfl rfl rfl rfl sz40 rfl rfl (by first | decide | exact Nat.zero_lt_succ _ | simp) ?_
    refine ol_nil (to_k0 (fun _ _ h => h) (hK7 _ _ _ _ _ ?_))
    clear hK7
    refine hQ.ret (rvs1 (rv_c (id := 4) (n := 2) rfl rfl ag40 rfl)) (fun _ _ h => h) fun w hb hs hB hkd => ?_
    exact ⟨by unfold ratV; rw [hxg, ← hden], hb⟩
theorem ref_ratio (num den : Int) (w : World) (h1 : -9000000000000000000 ≤ num ∧ num ≤ 9000000000000000000) (h2 : 0 < den ∧ den ≤ 9000000000000000000) :
    Calls Try.prog 73 #[.int .i64 num, .int .i64 den] w fun e w' => e = .returned (.agg (ratV num den).toArray) ∧ Below w.heap.size w w' := by
  refine enterQ (N := 31) (C := fun _ => True) (H := []) (B := w.heap.size) (args := [_, _]) Try.func73 rfl rfl rfl (Nat.le_refl _) (Sat.nil _ _) fun Q hQ => ?_
  refine wp_seq' fun K1 hK1 => ?_
  refine wp_reg ?_
  refine ol_alloc 4 z40 rfl fun b4 => ?_
  refine ol_nil (to_k0 (fun _ _ h => h) (hK1 _ _ _ _ _ ?_))
  clear hK1
  refine wp_seq' fun K2 hK2 => ?_
  refine wp_seq' fun K3 hK3 => ?_
  refine wp_reg ?_
  refine ol_r (r_move rfl) rfl ?_
  refine ol_r (r_lss rfl rfl) rfl ?_
  refine ol_nil (to_k0 (fun _ _ h => h) (hK3 _ _ _ _ _ ?_))
  clear hK3
  first | refine wp_condD rfl (fun hc8 => ?_) (fun hc8 => ?_) | refine wp_condN rfl (fun hc8 => ?_) (fun hc8 => ?_) | refine wp_condNB rfl (fun hc8 => ?_) (fun hc8 => ?_) | refine wp_cond' rfl (fun hc8 => ?_) (fun hc8 => ?_)
  ·exfalso
   omega
  ·refine wp_skip' (to_k0 (fun _ _ h => h) (hK2 _ _ _ _ _ ?_))
   clear hK2
   refine wp_seq' fun K4 hK4 => ?_
   refine wp_reg ?_
   refine ol_r (r_move rfl) rfl ?_
   refine ol_r (r_move rfl) rfl ?_
   refine ol_r (r_neg rfl (by omega)) rfl ?_
   refine ol_r (r_max rfl rfl) rfl ?_
   refine ol_r (r_move rfl) rfl ?_
   refine ol_r (r_assign rfl) rfl ?_
   refine ol_r (r_assign rfl) rfl ?_
   refine ol_nil (to_k0 (fun _ _ h => h) (hK4 _ _ _ _ _ ?_))
   clear hK4
   refine wp_seq' fun K5 hK5 => ?_
   refine wp_block' ?_
   apply wp_loopM (σ := Nat × Nat) (fun s => Nat.gcd s.1 s.2 = gcdI num den ∧ s.1 ≤ 9000000000000000000 ∧ s.2 ≤ 9000000000000000000) (fun s => [(5, .int .i64 s.1), (6, .int .i64 s.2)]) [(0, _), (1, _), (4, _)] (fun s => []) [(4, _)] (fun s => s.2) ((num.natAbs, den.toNat))
   ·try dsimp only
    exact ⟨rfl, by omega, by omega⟩
   ·exact (sub_cons (by first | rfl | (show some _ = some _; congr 2; omega)) (sub_cons (by first | rfl | (show some _ = some _; congr 2; omega)) sub_nil))
   ·exact (sub_cons rfl (sub_cons rfl (sub_cons rfl sub_nil)))
   ·exact subH_nil
   ·exact (subH_same rfl subH_nil)
   ·rintro ⟨x, y⟩ ⟨hg, hx, hy⟩
    intro K6 hK6
    refine wp_seq' fun K7 hK7 => ?_
    refine wp_seq' fun K8 hK8 => ?_
    refine wp_reg ?_
    refine ol_r (r_move rfl) rfl ?_
    refine ol_r (r_neq rfl rfl) rfl ?_
    refine ol_nil (to_k0 (fun _ _ h => h) (hK8 _ _ _ _ _ ?_))
    clear hK8
    first | refine wp_condD rfl (fun hc19 => ?_) (fun hc19 => ?_) | refine wp_condN rfl (fun hc19 => ?_) (fun hc19 => ?_) | refine wp_condNB rfl (fun hc19 => ?_) (fun hc19 => ?_) | refine wp_cond' rfl (fun hc19 => ?_) (fun hc19 => ?_)
    ·refine wp_skip' (to_k0 (fun _ _ h => h) (hK7 _ _ _ _ _ ?_))
     clear hK7
     refine wp_block' ?_
     refine wp_regq (by kernel_rfl) (by kernel_rfl) ?_
     refine ql_r (r_move rfl) rfl ?_
     refine ql_r (r_move rfl) rfl ?_
     refine ql_r (r_move rfl) rfl ?_
     first | refine ql_r (r_rem rfl rfl (by omega)) rfl ?_ | refine ql_r (r_trem rfl rfl (by omega)) rfl ?_
     refine ql_r (r_assign rfl) rfl ?_
     refine ql_r (r_assign rfl) rfl ?_
     refine ql_nil (to_k0 (fun _ _ h => h) (hK6 ((y, x % y)) _ _ ?_ ?_ (sub_cons rfl (sub_cons rfl sub_nil)) (sub_cons rfl (sub_cons rfl (sub_cons rfl sub_nil))) (by exact subH_nil) (subH_same rfl subH_nil)))
     ·try dsimp only
      exact ⟨by rw [gcd_next (by omega)]; exact hg, hy, Nat.le_trans (Nat.mod_le _ _) hx⟩
     ·try dsimp only
      exact Nat.mod_lt _ (by omega)
    ·refine wp_exit' (to_k0 (fun _ _ h => h) (hK5 _ _ _ _ _ ?_))
     clear hK5
     refine wp_seq' fun K9 hK9 => ?_
     refine wp_regt 7 (by kernel_rfl) (by kernel_rfl) ?_
     simp only [List.take_succ_cons, List.take_zero, List.drop_succ_cons, List.drop_zero]
     refine sl_r (r_move rfl) rfl ?_
     refine sl_r (r_move rfl) rfl ?_
     have hy0 : y = 0 := by omega
     have hxg : gcdI num den = x := by rw [← hg, hy0]; exact Nat.gcd_zero_right x
     have hpos : 0 < x := by rw [← hxg]; exact gcd_pos h2.1
     have hden : den / (x : Int) = den.tdiv (x : Int) := (Int.tdiv_eq_ediv_of_nonneg (by omega)).symm
     first | refine sl_r (r_quo rfl rfl (by omega)) rfl ?_ | refine sl_r (r_tquo rfl rfl (by omega)) rfl ?_
     refine sl_r (r_move rfl) rfl ?_
     refine sl_r (r_move rfl) rfl ?_
     first | refine sl_r (r_quo rfl rfl (by omega)) rfl ?_ | refine sl_r (r_tquo rfl rfl (by omega)) rfl ?_
     refine sl_r (r_build rfl (fun _ => bd40_0_1 _ _ _)) rfl ?_
     refine sl_nil ?_
     refine ol_store (id := 4) rfl rfl rfl rfl sz40 rfl rfl (by first | decide | exact Nat.zero_lt_succ _ | simp) ?_
     refine ol_nil (to_k0 (fun _ _ h => h) (hK9 _ _ _ _ _ ?_))
     clear hK9
     refine hQ.ret (rvs1 (rv_c (id := 4) (n := 2) rfl rfl ag40 rfl)) (fun _ _ h => h) fun w hb hs hB hkd => ?_
     exact ⟨by unfold ratV; rw [hxg, ← hden], hb⟩

/-! #### Fit -/
def sm (f : TestR → Int) : List TestR → Int
  | [] => 0
  | x :: r => f x + sm f r
def fS (x : TestR) : Int := x.sec
def fW (x : TestR) : Int := x.work
def fSS (x : TestR) : Int := x.sec * x.sec
def fSW (x : TestR) : Int := x.sec * x.work
theorem sm_append (f : TestR → Int) : ∀ xs ys : List TestR, sm f (xs ++ ys) = sm f xs + sm f ys
  | [], ys => by simp [sm]
  | x :: r, ys => by simp only [List.cons_append, sm, sm_append f r ys]; omega
theorem sm_take (f : TestR → Int) {xs : List TestR} {k : Nat} {x : TestR} (h : xs[k]? = some x) : sm f (xs.take (k + 1)) = sm f (xs.take k) + f x := by
  rw [List.take_add_one, sm_append, h]; simp [sm]
theorem sm_bd (f : TestR → Int) (M : Int) (hM : 0 ≤ M) : ∀ xs : List TestR, (∀ x ∈ xs, 0 ≤ f x ∧ f x ≤ M) → 0 ≤ sm f xs ∧ sm f xs ≤ M * xs.length
  | [], _ => by simp [sm]
  | x :: r, h => by
    have h1 := h x (by simp)
    have h2 := sm_bd f M hM r (fun y hy => h y (by simp [hy]))
    have : M * ((x :: r).length : Int) = M * r.length + M := by simp only [List.length_cons]; rw [Int.natCast_add, Int.mul_add]; simp
    rw [this]; simp only [sm]; omega
theorem chkTs_ok : ∀ (xs : List TestR) (p : Option TestR), chkTs p xs = 0 → ∀ x ∈ xs, tstB x = true
  | [], _, _, x, hx => by simp at hx
  | y :: r, p, h, x, hx => by
    rw [chkTs_cons] at h
    by_cases h1 : tstB y = false
    · rw [if_pos h1] at h; omega
    · rw [if_neg h1] at h
      by_cases h2 : tstO p y = true
      · rw [if_pos h2] at h; omega
      · rw [if_neg h2] at h
        rcases List.mem_cons.1 hx with rfl | hx
        · simpa using h1
        · exact chkTs_ok r _ h x hx
theorem testsR_ok {xs : List TestR} (h : testsR xs = 0) : xs.length ≤ 20 ∧ chkTs none xs = 0 ∧ ∀ x ∈ xs, 1 ≤ x.sec ∧ x.sec ≤ 10000 ∧ 0 ≤ x.work ∧ x.work ≤ 100000000 := by
  unfold testsR at h
  by_cases h1 : 20 < xs.length
  · rw [if_pos h1] at h; omega
  · rw [if_neg h1] at h
    refine ⟨by omega, h, fun x hx => ?_⟩
    have := chkTs_ok xs none h x hx
    unfold tstB at this
    rw [Bool.and_eq_true] at this
    have a1 := inB_iff.1 this.1
    have a2 := inB_iff.1 this.2
    omega
/-- The sums of the first k tests, and their bounds. -/
structure SumsB (xs : List TestR) : Prop where
  s : 0 ≤ sm fS xs ∧ sm fS xs ≤ 200000
  w : 0 ≤ sm fW xs ∧ sm fW xs ≤ 2000000000
  ss : 0 ≤ sm fSS xs ∧ sm fSS xs ≤ 2000000000
  sw : 0 ≤ sm fSW xs ∧ sm fSW xs ≤ 20000000000000
theorem sums_bd {xs : List TestR} (hl : xs.length ≤ 20) (h : ∀ x ∈ xs, 1 ≤ x.sec ∧ x.sec ≤ 10000 ∧ 0 ≤ x.work ∧ x.work ≤ 100000000) : SumsB xs := by
  have a1 := sm_bd fS 10000 (by omega) xs (fun x hx => by have := h x hx; unfold fS; omega)
  have a2 := sm_bd fW 100000000 (by omega) xs (fun x hx => by have := h x hx; unfold fW; omega)
  have a3 := sm_bd fSS 100000000 (by omega) xs (fun x hx => by have := h x hx; unfold fSS; exact mul_bd (A := 10000) (B := 10000) (by omega) (by omega) (by omega) (by omega))
  have a4 := sm_bd fSW 1000000000000 (by omega) xs (fun x hx => by have := h x hx; unfold fSW; exact mul_bd (A := 10000) (B := 100000000) (by omega) (by omega) (by omega) (by omega))
  exact ⟨by omega, by omega, by omega, by omega⟩
theorem sums_take {xs : List TestR} (k : Nat) (hl : xs.length ≤ 20) (h : ∀ x ∈ xs, 1 ≤ x.sec ∧ x.sec ≤ 10000 ∧ 0 ≤ x.work ∧ x.work ≤ 100000000) : SumsB (xs.take k) :=
  sums_bd (by rw [List.length_take]; omega) (fun x hx => h x (List.mem_of_mem_take hx))
/-- n times the squares, less the square of the sum. -/
def denR (xs : List TestR) : Int := xs.length * sm fSS xs - sm fS xs * sm fS xs
def dist (c : Int) : List TestR → Int
  | [] => 0
  | x :: r => (x.sec - c) * (x.sec - c) + dist c r
theorem dist_eq (c : Int) : ∀ r : List TestR, dist c r = sm fSS r + r.length * (c * c) - 2 * (c * sm fS r)
  | [] => by simp [dist, sm]
  | x :: r => by
    have ih := dist_eq c r
    simp only [dist, sm, ih, fSS, fS, List.length_cons, Int.natCast_add, Int.add_mul, Int.sub_mul, Int.mul_sub, Int.mul_add, Int.mul_comm x.sec c]
    simp only [Int.natCast_one, Int.one_mul]
    omega
theorem dist_nn (c : Int) : ∀ r : List TestR, 0 ≤ dist c r
  | [] => by simp [dist]
  | x :: r => by
    have := dist_nn c r
    have h2 : 0 ≤ (x.sec - c) * (x.sec - c) := by
      rcases Int.le_total 0 (x.sec - c) with h | h
      · exact Int.mul_nonneg h h
      · exact Int.mul_nonneg_of_nonpos_of_nonpos h h
    simp only [dist]; omega
theorem denR_cons (x : TestR) (r : List TestR) : denR (x :: r) = denR r + dist x.sec r := by
  rw [dist_eq]
  simp only [denR, sm, fSS, fS, List.length_cons, Int.natCast_add, Int.add_mul, Int.mul_add, Int.natCast_one, Int.one_mul, Int.mul_comm (sm fS r) x.sec]
  omega
theorem denR_nn : ∀ xs : List TestR, 0 ≤ denR xs
  | [] => by simp [denR, sm]
  | x :: r => by have := denR_nn r; have := dist_nn x.sec r; rw [denR_cons]; omega
theorem denR_pos {xs : List TestR} (h : testsR xs = 0) (h2 : 2 ≤ xs.length) : 0 < denR xs := by
  obtain ⟨_, hc, _⟩ := testsR_ok h
  match xs, h2, hc with
  | x :: y :: r, _, hc =>
    rw [chkTs_cons] at hc
    by_cases h1 : tstB x = false
    · rw [if_pos h1] at hc; omega
    · rw [if_neg h1, if_neg (by simp [tstO]), chkTs_cons] at hc
      by_cases h3 : tstB y = false
      · rw [if_pos h3] at hc; omega
      · rw [if_neg h3] at hc
        by_cases h4 : tstO (some x) y = true
        · rw [if_pos h4] at hc; omega
        · have h5 : x.sec < y.sec := by simpa [tstO] using h4
          have a1 := denR_nn (y :: r)
          have a2 := dist_nn x.sec r
          have a3 : 0 < (y.sec - x.sec) * (y.sec - x.sec) := Int.mul_pos (by omega) (by omega)
          rw [denR_cons]; simp only [dist]; omega
def numP (xs : List TestR) : Int := xs.length * sm fSW xs - sm fS xs * sm fW xs
def numW (xs : List TestR) : Int := sm fW xs * sm fSS xs - sm fS xs * sm fSW xs
def zz : List Value := [.int .i64 0, .int .i64 0]
/-- What Fit returns. -/
def fitV (xs : List TestR) : Array Value :=
  if testsR xs ≠ 0 then #[.agg zz.toArray, .agg zz.toArray, .int .i64 (testsR xs)]
  else if xs.length < 2 then #[.agg zz.toArray, .agg zz.toArray, .int .i64 13]
  else #[.agg (ratV (numP xs) (denR xs)).toArray, .agg (ratV (numW xs) (denR xs)).toArray, .int .i64 0]
theorem fit_sums {xs : List TestR} (h : testsR xs = 0) : (0 ≤ xs.length * sm fSS xs ∧ xs.length * sm fSS xs ≤ 40000000000) ∧ (0 ≤ sm fS xs * sm fS xs ∧ sm fS xs * sm fS xs ≤ 40000000000) ∧
    (0 ≤ xs.length * sm fSW xs ∧ xs.length * sm fSW xs ≤ 400000000000000) ∧ (0 ≤ sm fS xs * sm fW xs ∧ sm fS xs * sm fW xs ≤ 400000000000000) ∧
    (0 ≤ sm fW xs * sm fSS xs ∧ sm fW xs * sm fSS xs ≤ 4000000000000000000) ∧ (0 ≤ sm fS xs * sm fSW xs ∧ sm fS xs * sm fSW xs ≤ 4000000000000000000) := by
  obtain ⟨hl, _, hb⟩ := testsR_ok h
  obtain ⟨s, w, ss, sw⟩ := sums_bd hl hb
  exact ⟨mul_bd (A := 20) (B := 2000000000) (by omega) (by omega) (by omega) (by omega), mul_bd (A := 200000) (B := 200000) (by omega) (by omega) (by omega) (by omega), mul_bd (A := 20) (B := 20000000000000) (by omega) (by omega) (by omega) (by omega),
    mul_bd (A := 200000) (B := 2000000000) (by omega) (by omega) (by omega) (by omega), mul_bd (A := 2000000000) (B := 2000000000) (by omega) (by omega) (by omega) (by omega), mul_bd (A := 200000) (B := 20000000000000) (by omega) (by omega) (by omega) (by omega)⟩

theorem load_Fit (a : Option Addr) (n cap : Nat) (xs : List TestR) (w : World) (hl : Rd encTest w.heap.size w a n cap xs) :
    Calls Try.prog 24 #[.slice a n cap] w fun e w' => e = .returned (.tuple (fitV xs)) ∧ Below w.heap.size w w' := by
  have hn := hl.len
  have hfit := hl.fit
  subst hn
  refine enterQ (N := 82) (C := fun _ => True) (H := []) (B := w.heap.size) (args := [_]) Try.func24 rfl rfl rfl (Nat.le_refl _) (Sat.nil _ _) fun Q hQ => ?_
  refine wp_seq' fun K1 hK1 => ?_
  refine wp_reg ?_
  refine ol_alloc 2 z40 rfl fun b2 => ?_
  refine ol_alloc 3 z40 rfl fun b3 => ?_
  refine ol_r (r_assign rfl) rfl ?_
  refine ol_nil (to_k0 (fun _ _ h => h) (hK1 _ _ _ _ _ ?_))
  clear hK1
  refine wp_seq' fun K2 hK2 => ?_
  refine wp_seq' fun K3 hK3 => ?_
  refine wp_reg ?_
  refine ol_r (r_move rfl) rfl ?_
  refine ol_call rfl rfl cb28 rfl (fun w1 hb1 hs1 hB1 => Calls.mono (load_CheckTests _ _ _ xs _ (hl.at hb1 hB1)) ?_)
  rintro e w2 ⟨rfl, hb2⟩
  refine After.below rfl hb1 hs1 hB1 hb2 ?_
  clear hb2 hB1 hs1 hb1 w2 w1
  refine ol_r (r_assign rfl) rfl ?_
  refine ol_nil (to_k0 (fun _ _ h => h) (hK3 _ _ _ _ _ ?_))
  clear hK3
  refine wp_seq' fun K4 hK4 => ?_
  refine wp_reg ?_
  refine ol_r (r_move rfl) rfl ?_
  refine ol_r (r_neq rfl rfl) rfl ?_
  refine ol_nil (to_k0 (fun _ _ h => h) (hK4 _ _ _ _ _ ?_))
  clear hK4
  first | refine wp_condD rfl (fun hc17 => ?_) (fun hc17 => ?_) | refine wp_condN rfl (fun hc17 => ?_) (fun hc17 => ?_) | refine wp_condNB rfl (fun hc17 => ?_) (fun hc17 => ?_) | refine wp_cond' rfl (fun hc17 => ?_) (fun hc17 => ?_)
  ·refine wp_seq' fun K5 hK5 => ?_
   refine wp_reg ?_
   refine ol_r (r_build rfl (fun _ => bd40 _)) rfl ?_
   refine ol_r (r_build rfl (fun _ => bd40 _)) rfl ?_
   refine ol_r (r_move rfl) rfl ?_
   refine ol_store (id := 2) rfl rfl rfl rfl sz40 rfl rfl (by first | decide | exact Nat.zero_lt_succ _ | simp) ?_
   refine ol_store (id := 3) rfl rfl rfl rfl sz40 rfl rfl (by first | decide | exact Nat.zero_lt_succ _ | simp) ?_
   refine ol_r (r_assign rfl) rfl ?_
   refine ol_nil (to_k0 (fun _ _ h => h) (hK5 _ _ _ _ _ ?_))
   clear hK5
   refine hQ.ret (rvs3 (rv_c (id := 2) (n := 2) rfl rfl ag40 rfl) (rv_c (id := 3) (n := 2) rfl rfl ag40 rfl) (rv_t rfl)) (fun _ _ h => h) fun w hb hs hB hkd => ?_
   first
     | (refine ⟨?_, hb⟩; unfold fitV; rw [if_pos hc17]; rfl; done)
     | (refine ⟨?_, hb⟩; unfold fitV; rw [if_neg hc17, if_pos (by omega)]; rfl; done)
     | (refine ⟨?_, hb⟩; unfold fitV; rw [if_neg hc17, if_neg (by omega)]; rfl; done)
  ·refine wp_skip' (to_k0 (fun _ _ h => h) (hK2 _ _ _ _ _ ?_))
   clear hK2
   refine wp_seq' fun K6 hK6 => ?_
   refine wp_seq' fun K7 hK7 => ?_
   refine wp_reg ?_
   refine ol_r (r_move rfl) rfl ?_
   refine ol_r (r_len rfl sl38) rfl ?_
   refine ol_r (r_lss rfl rfl) rfl ?_
   refine ol_nil (to_k0 (fun _ _ h => h) (hK7 _ _ _ _ _ ?_))
   clear hK7
   first | refine wp_condD rfl (fun hc23 => ?_) (fun hc23 => ?_) | refine wp_condN rfl (fun hc23 => ?_) (fun hc23 => ?_) | refine wp_condNB rfl (fun hc23 => ?_) (fun hc23 => ?_) | refine wp_cond' rfl (fun hc23 => ?_) (fun hc23 => ?_)
   ·refine wp_seq' fun K8 hK8 => ?_
    refine wp_reg ?_
    refine ol_r (r_build rfl (fun _ => bd40 _)) rfl ?_
    refine ol_r (r_build rfl (fun _ => bd40 _)) rfl ?_
    refine ol_store (id := 2) rfl rfl rfl rfl sz40 rfl rfl (by first | decide | exact Nat.zero_lt_succ _ | simp) ?_
    refine ol_store (id := 3) rfl rfl rfl rfl sz40 rfl rfl (by first | decide | exact Nat.zero_lt_succ _ | simp) ?_
    refine ol_r (r_assign rfl) rfl ?_
    refine ol_nil (to_k0 (fun _ _ h => h) (hK8 _ _ _ _ _ ?_))
    clear hK8
    refine hQ.ret (rvs3 (rv_c (id := 2) (n := 2) rfl rfl ag40 rfl) (rv_c (id := 3) (n := 2) rfl rfl ag40 rfl) (rv_t rfl)) (fun _ _ h => h) fun w hb hs hB hkd => ?_
    first
      | (refine ⟨?_, hb⟩; unfold fitV; rw [if_pos hc17]; rfl; done)
      | (refine ⟨?_, hb⟩; unfold fitV; rw [if_neg hc17, if_pos (by omega)]; rfl; done)
      | (refine ⟨?_, hb⟩; unfold fitV; rw [if_neg hc17, if_neg (by omega)]; rfl; done)
   ·refine wp_skip' (to_k0 (fun _ _ h => h) (hK6 _ _ _ _ _ ?_))
    clear hK6
    refine wp_seq' fun K9 hK9 => ?_
    refine wp_reg ?_
    refine ol_r (r_move rfl) rfl ?_
    refine ol_r (r_len rfl sl38) rfl ?_
    refine ol_r (r_assign rfl) rfl ?_
    refine ol_r (r_assign rfl) rfl ?_
    refine ol_r (r_assign rfl) rfl ?_
    refine ol_r (r_assign rfl) rfl ?_
    refine ol_r (r_assign rfl) rfl ?_
    refine ol_nil (to_k0 (fun _ _ h => h) (hK9 _ _ _ _ _ ?_))
    clear hK9
    refine wp_seq' fun K10 hK10 => ?_
    refine wp_seq' fun K11 hK11 => ?_
    refine wp_reg ?_
    have hT := testsR_ok (Decidable.not_not.1 hc17)
    refine ol_r (r_move rfl) rfl ?_
    refine ol_r (r_len rfl sl38) rfl ?_
    refine ol_r (r_move rfl) rfl ?_
    refine ol_nil (to_k0 (fun _ _ h => h) (hK11 _ _ _ _ _ ?_))
    clear hK11
    refine wp_block' ?_
    apply wp_loopM (σ := Nat) (fun s => s ≤ xs.length) (fun s => [(30, .int .i64 s), (7, .int .i64 (sm fS (xs.take s))), (8, .int .i64 (sm fW (xs.take s))), (9, .int .i64 (sm fSS (xs.take s))), (10, .int .i64 (sm fSW (xs.take s)))]) [(2, _), (3, _), (4, _), (6, _), (28, _), (29, _)] (fun s => []) [(2, _), (3, _)] (fun s => xs.length - s) (0)
    ·try dsimp only
     simp
    ·exact (sub_cons rfl (sub_cons rfl (sub_cons rfl (sub_cons rfl (sub_cons rfl sub_nil)))))
    ·exact (sub_cons rfl (sub_cons rfl (sub_cons rfl (sub_cons rfl (sub_cons rfl (sub_cons rfl sub_nil))))))
    ·exact subH_nil
    ·exact (subH_same rfl (subH_same rfl subH_nil))
    ·intro k hk
     intro K12 hK12
     refine wp_seq' fun K13 hK13 => ?_
     refine wp_reg ?_
     refine ol_r (r_lss rfl rfl) rfl ?_
     refine ol_nil (to_k0 (fun _ _ h => h) (hK13 _ _ _ _ _ ?_))
     clear hK13
     refine wp_seq' fun K14 hK14 => ?_
     first | refine wp_condD rfl (fun hc31 => ?_) (fun hc31 => ?_) | refine wp_condN rfl (fun hc31 => ?_) (fun hc31 => ?_) | refine wp_condNB rfl (fun hc31 => ?_) (fun hc31 => ?_) | refine wp_cond' rfl (fun hc31 => ?_) (fun hc31 => ?_)
     ·refine wp_skip' (to_k0 (fun _ _ h => h) (hK14 _ _ _ _ _ ?_))
      clear hK14
      refine wp_seq' fun K15 hK15 => ?_
      refine wp_block' ?_
      refine wp_seq' fun K16 hK16 => ?_
      refine wp_reg ?_
      refine ol_ixr hl rfl rfl sl38 (by omega) rfl fun x32 hx32 => ?_
      try simp only [Int.toNat_natCast] at hx32
      refine ol_r (r_ldw rfl (fun w1 hb1 hs1 hB1 => Rd.loads hl ty87 hx32 hb1)) rfl ?_
      refine ol_alloc 12 z87 rfl fun b12 => ?_
      refine ol_store (id := 12) rfl rfl rfl rfl sz87 rfl rfl (by first | decide | exact Nat.zero_lt_succ _ | simp) ?_
      refine ol_nil (to_k0 (fun _ _ h => h) (hK16 _ _ _ _ _ ?_))
      clear hK16
      refine wp_seq' fun K17 hK17 => ?_
      refine wp_regq (by kernel_rfl) (by kernel_rfl) ?_
      refine ql_r (r_move rfl) rfl ?_
      refine ql_r (r_fa (o' := 0) rfl fl87_0 rfl) rfl ?_
      refine ql_r (r_ld (id := 12) rfl rfl rfl sc3) rfl ?_
      have hB := sums_take k hT.1 hT.2.2
      have hE := hT.2.2 _ (List.mem_of_getElem? hx32)
      have e1 := mul_bd (A := 10000) (B := 10000) (a := x32.sec) (b := x32.sec) (by omega) (by omega) (by omega) (by omega)
      have e2 := mul_bd (A := 10000) (B := 100000000) (a := x32.sec) (b := x32.work) (by omega) (by omega) (by omega) (by omega)
      have b1 := hB.s
      have b2 := hB.w
      have b3 := hB.ss
      have b4 := hB.sw
      refine ql_r (r_add rfl rfl (by omega)) rfl ?_
      refine ql_r (r_move rfl) rfl ?_
      refine ql_r (r_fa (o' := 1) rfl fl87_1 rfl) rfl ?_
      refine ql_r (r_ld (id := 12) rfl rfl rfl sc3) rfl ?_
      refine ql_r (r_add rfl rfl (by omega)) rfl ?_
      refine ql_r (r_assign rfl) rfl ?_
      refine ql_r (r_assign rfl) rfl ?_
      refine ql_nil (to_k0 (fun _ _ h => h) (hK17 _ _ _ _ _ ?_))
      clear hK17
      refine wp_regq (by kernel_rfl) (by kernel_rfl) ?_
      refine ql_r (r_move rfl) rfl ?_
      refine ql_r (r_fa (o' := 0) rfl fl87_0 rfl) rfl ?_
      refine ql_r (r_ld (id := 12) rfl rfl rfl sc3) rfl ?_
      refine ql_r (r_fa (o' := 0) rfl fl87_0 rfl) rfl ?_
      refine ql_r (r_ld (id := 12) rfl rfl rfl sc3) rfl ?_
      refine ql_r (r_mul rfl rfl (by omega)) rfl ?_
      refine ql_r (r_add rfl rfl (by omega)) rfl ?_
      refine ql_r (r_move rfl) rfl ?_
      refine ql_r (r_fa (o' := 0) rfl fl87_0 rfl) rfl ?_
      refine ql_r (r_ld (id := 12) rfl rfl rfl sc3) rfl ?_
      refine ql_r (r_fa (o' := 1) rfl fl87_1 rfl) rfl ?_
      refine ql_r (r_ld (id := 12) rfl rfl rfl sc3) rfl ?_
      refine ql_r (r_mul rfl rfl (by omega)) rfl ?_
      refine ql_r (r_add rfl rfl (by omega)) rfl ?_
      refine ql_r (r_assign rfl) rfl ?_
      refine ql_r (r_assign rfl) rfl ?_
      refine ql_nil (to_k0 (fun _ _ h => h) (hK15 _ _ _ _ _ ?_))
      clear hK15
      refine wp_reg ?_
      refine ol_r (r_add rfl rfl (by omega)) rfl ?_
      refine ol_r (r_move rfl) rfl ?_
      refine ol_nil (to_k0 (fun _ _ h => h) (hK12 (k + 1) _ _ ?_ ?_ (sub_cons (by first | rfl | (show some _ = some _; rw [sm_take _ hx32]; rfl)) (sub_cons (by first | rfl | (show some _ = some _; rw [sm_take _ hx32]; rfl)) (sub_cons (by first | rfl | (show some _ = some _; rw [sm_take _ hx32]; rfl)) (sub_cons (by first | rfl | (show some _ = some _; rw [sm_take _ hx32]; rfl)) (sub_cons (by first | rfl | (show some _ = some _; rw [sm_take _ hx32]; rfl)) sub_nil))))) (sub_cons rfl (sub_cons rfl (sub_cons rfl (sub_cons rfl (sub_cons rfl (sub_cons rfl sub_nil)))))) (by exact subH_nil) (subH_same rfl (subH_same rfl subH_nil))))
      ·try dsimp only
       omega
      ·try dsimp only
       omega
     ·refine wp_exit' (to_k0 (fun _ _ h => h) (hK10 _ _ _ _ _ ?_))
      clear hK10
      refine wp_seq' fun K18 hK18 => ?_
      refine wp_reg ?_
      have htk : xs.take k = xs := List.take_of_length_le (by omega)
      simp only [htk]
      have hS := fit_sums (Decidable.not_not.1 hc17)
      have hD := denR_pos (Decidable.not_not.1 hc17) (by omega)
      unfold denR at hD
      refine ol_r (r_move rfl) rfl ?_
      refine ol_r (r_move rfl) rfl ?_
      refine ol_r (r_mul rfl rfl (by omega)) rfl ?_
      refine ol_r (r_move rfl) rfl ?_
      refine ol_r (r_move rfl) rfl ?_
      refine ol_r (r_mul rfl rfl (by omega)) rfl ?_
      refine ol_r (r_sub rfl rfl (by omega)) rfl ?_
      refine ol_r (r_assign rfl) rfl ?_
      refine ol_nil (to_k0 (fun _ _ h => h) (hK18 _ _ _ _ _ ?_))
      clear hK18
      refine wp_seq' fun K19 hK19 => ?_
      refine wp_reg ?_
      refine ol_r (r_move rfl) rfl ?_
      refine ol_r (r_move rfl) rfl ?_
      refine ol_r (r_mul rfl rfl (by omega)) rfl ?_
      refine ol_r (r_move rfl) rfl ?_
      refine ol_r (r_move rfl) rfl ?_
      refine ol_r (r_mul rfl rfl (by omega)) rfl ?_
      refine ol_r (r_sub rfl rfl (by omega)) rfl ?_
      refine ol_r (r_move rfl) rfl ?_
      refine ol_call rfl rfl cb72 rfl (fun w1 hb1 hs1 hB1 => Calls.mono (load_ratio _ _ _ (by omega) (by omega)) ?_)
      rintro e w2 ⟨rfl, hb2⟩
      refine After.below rfl hb1 hs1 hB1 hb2 ?_
      clear hb2 hB1 hs1 hb1 w2 w1
      refine ol_r (r_move rfl) rfl ?_
      refine ol_r (r_move rfl) rfl ?_
      refine ol_r (r_mul rfl rfl (by omega)) rfl ?_
      refine ol_r (r_move rfl) rfl ?_
      refine ol_r (r_move rfl) rfl ?_
      refine ol_r (r_mul rfl rfl (by omega)) rfl ?_
      refine ol_r (r_sub rfl rfl (by omega)) rfl ?_
      refine ol_r (r_move rfl) rfl ?_
      refine ol_call rfl rfl cb72 rfl (fun w1 hb1 hs1 hB1 => Calls.mono (load_ratio _ _ _ (by omega) (by omega)) ?_)
      rintro e w2 ⟨rfl, hb2⟩
      refine After.below rfl hb1 hs1 hB1 hb2 ?_
      clear hb2 hB1 hs1 hb1 w2 w1
      refine ol_store (id := 2) rfl rfl rfl rfl sz40 rfl rfl (by first | decide | exact Nat.zero_lt_succ _ | simp) ?_
      refine ol_store (id := 3) rfl rfl rfl rfl sz40 rfl rfl (by first | decide | exact Nat.zero_lt_succ _ | simp) ?_
      refine ol_r (r_assign rfl) rfl ?_
      refine ol_nil (to_k0 (fun _ _ h => h) (hK19 _ _ _ _ _ ?_))
      clear hK19
      refine hQ.ret (rvs3 (rv_c (id := 2) (n := 2) rfl rfl ag40 rfl) (rv_c (id := 3) (n := 2) rfl rfl ag40 rfl) (rv_t rfl)) (fun _ _ h => h) fun w hb hs hB hkd => ?_
      first
        | (refine ⟨?_, hb⟩; unfold fitV; rw [if_pos hc17]; rfl; done)
        | (refine ⟨?_, hb⟩; unfold fitV; rw [if_neg hc17, if_pos (by omega)]; rfl; done)
        | (refine ⟨?_, hb⟩; unfold fitV; rw [if_neg hc17, if_neg (by omega)]; rfl; done)
theorem ref_Fit (a : Option Addr) (n cap : Nat) (xs : List TestR) (w : World) (hl : Rd encTest w.heap.size w a n cap xs) :
    Calls Try.prog 25 #[.slice a n cap] w fun e w' => e = .returned (.tuple (fitV xs)) ∧ Below w.heap.size w w' := by
  have hn := hl.len
  have hfit := hl.fit
  subst hn
  refine enterQ (N := 82) (C := fun _ => True) (H := []) (B := w.heap.size) (args := [_]) Try.func25 rfl rfl rfl (Nat.le_refl _) (Sat.nil _ _) fun Q hQ => ?_
  refine wp_seq' fun K1 hK1 => ?_
  refine wp_reg ?_
  refine ol_alloc 2 z40 rfl fun b2 => ?_
  refine ol_alloc 3 z40 rfl fun b3 => ?_
  refine ol_r (r_assign rfl) rfl ?_
  refine ol_nil (to_k0 (fun _ _ h => h) (hK1 _ _ _ _ _ ?_))
  clear hK1
  refine wp_seq' fun K2 hK2 => ?_
  refine wp_seq' fun K3 hK3 => ?_
  refine wp_reg ?_
  refine ol_r (r_move rfl) rfl ?_
  refine ol_call rfl rfl cb29 rfl (fun w1 hb1 hs1 hB1 => Calls.mono (ref_CheckTests _ _ _ xs _ (hl.at hb1 hB1)) ?_)
  rintro e w2 ⟨rfl, hb2⟩
  refine After.below rfl hb1 hs1 hB1 hb2 ?_
  clear hb2 hB1 hs1 hb1 w2 w1
  refine ol_r (r_assign rfl) rfl ?_
  refine ol_nil (to_k0 (fun _ _ h => h) (hK3 _ _ _ _ _ ?_))
  clear hK3
  refine wp_seq' fun K4 hK4 => ?_
  refine wp_reg ?_
  refine ol_r (r_move rfl) rfl ?_
  refine ol_r (r_neq rfl rfl) rfl ?_
  refine ol_nil (to_k0 (fun _ _ h => h) (hK4 _ _ _ _ _ ?_))
  clear hK4
  first | refine wp_condD rfl (fun hc17 => ?_) (fun hc17 => ?_) | refine wp_condN rfl (fun hc17 => ?_) (fun hc17 => ?_) | refine wp_condNB rfl (fun hc17 => ?_) (fun hc17 => ?_) | refine wp_cond' rfl (fun hc17 => ?_) (fun hc17 => ?_)
  ·refine wp_seq' fun K5 hK5 => ?_
   refine wp_rega [(999, [(2, _), (3, _)])] (by kernel_rfl) ⟨.inr (subH_same rfl (subH_same rfl subH_nil)), trivial⟩ ?_
   refine aq_r 0 999 rfl (by kernel_rfl) (by kernel_rfl) (by kernel_rfl) (.head _) (by kernel_rfl) (by kernel_rfl) rfl (r_lda (id := 2) (n := 2) rfl rfl rfl ag40) ?_
   refine aq_r 1 999 rfl (by kernel_rfl) (by kernel_rfl) (by kernel_rfl) (.head _) (by kernel_rfl) (by kernel_rfl) rfl (r_lda (id := 3) (n := 2) rfl rfl rfl ag40) ?_
   refine aq_r 2 999 rfl (by kernel_rfl) (by kernel_rfl) (by kernel_rfl) (.head _) (by kernel_rfl) (by kernel_rfl) rfl (r_move rfl) ?_
   refine aq_one (i := 3) (by kernel_rfl) rfl fun K6 hK6 => ?_
   refine ol_store (id := 2) rfl rfl rfl rfl sz40 rfl rfl (by first | decide | exact Nat.zero_lt_succ _ | simp) ?_
   refine ol_nil (to_k0 (fun _ _ h => h) (hK6 _ _ ⟨.inr (by repeat' first | exact subH_nil | refine subH_same rfl ?_ | (refine subH_blk rfl (by repeat' first | exact sub_nil | refine sub_cons rfl ?_) ?_)), trivial⟩ ?_))
   clear hK6
   refine aq_one (i := 4) (by kernel_rfl) rfl fun K7 hK7 => ?_
   refine ol_store (id := 3) rfl rfl rfl rfl sz40 rfl rfl (by first | decide | exact Nat.zero_lt_succ _ | simp) ?_
   refine ol_nil (to_k0 (fun _ _ h => h) (hK7 _ _ ⟨.inr (by repeat' first | exact subH_nil | refine subH_same rfl ?_ | (refine subH_blk rfl (by repeat' first | exact sub_nil | refine sub_cons rfl ?_) ?_)), trivial⟩ ?_))
   clear hK7
   refine aq_r 5 999 rfl (by kernel_rfl) (by kernel_rfl) (by kernel_rfl) (.head _) (by kernel_rfl) (by kernel_rfl) rfl (r_assign rfl) ?_
   refine aq_done (by kernel_rfl) ?_
   refine (to_k0 (fun _ _ h => h) (hK5 _ _ _ _ _ ?_))
   clear hK5
   refine hQ.ret (rvs3 (rv_c (id := 2) (n := 2) rfl rfl ag40 rfl) (rv_c (id := 3) (n := 2) rfl rfl ag40 rfl) (rv_t rfl)) (fun _ _ h => h) fun w hb hs hB hkd => ?_
   first
     | (refine ⟨?_, hb⟩; unfold fitV; rw [if_pos hc17]; rfl; done)
     | (refine ⟨?_, hb⟩; unfold fitV; rw [if_neg hc17, if_pos (by omega)]; rfl; done)
     | (refine ⟨?_, hb⟩; unfold fitV; rw [if_neg hc17, if_neg (by omega)]; rfl; done)
  ·refine wp_skip' (to_k0 (fun _ _ h => h) (hK2 _ _ _ _ _ ?_))
   clear hK2
   refine wp_seq' fun K8 hK8 => ?_
   refine wp_seq' fun K9 hK9 => ?_
   refine wp_reg ?_
   refine ol_r (r_move rfl) rfl ?_
   refine ol_r (r_len rfl sl38) rfl ?_
   refine ol_r (r_lss rfl rfl) rfl ?_
   refine ol_nil (to_k0 (fun _ _ h => h) (hK9 _ _ _ _ _ ?_))
   clear hK9
   first | refine wp_condD rfl (fun hc23 => ?_) (fun hc23 => ?_) | refine wp_condN rfl (fun hc23 => ?_) (fun hc23 => ?_) | refine wp_condNB rfl (fun hc23 => ?_) (fun hc23 => ?_) | refine wp_cond' rfl (fun hc23 => ?_) (fun hc23 => ?_)
   ·refine wp_seq' fun K10 hK10 => ?_
    refine wp_rega [(999, [(2, _), (3, _)])] (by kernel_rfl) ⟨.inr (subH_same rfl (subH_same rfl subH_nil)), trivial⟩ ?_
    refine aq_r 0 999 rfl (by kernel_rfl) (by kernel_rfl) (by kernel_rfl) (.head _) (by kernel_rfl) (by kernel_rfl) rfl (r_lda (id := 2) (n := 2) rfl rfl rfl ag40) ?_
    refine aq_r 1 999 rfl (by kernel_rfl) (by kernel_rfl) (by kernel_rfl) (.head _) (by kernel_rfl) (by kernel_rfl) rfl (r_lda (id := 3) (n := 2) rfl rfl rfl ag40) ?_
    refine aq_one (i := 2) (by kernel_rfl) rfl fun K11 hK11 => ?_
    refine ol_store (id := 2) rfl rfl rfl rfl sz40 rfl rfl (by first | decide | exact Nat.zero_lt_succ _ | simp) ?_
    refine ol_nil (to_k0 (fun _ _ h => h) (hK11 _ _ ⟨.inr (by repeat' first | exact subH_nil | refine subH_same rfl ?_ | (refine subH_blk rfl (by repeat' first | exact sub_nil | refine sub_cons rfl ?_) ?_)), trivial⟩ ?_))
    clear hK11
    refine aq_one (i := 3) (by kernel_rfl) rfl fun K12 hK12 => ?_
    refine ol_store (id := 3) rfl rfl rfl rfl sz40 rfl rfl (by first | decide | exact Nat.zero_lt_succ _ | simp) ?_
    refine ol_nil (to_k0 (fun _ _ h => h) (hK12 _ _ ⟨.inr (by repeat' first | exact subH_nil | refine subH_same rfl ?_ | (refine subH_blk rfl (by repeat' first | exact sub_nil | refine sub_cons rfl ?_) ?_)), trivial⟩ ?_))
    clear hK12
    refine aq_r 4 999 rfl (by kernel_rfl) (by kernel_rfl) (by kernel_rfl) (.head _) (by kernel_rfl) (by kernel_rfl) rfl (r_assign rfl) ?_
    refine aq_done (by kernel_rfl) ?_
    refine (to_k0 (fun _ _ h => h) (hK10 _ _ _ _ _ ?_))
    clear hK10
    refine hQ.ret (rvs3 (rv_c (id := 2) (n := 2) rfl rfl ag40 rfl) (rv_c (id := 3) (n := 2) rfl rfl ag40 rfl) (rv_t rfl)) (fun _ _ h => h) fun w hb hs hB hkd => ?_
    first
      | (refine ⟨?_, hb⟩; unfold fitV; rw [if_pos hc17]; rfl; done)
      | (refine ⟨?_, hb⟩; unfold fitV; rw [if_neg hc17, if_pos (by omega)]; rfl; done)
      | (refine ⟨?_, hb⟩; unfold fitV; rw [if_neg hc17, if_neg (by omega)]; rfl; done)
   ·refine wp_skip' (to_k0 (fun _ _ h => h) (hK8 _ _ _ _ _ ?_))
    clear hK8
    refine wp_seq' fun K13 hK13 => ?_
    refine wp_reg ?_
    refine ol_r (r_move rfl) rfl ?_
    refine ol_r (r_len rfl sl38) rfl ?_
    refine ol_r (r_assign rfl) rfl ?_
    refine ol_r (r_assign rfl) rfl ?_
    refine ol_r (r_assign rfl) rfl ?_
    refine ol_r (r_assign rfl) rfl ?_
    refine ol_r (r_assign rfl) rfl ?_
    refine ol_nil (to_k0 (fun _ _ h => h) (hK13 _ _ _ _ _ ?_))
    clear hK13
    refine wp_seq' fun K14 hK14 => ?_
    refine wp_seq' fun K15 hK15 => ?_
    refine wp_reg ?_
    have hT := testsR_ok (Decidable.not_not.1 hc17)
    refine ol_r (r_move rfl) rfl ?_
    refine ol_r (r_len rfl sl38) rfl ?_
    refine ol_r (r_move rfl) rfl ?_
    refine ol_nil (to_k0 (fun _ _ h => h) (hK15 _ _ _ _ _ ?_))
    clear hK15
    refine wp_block' ?_
    apply wp_loopM (σ := Nat) (fun s => s ≤ xs.length) (fun s => [(30, .int .i64 s), (7, .int .i64 (sm fS (xs.take s))), (8, .int .i64 (sm fW (xs.take s))), (9, .int .i64 (sm fSS (xs.take s))), (10, .int .i64 (sm fSW (xs.take s)))]) [(2, _), (3, _), (4, _), (6, _), (28, _), (29, _)] (fun s => []) [(2, _), (3, _)] (fun s => xs.length - s) (0)
    ·try dsimp only
     simp
    ·exact (sub_cons rfl (sub_cons rfl (sub_cons rfl (sub_cons rfl (sub_cons rfl sub_nil)))))
    ·exact (sub_cons rfl (sub_cons rfl (sub_cons rfl (sub_cons rfl (sub_cons rfl (sub_cons rfl sub_nil))))))
    ·exact subH_nil
    ·exact (subH_same rfl (subH_same rfl subH_nil))
    ·intro k hk
     intro K16 hK16
     refine wp_seq' fun K17 hK17 => ?_
     refine wp_reg ?_
     refine ol_r (r_lss rfl rfl) rfl ?_
     refine ol_nil (to_k0 (fun _ _ h => h) (hK17 _ _ _ _ _ ?_))
     clear hK17
     refine wp_seq' fun K18 hK18 => ?_
     first | refine wp_condD rfl (fun hc31 => ?_) (fun hc31 => ?_) | refine wp_condN rfl (fun hc31 => ?_) (fun hc31 => ?_) | refine wp_condNB rfl (fun hc31 => ?_) (fun hc31 => ?_) | refine wp_cond' rfl (fun hc31 => ?_) (fun hc31 => ?_)
     ·refine wp_skip' (to_k0 (fun _ _ h => h) (hK18 _ _ _ _ _ ?_))
      clear hK18
      refine wp_seq' fun K19 hK19 => ?_
      refine wp_block' ?_
      refine wp_seq' fun K20 hK20 => ?_
      refine wp_reg ?_
      refine ol_ixr hl rfl rfl sl38 (by omega) rfl fun x32 hx32 => ?_
      try simp only [Int.toNat_natCast] at hx32
      refine ol_r (r_ldw rfl (fun w1 hb1 hs1 hB1 => Rd.loads hl ty87 hx32 hb1)) rfl ?_
      refine ol_alloc 12 z87 rfl fun b12 => ?_
      refine ol_store (id := 12) rfl rfl rfl rfl sz87 rfl rfl (by first | decide | exact Nat.zero_lt_succ _ | simp) ?_
      refine ol_nil (to_k0 (fun _ _ h => h) (hK20 _ _ _ _ _ ?_))
      clear hK20
      refine wp_regq (by kernel_rfl) (by kernel_rfl) ?_
      refine ql_r (r_move rfl) rfl ?_
      refine ql_r (r_fa (o' := 0) rfl fl87_0 rfl) rfl ?_
      refine ql_r (r_ld (id := 12) rfl rfl rfl sc3) rfl ?_
      have hB := sums_take k hT.1 hT.2.2
      have hE := hT.2.2 _ (List.mem_of_getElem? hx32)
      have e1 := mul_bd (A := 10000) (B := 10000) (a := x32.sec) (b := x32.sec) (by omega) (by omega) (by omega) (by omega)
      have e2 := mul_bd (A := 10000) (B := 100000000) (a := x32.sec) (b := x32.work) (by omega) (by omega) (by omega) (by omega)
      have b1 := hB.s
      have b2 := hB.w
      have b3 := hB.ss
      have b4 := hB.sw
      refine ql_r (r_add rfl rfl (by omega)) rfl ?_
      refine ql_r (r_move rfl) rfl ?_
      refine ql_r (r_fa (o' := 1) rfl fl87_1 rfl) rfl ?_
      refine ql_r (r_ld (id := 12) rfl rfl rfl sc3) rfl ?_
      refine ql_r (r_add rfl rfl (by omega)) rfl ?_
      refine ql_r (r_move rfl) rfl ?_
      refine ql_r (r_fa (o' := 0) rfl fl87_0 rfl) rfl ?_
      refine ql_r (r_ld (id := 12) rfl rfl rfl sc3) rfl ?_
      refine ql_r (r_fa (o' := 0) rfl fl87_0 rfl) rfl ?_
      refine ql_r (r_ld (id := 12) rfl rfl rfl sc3) rfl ?_
      refine ql_r (r_mul rfl rfl (by omega)) rfl ?_
      refine ql_r (r_add rfl rfl (by omega)) rfl ?_
      refine ql_r (r_move rfl) rfl ?_
      refine ql_r (r_fa (o' := 0) rfl fl87_0 rfl) rfl ?_
      refine ql_r (r_ld (id := 12) rfl rfl rfl sc3) rfl ?_
      refine ql_r (r_fa (o' := 1) rfl fl87_1 rfl) rfl ?_
      refine ql_r (r_ld (id := 12) rfl rfl rfl sc3) rfl ?_
      refine ql_r (r_mul rfl rfl (by omega)) rfl ?_
      refine ql_r (r_add rfl rfl (by omega)) rfl ?_
      refine ql_r (r_assign rfl) rfl ?_
      refine ql_r (r_assign rfl) rfl ?_
      refine ql_r (r_assign rfl) rfl ?_
      refine ql_r (r_assign rfl) rfl ?_
      refine ql_nil (to_k0 (fun _ _ h => h) (hK19 _ _ _ _ _ ?_))
      clear hK19
      refine wp_reg ?_
      refine ol_r (r_add rfl rfl (by omega)) rfl ?_
      refine ol_r (r_move rfl) rfl ?_
      refine ol_nil (to_k0 (fun _ _ h => h) (hK16 (k + 1) _ _ ?_ ?_ (sub_cons (by first | rfl | (show some _ = some _; rw [sm_take _ hx32]; rfl)) (sub_cons (by first | rfl | (show some _ = some _; rw [sm_take _ hx32]; rfl)) (sub_cons (by first | rfl | (show some _ = some _; rw [sm_take _ hx32]; rfl)) (sub_cons (by first | rfl | (show some _ = some _; rw [sm_take _ hx32]; rfl)) (sub_cons (by first | rfl | (show some _ = some _; rw [sm_take _ hx32]; rfl)) sub_nil))))) (sub_cons rfl (sub_cons rfl (sub_cons rfl (sub_cons rfl (sub_cons rfl (sub_cons rfl sub_nil)))))) (by exact subH_nil) (subH_same rfl (subH_same rfl subH_nil))))
      ·try dsimp only
       omega
      ·try dsimp only
       omega
     ·refine wp_exit' (to_k0 (fun _ _ h => h) (hK14 _ _ _ _ _ ?_))
      clear hK14
      refine wp_seq' fun K21 hK21 => ?_
      refine wp_reg ?_
      have htk : xs.take k = xs := List.take_of_length_le (by omega)
      simp only [htk]
      have hS := fit_sums (Decidable.not_not.1 hc17)
      have hD := denR_pos (Decidable.not_not.1 hc17) (by omega)
      unfold denR at hD
      refine ol_r (r_move rfl) rfl ?_
      refine ol_r (r_move rfl) rfl ?_
      refine ol_r (r_mul rfl rfl (by omega)) rfl ?_
      refine ol_r (r_move rfl) rfl ?_
      refine ol_r (r_move rfl) rfl ?_
      refine ol_r (r_mul rfl rfl (by omega)) rfl ?_
      refine ol_r (r_sub rfl rfl (by omega)) rfl ?_
      refine ol_r (r_assign rfl) rfl ?_
      refine ol_nil (to_k0 (fun _ _ h => h) (hK21 _ _ _ _ _ ?_))
      clear hK21
      refine wp_seq' fun K22 hK22 => ?_
      refine wp_reg ?_
      refine ol_r (r_move rfl) rfl ?_
      refine ol_r (r_move rfl) rfl ?_
      refine ol_r (r_mul rfl rfl (by omega)) rfl ?_
      refine ol_r (r_move rfl) rfl ?_
      refine ol_r (r_move rfl) rfl ?_
      refine ol_r (r_mul rfl rfl (by omega)) rfl ?_
      refine ol_r (r_sub rfl rfl (by omega)) rfl ?_
      refine ol_r (r_move rfl) rfl ?_
      refine ol_call rfl rfl cb73 rfl (fun w1 hb1 hs1 hB1 => Calls.mono (ref_ratio _ _ _ (by omega) (by omega)) ?_)
      rintro e w2 ⟨rfl, hb2⟩
      refine After.below rfl hb1 hs1 hB1 hb2 ?_
      clear hb2 hB1 hs1 hb1 w2 w1
      refine ol_r (r_move rfl) rfl ?_
      refine ol_r (r_move rfl) rfl ?_
      refine ol_r (r_mul rfl rfl (by omega)) rfl ?_
      refine ol_r (r_move rfl) rfl ?_
      refine ol_r (r_move rfl) rfl ?_
      refine ol_r (r_mul rfl rfl (by omega)) rfl ?_
      refine ol_r (r_sub rfl rfl (by omega)) rfl ?_
      refine ol_r (r_move rfl) rfl ?_
      refine ol_call rfl rfl cb73 rfl (fun w1 hb1 hs1 hB1 => Calls.mono (ref_ratio _ _ _ (by omega) (by omega)) ?_)
      rintro e w2 ⟨rfl, hb2⟩
      refine After.below rfl hb1 hs1 hB1 hb2 ?_
      clear hb2 hB1 hs1 hb1 w2 w1
      refine ol_store (id := 2) rfl rfl rfl rfl sz40 rfl rfl (by first | decide | exact Nat.zero_lt_succ _ | simp) ?_
      refine ol_store (id := 3) rfl rfl rfl rfl sz40 rfl rfl (by first | decide | exact Nat.zero_lt_succ _ | simp) ?_
      refine ol_r (r_assign rfl) rfl ?_
      refine ol_nil (to_k0 (fun _ _ h => h) (hK22 _ _ _ _ _ ?_))
      clear hK22
      refine hQ.ret (rvs3 (rv_c (id := 2) (n := 2) rfl rfl ag40 rfl) (rv_c (id := 3) (n := 2) rfl rfl ag40 rfl) (rv_t rfl)) (fun _ _ h => h) fun w hb hs hB hkd => ?_
      first
        | (refine ⟨?_, hb⟩; unfold fitV; rw [if_pos hc17]; rfl; done)
        | (refine ⟨?_, hb⟩; unfold fitV; rw [if_neg hc17, if_pos (by omega)]; rfl; done)
        | (refine ⟨?_, hb⟩; unfold fitV; rw [if_neg hc17, if_neg (by omega)]; rfl; done)

/-! #### Errors -/
def errV (p q : Int) (x : TestR) : Int := x.work - q - p * x.sec
def errsR (xs : List TestR) (p q : Int) : List Int × Int :=
  if testsR xs ≠ 0 then ([], testsR xs) else if (!(inB p 0 1000000 && inB q 0 1000000000)) = true then ([], 9) else (xs.map (errV p q), 0)
theorem encI_snoc' (xs ys : List Int) : encI.enc (xs ++ ys) = encI.enc xs ++ encI.enc ys := Enc.enc_append _ _ _
theorem load_Errors (a : Option Addr) (n cap : Nat) (xs : List TestR) (p q : Int) (w : World) (hl : Rd encTest w.heap.size w a n cap xs) :
    Calls Try.prog 26 #[.slice a n cap, .int .i64 p, .int .i64 q] w fun e w' =>
      ∃ b m k, e = .returned (.tuple #[.slice b m k, .int .i64 (errsR xs p q).2]) ∧ Fresh encI 3 w w' b m k (errsR xs p q).1 := by
  have hn := hl.len
  have hfit := hl.fit
  subst hn
  refine enterQ (N := 45) (C := fun _ => True) (H := []) (B := w.heap.size) (args := [_, _, _]) Try.func26 rfl rfl rfl (Nat.le_refl _) (Sat.nil _ _) fun Q hQ => ?_
  refine wp_seq' fun K1 hK1 => ?_
  refine wp_reg ?_
  refine ol_r (r_assign rfl) rfl ?_
  refine ol_r (r_assign rfl) rfl ?_
  refine ol_nil (to_k0 (fun _ _ h => h) (hK1 _ _ _ _ _ ?_))
  clear hK1
  refine wp_seq' fun K2 hK2 => ?_
  refine wp_seq' fun K3 hK3 => ?_
  refine wp_reg ?_
  refine ol_r (r_move rfl) rfl ?_
  refine ol_call rfl rfl cb28 rfl (fun w1 hb1 hs1 hB1 => Calls.mono (load_CheckTests _ _ _ xs _ (hl.at hb1 hB1)) ?_)
  rintro e w2 ⟨rfl, hb2⟩
  refine After.below rfl hb1 hs1 hB1 hb2 ?_
  clear hb2 hB1 hs1 hb1 w2 w1
  refine ol_r (r_assign rfl) rfl ?_
  refine ol_nil (to_k0 (fun _ _ h => h) (hK3 _ _ _ _ _ ?_))
  clear hK3
  refine wp_seq' fun K4 hK4 => ?_
  refine wp_reg ?_
  refine ol_r (r_move rfl) rfl ?_
  refine ol_r (r_neq rfl rfl) rfl ?_
  refine ol_nil (to_k0 (fun _ _ h => h) (hK4 _ _ _ _ _ ?_))
  clear hK4
  first | refine wp_condD rfl (fun hc15 => ?_) (fun hc15 => ?_) | refine wp_condN rfl (fun hc15 => ?_) (fun hc15 => ?_) | refine wp_condNB rfl (fun hc15 => ?_) (fun hc15 => ?_) | refine wp_cond' rfl (fun hc15 => ?_) (fun hc15 => ?_)
  ·refine wp_seq' fun K5 hK5 => ?_
   refine wp_reg ?_
   refine ol_r (r_move rfl) rfl ?_
   refine ol_r (r_assign rfl) rfl ?_
   refine ol_r (r_assign rfl) rfl ?_
   refine ol_nil (to_k0 (fun _ _ h => h) (hK5 _ _ _ _ _ ?_))
   clear hK5
   refine hQ.ret (rvs2 (rv_t rfl) (rv_t rfl)) (fun _ _ h => h) fun w hb hs hB hkd => ?_
   first
     | (refine ⟨none, 0, 0, ?_, ?_⟩
        · unfold errsR; rw [if_pos hc15]
        · unfold errsR; rw [if_pos hc15]; exact Fresh.nil hb
        done)
     | (have hpq : (!(inB p 0 1000000 && inB q 0 1000000000)) = true := by simp_all
        refine ⟨none, 0, 0, ?_, ?_⟩
        · unfold errsR; rw [if_neg hc15, if_pos hpq]
        · unfold errsR; rw [if_neg hc15, if_pos hpq]; exact Fresh.nil hb
        done)
     | (have hpq : ¬(!(inB p 0 1000000 && inB q 0 1000000000)) = true := by simp_all
        have htk : xs.take k = xs := List.take_of_length_le (by omega)
        have hkn : k = xs.length := by omega
        refine ⟨oa, k, oc, ?_, ?_⟩
        · unfold errsR; rw [if_neg hc15, if_neg hpq]
        · unfold errsR; rw [if_neg hc15, if_neg hpq]
          have := hs.ok 9 _ rfl
          rw [htk] at this
          exact ⟨hb, this⟩)
  ·refine wp_skip' (to_k0 (fun _ _ h => h) (hK2 _ _ _ _ _ ?_))
   clear hK2
   refine wp_seq' fun K6 hK6 => ?_
   refine wp_seq' fun K7 hK7 => ?_
   refine wp_reg ?_
   refine ol_r (r_move rfl) rfl ?_
   refine ol_call rfl rfl cb67 rfl (fun w1 hb1 hs1 hB1 => Calls.mono (load_in _ _ _ _) ?_)
   rintro e w2 ⟨rfl, hb2⟩
   refine After.below rfl hb1 hs1 hB1 hb2 ?_
   clear hb2 hB1 hs1 hb1 w2 w1
   refine ol_r (r_not rfl) rfl ?_
   refine ol_r (r_move rfl) rfl ?_
   refine ol_split (d := 20) rfl (fun hs20 => ?_) (fun hs20 => ?_)
   ·have phs20 := hs20; try simp only [decide_eq_true_eq, decide_eq_false_iff_not, Bool.not_eq_true', Bool.not_eq_false', Bool.not_true, Bool.not_false] at phs20
    refine ol_s rfl rfl hs20 rfl ?_
    refine ol_s rfl rfl hs20 rfl ?_
    refine ol_s rfl rfl hs20 rfl ?_
    refine ol_r (r_pickT rfl hs20 rfl) rfl ?_
    refine ol_nil (to_k0 (fun _ _ h => h) (hK7 _ _ _ _ _ ?_))
    clear hK7
    refine wp_condT rfl ?_
    refine wp_seq' fun K8 hK8 => ?_
    refine wp_reg ?_
    refine ol_r (r_assign rfl) rfl ?_
    refine ol_r (r_assign rfl) rfl ?_
    refine ol_nil (to_k0 (fun _ _ h => h) (hK8 _ _ _ _ _ ?_))
    clear hK8
    refine hQ.ret (rvs2 (rv_t rfl) (rv_t rfl)) (fun _ _ h => h) fun w hb hs hB hkd => ?_
    first
      | (refine ⟨none, 0, 0, ?_, ?_⟩
         · unfold errsR; rw [if_pos hc15]
         · unfold errsR; rw [if_pos hc15]; exact Fresh.nil hb
         done)
      | (have hpq : (!(inB p 0 1000000 && inB q 0 1000000000)) = true := by simp_all
         refine ⟨none, 0, 0, ?_, ?_⟩
         · unfold errsR; rw [if_neg hc15, if_pos hpq]
         · unfold errsR; rw [if_neg hc15, if_pos hpq]; exact Fresh.nil hb
         done)
      | (have hpq : ¬(!(inB p 0 1000000 && inB q 0 1000000000)) = true := by simp_all
         have htk : xs.take k = xs := List.take_of_length_le (by omega)
         have hkn : k = xs.length := by omega
         refine ⟨oa, k, oc, ?_, ?_⟩
         · unfold errsR; rw [if_neg hc15, if_neg hpq]
         · unfold errsR; rw [if_neg hc15, if_neg hpq]
           have := hs.ok 9 _ rfl
           rw [htk] at this
           exact ⟨hb, this⟩)
   ·have phs20 := hs20; try simp only [decide_eq_true_eq, decide_eq_false_iff_not, Bool.not_eq_true', Bool.not_eq_false', Bool.not_true, Bool.not_false] at phs20
    refine ol_g rfl rfl hs20 ?_
    refine ol_r (r_move rfl) rfl ?_
    refine ol_g rfl rfl hs20 ?_
    refine ol_call rfl rfl cb67 rfl (fun w1 hb1 hs1 hB1 => Calls.mono (load_in _ _ _ _) ?_)
    rintro e w2 ⟨rfl, hb2⟩
    refine After.below rfl hb1 hs1 hB1 hb2 ?_
    clear hb2 hB1 hs1 hb1 w2 w1
    refine ol_g rfl rfl hs20 ?_
    refine ol_r (r_not rfl) rfl ?_
    refine ol_r (r_pickF rfl hs20 rfl) rfl ?_
    refine ol_nil (to_k0 (fun _ _ h => h) (hK7 _ _ _ _ _ ?_))
    clear hK7
    first | refine wp_condD rfl (fun hc24 => ?_) (fun hc24 => ?_) | refine wp_condN rfl (fun hc24 => ?_) (fun hc24 => ?_) | refine wp_condNB rfl (fun hc24 => ?_) (fun hc24 => ?_) | refine wp_cond' rfl (fun hc24 => ?_) (fun hc24 => ?_)
    ·refine wp_seq' fun K9 hK9 => ?_
     refine wp_reg ?_
     refine ol_r (r_assign rfl) rfl ?_
     refine ol_r (r_assign rfl) rfl ?_
     refine ol_nil (to_k0 (fun _ _ h => h) (hK9 _ _ _ _ _ ?_))
     clear hK9
     refine hQ.ret (rvs2 (rv_t rfl) (rv_t rfl)) (fun _ _ h => h) fun w hb hs hB hkd => ?_
     first
       | (refine ⟨none, 0, 0, ?_, ?_⟩
          · unfold errsR; rw [if_pos hc15]
          · unfold errsR; rw [if_pos hc15]; exact Fresh.nil hb
          done)
       | (have hpq : (!(inB p 0 1000000 && inB q 0 1000000000)) = true := by simp_all
          refine ⟨none, 0, 0, ?_, ?_⟩
          · unfold errsR; rw [if_neg hc15, if_pos hpq]
          · unfold errsR; rw [if_neg hc15, if_pos hpq]; exact Fresh.nil hb
          done)
       | (have hpq : ¬(!(inB p 0 1000000 && inB q 0 1000000000)) = true := by simp_all
          have htk : xs.take k = xs := List.take_of_length_le (by omega)
          have hkn : k = xs.length := by omega
          refine ⟨oa, k, oc, ?_, ?_⟩
          · unfold errsR; rw [if_neg hc15, if_neg hpq]
          · unfold errsR; rw [if_neg hc15, if_neg hpq]
            have := hs.ok 9 _ rfl
            rw [htk] at this
            exact ⟨hb, this⟩)
    ·refine wp_skip' (to_k0 (fun _ _ h => h) (hK6 _ _ _ _ _ ?_))
     clear hK6
     refine wp_seq' fun K10 hK10 => ?_
     refine wp_reg ?_
     refine ol_nilrow 9 3 1 ?_
     refine ol_r (r_assign rfl) rfl ?_
     refine ol_nil (to_k0 (fun _ _ h => h) (hK10 _ _ _ _ _ ?_))
     clear hK10
     refine wp_seq' fun K11 hK11 => ?_
     refine wp_seq' fun K12 hK12 => ?_
     refine wp_reg ?_
     refine ol_r (r_move rfl) rfl ?_
     refine ol_r (r_len rfl sl38) rfl ?_
     refine ol_r (r_move rfl) rfl ?_
     refine ol_nil (to_k0 (fun _ _ h => h) (hK12 _ _ _ _ _ ?_))
     clear hK12
     refine wp_block' ?_
     apply wp_loopM (σ := Nat × Option Addr × Nat) (fun s => s.1 ≤ xs.length) (fun s => [(27, .int .i64 s.1), (9, .slice s.2.1 s.1 s.2.2)]) [(1, _), (2, _), (6, _), (7, _), (25, _), (26, _)] (fun s => [(9, .row s.2.1 s.1 s.2.2 (encI.enc ((xs.take s.1).map (errV p q))) 3 1)]) [] (fun s => xs.length - s.1) ((0, none, 0))
     ·try dsimp only
      exact Nat.zero_le _
     ·exact (sub_cons rfl (sub_cons rfl sub_nil))
     ·exact (sub_cons rfl (sub_cons rfl (sub_cons rfl (sub_cons rfl (sub_cons rfl (sub_cons rfl sub_nil))))))
     ·exact (subH_row rfl (by first | (dsimp only; rfl; done) | (rfl; done) | (dsimp only; done)) subH_nil)
     ·exact subH_nil
     ·rintro ⟨k, oa, oc⟩ hk
      dsimp only at hk ⊢
      intro K13 hK13
      refine wp_seq' fun K14 hK14 => ?_
      refine wp_reg ?_
      refine ol_r (r_lss rfl rfl) rfl ?_
      refine ol_nil (to_k0 (fun _ _ h => h) (hK14 _ _ _ _ _ ?_))
      clear hK14
      refine wp_seq' fun K15 hK15 => ?_
      first | refine wp_condD rfl (fun hc28 => ?_) (fun hc28 => ?_) | refine wp_condN rfl (fun hc28 => ?_) (fun hc28 => ?_) | refine wp_condNB rfl (fun hc28 => ?_) (fun hc28 => ?_) | refine wp_cond' rfl (fun hc28 => ?_) (fun hc28 => ?_)
      ·refine wp_skip' (to_k0 (fun _ _ h => h) (hK15 _ _ _ _ _ ?_))
       clear hK15
       refine wp_seq' fun K16 hK16 => ?_
       refine wp_block' ?_
       refine wp_seq' fun K17 hK17 => ?_
       refine wp_reg ?_
       refine ol_ixr hl rfl rfl sl38 (by omega) rfl fun x29 hx29 => ?_
       try simp only [Int.toNat_natCast] at hx29
       refine ol_r (r_ldw rfl (fun w1 hb1 hs1 hB1 => Rd.loads hl ty87 hx29 hb1)) rfl ?_
       refine ol_alloc 11 z87 rfl fun b11 => ?_
       refine ol_store (id := 11) rfl rfl rfl rfl sz87 rfl rfl (by first | decide | exact Nat.zero_lt_succ _ | simp) ?_
       refine ol_nil (to_k0 (fun _ _ h => h) (hK17 _ _ _ _ _ ?_))
       clear hK17
       refine wp_reg ?_
       refine ol_r (r_move rfl) rfl ?_
       refine ol_r (r_fa (o' := 1) rfl fl87_1 rfl) rfl ?_
       refine ol_r (r_ld (id := 11) rfl rfl rfl sc3) rfl ?_
       have hT := testsR_ok (Decidable.not_not.1 hc15)
       have hE := hT.2.2 _ (List.mem_of_getElem? hx29)
       have hpq : inB p 0 1000000 = true ∧ inB q 0 1000000000 = true := by simp_all
       have hp := inB_iff.1 hpq.1
       have hq := inB_iff.1 hpq.2
       have e1 := mul_bd (A := 1000000) (B := 10000) (a := p) (b := x29.sec) (by omega) (by omega) (by omega) (by omega)
       refine ol_r (r_move rfl) rfl ?_
       refine ol_r (r_sub rfl rfl (by omega)) rfl ?_
       refine ol_r (r_move rfl) rfl ?_
       refine ol_r (r_fa (o' := 0) rfl fl87_0 rfl) rfl ?_
       refine ol_r (r_ld (id := 11) rfl rfl rfl sc3) rfl ?_
       refine ol_r (r_mul rfl rfl (by omega)) rfl ?_
       refine ol_r (r_sub rfl rfl (by omega)) rfl ?_
       refine ol_bs1 41 rfl rfl rw22 rfl rfl rfl fun a41 => ?_
       refine ol_append1 (id := 9) (id2 := 41) rfl rfl rfl rfl rfl rw22 (by omega) rfl fun a42 c42 => ?_
       refine ol_r (r_assign rfl) rfl ?_
       refine ol_nil (to_k0 (fun _ _ h => h) (hK16 _ _ _ _ _ ?_))
       clear hK16
       refine wp_reg ?_
       refine ol_r (r_add rfl rfl (by omega)) rfl ?_
       refine ol_r (r_move rfl) rfl ?_
       refine ol_nil (to_k0 (fun _ _ h => h) (hK13 ((k + 1, _, _)) _ _ ?_ ?_ (sub_cons rfl (sub_cons rfl sub_nil)) (sub_cons rfl (sub_cons rfl (sub_cons rfl (sub_cons rfl (sub_cons rfl (sub_cons rfl sub_nil)))))) (by exact (subH_row rfl (by first | (dsimp only; rw [take_succ_get hx29, List.map_append, encI_snoc']; rfl; done) | (rw [take_succ_get hx29, List.map_append, encI_snoc']; rfl; done) | (dsimp only; done)) subH_nil)) subH_nil))
       ·try dsimp only
        omega
       ·try dsimp only
        omega
      ·refine wp_exit' (to_k0 (fun _ _ h => h) (hK11 _ _ _ _ _ ?_))
       clear hK11
       refine wp_seq' fun K18 hK18 => ?_
       refine wp_reg ?_
       refine ol_r (r_move rfl) rfl ?_
       refine ol_r (r_assign rfl) rfl ?_
       refine ol_r (r_assign rfl) rfl ?_
       refine ol_nil (to_k0 (fun _ _ h => h) (hK18 _ _ _ _ _ ?_))
       clear hK18
       refine hQ.ret (rvs2 (rv_t rfl) (rv_t rfl)) (fun _ _ h => h) fun w hb hs hB hkd => ?_
       first
         | (refine ⟨none, 0, 0, ?_, ?_⟩
            · unfold errsR; rw [if_pos hc15]
            · unfold errsR; rw [if_pos hc15]; exact Fresh.nil hb
            done)
         | (have hpq : (!(inB p 0 1000000 && inB q 0 1000000000)) = true := by simp_all
            refine ⟨none, 0, 0, ?_, ?_⟩
            · unfold errsR; rw [if_neg hc15, if_pos hpq]
            · unfold errsR; rw [if_neg hc15, if_pos hpq]; exact Fresh.nil hb
            done)
         | (have hpq : ¬(!(inB p 0 1000000 && inB q 0 1000000000)) = true := by simp_all
            have htk : xs.take k = xs := List.take_of_length_le (by omega)
            have hkn : k = xs.length := by omega
            refine ⟨oa, k, oc, ?_, ?_⟩
            · unfold errsR; rw [if_neg hc15, if_neg hpq]
            · unfold errsR; rw [if_neg hc15, if_neg hpq]
              have := hs.ok 9 _ rfl
              rw [htk] at this
              exact ⟨hb, this⟩)
theorem ref_Errors (a : Option Addr) (n cap : Nat) (xs : List TestR) (p q : Int) (w : World) (hl : Rd encTest w.heap.size w a n cap xs) :
    Calls Try.prog 27 #[.slice a n cap, .int .i64 p, .int .i64 q] w fun e w' =>
      ∃ b m k, e = .returned (.tuple #[.slice b m k, .int .i64 (errsR xs p q).2]) ∧ Fresh encI 3 w w' b m k (errsR xs p q).1 := by
  have hn := hl.len
  have hfit := hl.fit
  subst hn
  refine enterQ (N := 43) (C := fun _ => True) (H := []) (B := w.heap.size) (args := [_, _, _]) Try.func27 rfl rfl rfl (Nat.le_refl _) (Sat.nil _ _) fun Q hQ => ?_
  refine wp_seq' fun K1 hK1 => ?_
  refine wp_reg ?_
  refine ol_r (r_assign rfl) rfl ?_
  refine ol_r (r_assign rfl) rfl ?_
  refine ol_nil (to_k0 (fun _ _ h => h) (hK1 _ _ _ _ _ ?_))
  clear hK1
  refine wp_seq' fun K2 hK2 => ?_
  refine wp_seq' fun K3 hK3 => ?_
  refine wp_reg ?_
  refine ol_r (r_move rfl) rfl ?_
  refine ol_call rfl rfl cb29 rfl (fun w1 hb1 hs1 hB1 => Calls.mono (ref_CheckTests _ _ _ xs _ (hl.at hb1 hB1)) ?_)
  rintro e w2 ⟨rfl, hb2⟩
  refine After.below rfl hb1 hs1 hB1 hb2 ?_
  clear hb2 hB1 hs1 hb1 w2 w1
  refine ol_r (r_assign rfl) rfl ?_
  refine ol_nil (to_k0 (fun _ _ h => h) (hK3 _ _ _ _ _ ?_))
  clear hK3
  refine wp_seq' fun K4 hK4 => ?_
  refine wp_reg ?_
  refine ol_r (r_move rfl) rfl ?_
  refine ol_r (r_neq rfl rfl) rfl ?_
  refine ol_nil (to_k0 (fun _ _ h => h) (hK4 _ _ _ _ _ ?_))
  clear hK4
  first | refine wp_condD rfl (fun hc15 => ?_) (fun hc15 => ?_) | refine wp_condN rfl (fun hc15 => ?_) (fun hc15 => ?_) | refine wp_condNB rfl (fun hc15 => ?_) (fun hc15 => ?_) | refine wp_cond' rfl (fun hc15 => ?_) (fun hc15 => ?_)
  ·refine wp_seq' fun K5 hK5 => ?_
   refine wp_reg ?_
   refine ol_r (r_move rfl) rfl ?_
   refine ol_r (r_assign rfl) rfl ?_
   refine ol_r (r_assign rfl) rfl ?_
   refine ol_nil (to_k0 (fun _ _ h => h) (hK5 _ _ _ _ _ ?_))
   clear hK5
   refine hQ.ret (rvs2 (rv_t rfl) (rv_t rfl)) (fun _ _ h => h) fun w hb hs hB hkd => ?_
   first
     | (refine ⟨none, 0, 0, ?_, ?_⟩
        · unfold errsR; rw [if_pos hc15]
        · unfold errsR; rw [if_pos hc15]; exact Fresh.nil hb
        done)
     | (have hpq : (!(inB p 0 1000000 && inB q 0 1000000000)) = true := by simp_all
        refine ⟨none, 0, 0, ?_, ?_⟩
        · unfold errsR; rw [if_neg hc15, if_pos hpq]
        · unfold errsR; rw [if_neg hc15, if_pos hpq]; exact Fresh.nil hb
        done)
     | (have hpq : ¬(!(inB p 0 1000000 && inB q 0 1000000000)) = true := by simp_all
        have htk : xs.take k = xs := List.take_of_length_le (by omega)
        have hkn : k = xs.length := by omega
        refine ⟨oa, k, oc, ?_, ?_⟩
        · unfold errsR; rw [if_neg hc15, if_neg hpq]
        · unfold errsR; rw [if_neg hc15, if_neg hpq]
          have := hs.ok 9 _ rfl
          rw [htk] at this
          exact ⟨hb, this⟩)
  ·refine wp_skip' (to_k0 (fun _ _ h => h) (hK2 _ _ _ _ _ ?_))
   clear hK2
   refine wp_seq' fun K6 hK6 => ?_
   refine wp_seq' fun K7 hK7 => ?_
   refine wp_reg ?_
   refine ol_r (r_move rfl) rfl ?_
   refine ol_call rfl rfl cb62 rfl (fun w1 hb1 hs1 hB1 => Calls.mono (ref_outside _ _ _ _) ?_)
   rintro e w2 ⟨rfl, hb2⟩
   refine After.below rfl hb1 hs1 hB1 hb2 ?_
   clear hb2 hB1 hs1 hb1 w2 w1
   refine ol_r (r_move rfl) rfl ?_
   refine ol_split (d := 19) rfl (fun hs19 => ?_) (fun hs19 => ?_)
   ·have phs19 := hs19; try simp only [decide_eq_true_eq, decide_eq_false_iff_not, Bool.not_eq_true', Bool.not_eq_false', Bool.not_true, Bool.not_false] at phs19
    refine ol_s rfl rfl hs19 rfl ?_
    refine ol_s rfl rfl hs19 rfl ?_
    refine ol_r (r_pickT rfl hs19 rfl) rfl ?_
    refine ol_nil (to_k0 (fun _ _ h => h) (hK7 _ _ _ _ _ ?_))
    clear hK7
    refine wp_condT rfl ?_
    refine wp_seq' fun K8 hK8 => ?_
    refine wp_reg ?_
    refine ol_r (r_assign rfl) rfl ?_
    refine ol_r (r_assign rfl) rfl ?_
    refine ol_nil (to_k0 (fun _ _ h => h) (hK8 _ _ _ _ _ ?_))
    clear hK8
    refine hQ.ret (rvs2 (rv_t rfl) (rv_t rfl)) (fun _ _ h => h) fun w hb hs hB hkd => ?_
    first
      | (refine ⟨none, 0, 0, ?_, ?_⟩
         · unfold errsR; rw [if_pos hc15]
         · unfold errsR; rw [if_pos hc15]; exact Fresh.nil hb
         done)
      | (have hpq : (!(inB p 0 1000000 && inB q 0 1000000000)) = true := by simp_all
         refine ⟨none, 0, 0, ?_, ?_⟩
         · unfold errsR; rw [if_neg hc15, if_pos hpq]
         · unfold errsR; rw [if_neg hc15, if_pos hpq]; exact Fresh.nil hb
         done)
      | (have hpq : ¬(!(inB p 0 1000000 && inB q 0 1000000000)) = true := by simp_all
         have htk : xs.take k = xs := List.take_of_length_le (by omega)
         have hkn : k = xs.length := by omega
         refine ⟨oa, k, oc, ?_, ?_⟩
         · unfold errsR; rw [if_neg hc15, if_neg hpq]
         · unfold errsR; rw [if_neg hc15, if_neg hpq]
           have := hs.ok 9 _ rfl
           rw [htk] at this
           exact ⟨hb, this⟩)
   ·have phs19 := hs19; try simp only [decide_eq_true_eq, decide_eq_false_iff_not, Bool.not_eq_true', Bool.not_eq_false', Bool.not_true, Bool.not_false] at phs19
    refine ol_g rfl rfl hs19 ?_
    refine ol_r (r_move rfl) rfl ?_
    refine ol_g rfl rfl hs19 ?_
    refine ol_call rfl rfl cb62 rfl (fun w1 hb1 hs1 hB1 => Calls.mono (ref_outside _ _ _ _) ?_)
    rintro e w2 ⟨rfl, hb2⟩
    refine After.below rfl hb1 hs1 hB1 hb2 ?_
    clear hb2 hB1 hs1 hb1 w2 w1
    refine ol_r (r_pickF rfl hs19 rfl) rfl ?_
    refine ol_nil (to_k0 (fun _ _ h => h) (hK7 _ _ _ _ _ ?_))
    clear hK7
    first | refine wp_condD rfl (fun hc22 => ?_) (fun hc22 => ?_) | refine wp_condN rfl (fun hc22 => ?_) (fun hc22 => ?_) | refine wp_condNB rfl (fun hc22 => ?_) (fun hc22 => ?_) | refine wp_cond' rfl (fun hc22 => ?_) (fun hc22 => ?_)
    ·refine wp_seq' fun K9 hK9 => ?_
     refine wp_reg ?_
     refine ol_r (r_assign rfl) rfl ?_
     refine ol_r (r_assign rfl) rfl ?_
     refine ol_nil (to_k0 (fun _ _ h => h) (hK9 _ _ _ _ _ ?_))
     clear hK9
     refine hQ.ret (rvs2 (rv_t rfl) (rv_t rfl)) (fun _ _ h => h) fun w hb hs hB hkd => ?_
     first
       | (refine ⟨none, 0, 0, ?_, ?_⟩
          · unfold errsR; rw [if_pos hc15]
          · unfold errsR; rw [if_pos hc15]; exact Fresh.nil hb
          done)
       | (have hpq : (!(inB p 0 1000000 && inB q 0 1000000000)) = true := by simp_all
          refine ⟨none, 0, 0, ?_, ?_⟩
          · unfold errsR; rw [if_neg hc15, if_pos hpq]
          · unfold errsR; rw [if_neg hc15, if_pos hpq]; exact Fresh.nil hb
          done)
       | (have hpq : ¬(!(inB p 0 1000000 && inB q 0 1000000000)) = true := by simp_all
          have htk : xs.take k = xs := List.take_of_length_le (by omega)
          have hkn : k = xs.length := by omega
          refine ⟨oa, k, oc, ?_, ?_⟩
          · unfold errsR; rw [if_neg hc15, if_neg hpq]
          · unfold errsR; rw [if_neg hc15, if_neg hpq]
            have := hs.ok 9 _ rfl
            rw [htk] at this
            exact ⟨hb, this⟩)
    ·refine wp_skip' (to_k0 (fun _ _ h => h) (hK6 _ _ _ _ _ ?_))
     clear hK6
     refine wp_seq' fun K10 hK10 => ?_
     refine wp_reg ?_
     refine ol_nilrow 9 3 1 ?_
     refine ol_r (r_assign rfl) rfl ?_
     refine ol_nil (to_k0 (fun _ _ h => h) (hK10 _ _ _ _ _ ?_))
     clear hK10
     refine wp_seq' fun K11 hK11 => ?_
     refine wp_seq' fun K12 hK12 => ?_
     refine wp_reg ?_
     refine ol_r (r_move rfl) rfl ?_
     refine ol_r (r_len rfl sl38) rfl ?_
     refine ol_r (r_move rfl) rfl ?_
     refine ol_nil (to_k0 (fun _ _ h => h) (hK12 _ _ _ _ _ ?_))
     clear hK12
     refine wp_block' ?_
     apply wp_loopM (σ := Nat × Option Addr × Nat) (fun s => s.1 ≤ xs.length) (fun s => [(25, .int .i64 s.1), (9, .slice s.2.1 s.1 s.2.2)]) [(1, _), (2, _), (6, _), (7, _), (23, _), (24, _)] (fun s => [(9, .row s.2.1 s.1 s.2.2 (encI.enc ((xs.take s.1).map (errV p q))) 3 1)]) [] (fun s => xs.length - s.1) ((0, none, 0))
     ·try dsimp only
      exact Nat.zero_le _
     ·exact (sub_cons rfl (sub_cons rfl sub_nil))
     ·exact (sub_cons rfl (sub_cons rfl (sub_cons rfl (sub_cons rfl (sub_cons rfl (sub_cons rfl sub_nil))))))
     ·exact (subH_row rfl (by first | (dsimp only; rfl; done) | (rfl; done) | (dsimp only; done)) subH_nil)
     ·exact subH_nil
     ·rintro ⟨k, oa, oc⟩ hk
      dsimp only at hk ⊢
      intro K13 hK13
      refine wp_seq' fun K14 hK14 => ?_
      refine wp_reg ?_
      refine ol_r (r_lss rfl rfl) rfl ?_
      refine ol_nil (to_k0 (fun _ _ h => h) (hK14 _ _ _ _ _ ?_))
      clear hK14
      refine wp_seq' fun K15 hK15 => ?_
      first | refine wp_condD rfl (fun hc26 => ?_) (fun hc26 => ?_) | refine wp_condN rfl (fun hc26 => ?_) (fun hc26 => ?_) | refine wp_condNB rfl (fun hc26 => ?_) (fun hc26 => ?_) | refine wp_cond' rfl (fun hc26 => ?_) (fun hc26 => ?_)
      ·refine wp_skip' (to_k0 (fun _ _ h => h) (hK15 _ _ _ _ _ ?_))
       clear hK15
       refine wp_seq' fun K16 hK16 => ?_
       refine wp_block' ?_
       refine wp_seq' fun K17 hK17 => ?_
       refine wp_reg ?_
       refine ol_ixr hl rfl rfl sl38 (by omega) rfl fun x27 hx27 => ?_
       try simp only [Int.toNat_natCast] at hx27
       refine ol_r (r_ldw rfl (fun w1 hb1 hs1 hB1 => Rd.loads hl ty87 hx27 hb1)) rfl ?_
       refine ol_alloc 11 z87 rfl fun b11 => ?_
       refine ol_store (id := 11) rfl rfl rfl rfl sz87 rfl rfl (by first | decide | exact Nat.zero_lt_succ _ | simp) ?_
       refine ol_nil (to_k0 (fun _ _ h => h) (hK17 _ _ _ _ _ ?_))
       clear hK17
       refine wp_reg ?_
       refine ol_r (r_move rfl) rfl ?_
       refine ol_r (r_fa (o' := 1) rfl fl87_1 rfl) rfl ?_
       refine ol_r (r_ld (id := 11) rfl rfl rfl sc3) rfl ?_
       have hT := testsR_ok (Decidable.not_not.1 hc15)
       have hE := hT.2.2 _ (List.mem_of_getElem? hx27)
       have hpq : inB p 0 1000000 = true ∧ inB q 0 1000000000 = true := by simp_all
       have hp := inB_iff.1 hpq.1
       have hq := inB_iff.1 hpq.2
       have e1 := mul_bd (A := 1000000) (B := 10000) (a := p) (b := x27.sec) (by omega) (by omega) (by omega) (by omega)
       refine ol_r (r_move rfl) rfl ?_
       refine ol_r (r_sub rfl rfl (by omega)) rfl ?_
       refine ol_r (r_move rfl) rfl ?_
       refine ol_r (r_fa (o' := 0) rfl fl87_0 rfl) rfl ?_
       refine ol_r (r_ld (id := 11) rfl rfl rfl sc3) rfl ?_
       refine ol_r (r_mul rfl rfl (by omega)) rfl ?_
       refine ol_r (r_sub rfl rfl (by omega)) rfl ?_
       refine ol_bs1 39 rfl rfl rw22 rfl rfl rfl fun a39 => ?_
       refine ol_append1 (id := 9) (id2 := 39) rfl rfl rfl rfl rfl rw22 (by omega) rfl fun a40 c40 => ?_
       refine ol_r (r_assign rfl) rfl ?_
       refine ol_nil (to_k0 (fun _ _ h => h) (hK16 _ _ _ _ _ ?_))
       clear hK16
       refine wp_reg ?_
       refine ol_r (r_add rfl rfl (by omega)) rfl ?_
       refine ol_r (r_move rfl) rfl ?_
       refine ol_nil (to_k0 (fun _ _ h => h) (hK13 ((k + 1, _, _)) _ _ ?_ ?_ (sub_cons rfl (sub_cons rfl sub_nil)) (sub_cons rfl (sub_cons rfl (sub_cons rfl (sub_cons rfl (sub_cons rfl (sub_cons rfl sub_nil)))))) (by exact (subH_row rfl (by first | (dsimp only; rw [take_succ_get hx27, List.map_append, encI_snoc']; rfl; done) | (rw [take_succ_get hx27, List.map_append, encI_snoc']; rfl; done) | (dsimp only; done)) subH_nil)) subH_nil))
       ·try dsimp only
        omega
       ·try dsimp only
        omega
      ·refine wp_exit' (to_k0 (fun _ _ h => h) (hK11 _ _ _ _ _ ?_))
       clear hK11
       refine wp_seq' fun K18 hK18 => ?_
       refine wp_reg ?_
       refine ol_r (r_move rfl) rfl ?_
       refine ol_r (r_assign rfl) rfl ?_
       refine ol_r (r_assign rfl) rfl ?_
       refine ol_nil (to_k0 (fun _ _ h => h) (hK18 _ _ _ _ _ ?_))
       clear hK18
       refine hQ.ret (rvs2 (rv_t rfl) (rv_t rfl)) (fun _ _ h => h) fun w hb hs hB hkd => ?_
       first
         | (refine ⟨none, 0, 0, ?_, ?_⟩
            · unfold errsR; rw [if_pos hc15]
            · unfold errsR; rw [if_pos hc15]; exact Fresh.nil hb
            done)
         | (have hpq : (!(inB p 0 1000000 && inB q 0 1000000000)) = true := by simp_all
            refine ⟨none, 0, 0, ?_, ?_⟩
            · unfold errsR; rw [if_neg hc15, if_pos hpq]
            · unfold errsR; rw [if_neg hc15, if_pos hpq]; exact Fresh.nil hb
            done)
         | (have hpq : ¬(!(inB p 0 1000000 && inB q 0 1000000000)) = true := by simp_all
            have htk : xs.take k = xs := List.take_of_length_le (by omega)
            have hkn : k = xs.length := by omega
            refine ⟨oa, k, oc, ?_, ?_⟩
            · unfold errsR; rw [if_neg hc15, if_neg hpq]
            · unfold errsR; rw [if_neg hc15, if_neg hpq]
              have := hs.ok 9 _ rfl
              rw [htk] at this
              exact ⟨hb, this⟩)

theorem law_fit (a : Option Addr) (n cap : Nat) (xs : List TestR) (p q : Int) (w : World) (hl : Rd encTest w.heap.size w a n cap xs) :
    Calls Try.prog 6 #[.slice a n cap, .int .i64 p, .int .i64 q] w fun e w' => e = .returned (.bool true) ∧ Below w.heap.size w w' := by
  have hn := hl.len
  have hfit := hl.fit
  obtain ⟨f1, f2, f3, f4, f5, hfv⟩ : ∃ f1 f2 f3 f4 f5 : Int, fitV xs = #[.agg #[.int .i64 f1, .int .i64 f2], .agg #[.int .i64 f3, .int .i64 f4], .int .i64 f5] := by
    unfold fitV
    split
    · exact ⟨_, _, _, _, _, rfl⟩
    · split <;> exact ⟨_, _, _, _, _, rfl⟩
  have lf := fun (w : World) (h : Rd encTest w.heap.size w a n cap xs) => load_Fit a n cap xs w h
  have rf := fun (w : World) (h : Rd encTest w.heap.size w a n cap xs) => ref_Fit a n cap xs w h
  rw [hfv] at lf rf
  refine enterQ (N := 76) (C := fun _ => True) (H := []) (B := w.heap.size) (args := [_, _, _]) Try.func6 rfl rfl rfl (Nat.le_refl _) (Sat.nil _ _) fun Q hQ => ?_
  refine wp_seq' fun K1 hK1 => ?_
  refine wp_reg ?_
  refine ol_r (r_assign rfl) rfl ?_
  refine ol_nil (to_k0 (fun _ _ h => h) (hK1 _ _ _ _ _ ?_))
  clear hK1
  refine wp_seq' fun K2 hK2 => ?_
  refine wp_reg ?_
  refine ol_r (r_move rfl) rfl ?_
  refine ol_call rfl rfl cb24 rfl (fun w1 hb1 hs1 hB1 => Calls.mono (lf _ (hl.at hb1 hB1)) ?_)
  rintro e w2 ⟨rfl, hb2⟩
  refine After.below rfl hb1 hs1 hB1 hb2 ?_
  clear hb2 hB1 hs1 hb1 w2 w1
  refine ol_r (r_move rfl) rfl ?_
  refine ol_r (r_extract rfl rfl) rfl ?_
  refine ol_r (r_extract rfl rfl) rfl ?_
  refine ol_r (r_extract rfl rfl) rfl ?_
  refine ol_alloc 7 z40 rfl fun b7 => ?_
  refine ol_alloc 8 z40 rfl fun b8 => ?_
  refine ol_store (id := 7) rfl rfl rfl rfl sz40 rfl rfl (by first | decide | exact Nat.zero_lt_succ _ | simp) ?_
  refine ol_store (id := 8) rfl rfl rfl rfl sz40 rfl rfl (by first | decide | exact Nat.zero_lt_succ _ | simp) ?_
  refine ol_r (r_assign rfl) rfl ?_
  refine ol_nil (to_k0 (fun _ _ h => h) (hK2 _ _ _ _ _ ?_))
  clear hK2
  refine wp_seq' fun K3 hK3 => ?_
  refine wp_reg ?_
  refine ol_r (r_move rfl) rfl ?_
  refine ol_call rfl rfl cb25 rfl (fun w1 hb1 hs1 hB1 => Calls.mono (rf _ (hl.at hb1 hB1)) ?_)
  rintro e w2 ⟨rfl, hb2⟩
  refine After.below rfl hb1 hs1 hB1 hb2 ?_
  clear hb2 hB1 hs1 hb1 w2 w1
  refine ol_r (r_move rfl) rfl ?_
  refine ol_r (r_extract rfl rfl) rfl ?_
  refine ol_r (r_extract rfl rfl) rfl ?_
  refine ol_r (r_extract rfl rfl) rfl ?_
  refine ol_alloc 10 z40 rfl fun b10 => ?_
  refine ol_alloc 11 z40 rfl fun b11 => ?_
  refine ol_store (id := 10) rfl rfl rfl rfl sz40 rfl rfl (by first | decide | exact Nat.zero_lt_succ _ | simp) ?_
  refine ol_store (id := 11) rfl rfl rfl rfl sz40 rfl rfl (by first | decide | exact Nat.zero_lt_succ _ | simp) ?_
  refine ol_r (r_assign rfl) rfl ?_
  refine ol_nil (to_k0 (fun _ _ h => h) (hK3 _ _ _ _ _ ?_))
  clear hK3
  refine wp_seq' fun K4 hK4 => ?_
  refine wp_reg ?_
  refine ol_r (r_move rfl) rfl ?_
  refine ol_r (r_move rfl) rfl ?_
  refine ol_r (r_move rfl) rfl ?_
  refine ol_call rfl rfl cb26 rfl (fun w1 hb1 hs1 hB1 => Calls.mono (load_Errors _ _ _ xs _ _ _ (hl.at hb1 hB1)) ?_)
  rintro e w2 ⟨a33, n33, c33, rfl, hf33⟩
  refine After.fresh (id := 33) rfl hb1 hs1 hB1 hf33 ?_
  have hl33 := hf33.len; clear hf33 hB1 hs1 hb1 w2 w1
  refine ol_r (r_move rfl) rfl ?_
  refine ol_r (r_extract rfl rfl) rfl ?_
  refine ol_r (r_extract rfl rfl) rfl ?_
  refine ol_r (r_assign rfl) rfl ?_
  refine ol_r (r_assign rfl) rfl ?_
  refine ol_nil (to_k0 (fun _ _ h => h) (hK4 _ _ _ _ _ ?_))
  clear hK4
  refine wp_seq' fun K5 hK5 => ?_
  refine wp_reg ?_
  refine ol_r (r_move rfl) rfl ?_
  refine ol_r (r_move rfl) rfl ?_
  refine ol_r (r_move rfl) rfl ?_
  refine ol_call rfl rfl cb27 rfl (fun w1 hb1 hs1 hB1 => Calls.mono (ref_Errors _ _ _ xs _ _ _ (hl.at hb1 hB1)) ?_)
  rintro e w2 ⟨a40, n40, c40, rfl, hf40⟩
  refine After.fresh (id := 40) rfl hb1 hs1 hB1 hf40 ?_
  have hl40 := hf40.len; clear hf40 hB1 hs1 hb1 w2 w1
  refine ol_r (r_move rfl) rfl ?_
  refine ol_r (r_extract rfl rfl) rfl ?_
  refine ol_r (r_extract rfl rfl) rfl ?_
  refine ol_r (r_assign rfl) rfl ?_
  refine ol_r (r_assign rfl) rfl ?_
  refine ol_nil (to_k0 (fun _ _ h => h) (hK5 _ _ _ _ _ ?_))
  clear hK5
  refine wp_seq' fun K6 hK6 => ?_
  refine wp_reg ?_
  refine ol_r (r_move rfl) rfl ?_
  refine ol_call rfl rfl cb28 rfl (fun w1 hb1 hs1 hB1 => Calls.mono (load_CheckTests _ _ _ xs _ (hl.at hb1 hB1)) ?_)
  rintro e w2 ⟨rfl, hb2⟩
  refine After.below rfl hb1 hs1 hB1 hb2 ?_
  clear hb2 hB1 hs1 hb1 w2 w1
  refine ol_r (r_move rfl) rfl ?_
  refine ol_call rfl rfl cb29 rfl (fun w1 hb1 hs1 hB1 => Calls.mono (ref_CheckTests _ _ _ xs _ (hl.at hb1 hB1)) ?_)
  rintro e w2 ⟨rfl, hb2⟩
  refine After.below rfl hb1 hs1 hB1 hb2 ?_
  clear hb2 hB1 hs1 hb1 w2 w1
  refine ol_r (r_eql rfl rfl) rfl ?_
  refine ol_r (r_move rfl) rfl ?_
  refine ol_split (d := 48) rfl (fun hs48 => ?_) (fun hs48 => ?_)
  ·have phs48 := hs48; try simp only [decide_eq_true_eq, decide_eq_false_iff_not, Bool.not_eq_true', Bool.not_eq_false', Bool.not_true, Bool.not_false] at phs48
   refine ol_g rfl rfl hs48 ?_
   refine ol_r (r_lda (id := 7) (n := 2) rfl rfl rfl ag40) rfl ?_
   refine ol_g rfl rfl hs48 ?_
   refine ol_r (r_lda (id := 10) (n := 2) rfl rfl rfl ag40) rfl ?_
   refine ol_g rfl rfl hs48 ?_
   refine ol_r (r_eqs rfl rfl (by kernel_rfl) (fun w => run_eqs (by kernel_rfl) (by kernel_rfl) w)) rfl ?_
   refine ol_r (r_pickT rfl hs48 rfl) rfl ?_
   refine ol_r (r_move rfl) rfl ?_
   refine ol_split (d := 53) rfl (fun hs53 => ?_) (fun hs53 => ?_)
   ·have phs53 := hs53; try simp only [decide_eq_true_eq, decide_eq_false_iff_not, Bool.not_eq_true', Bool.not_eq_false', Bool.not_true, Bool.not_false] at phs53
    refine ol_g rfl rfl hs53 ?_
    refine ol_r (r_lda (id := 8) (n := 2) rfl rfl rfl ag40) rfl ?_
    refine ol_g rfl rfl hs53 ?_
    refine ol_r (r_lda (id := 11) (n := 2) rfl rfl rfl ag40) rfl ?_
    refine ol_g rfl rfl hs53 ?_
    refine ol_r (r_eqs rfl rfl (by kernel_rfl) (fun w => run_eqs (by kernel_rfl) (by kernel_rfl) w)) rfl ?_
    refine ol_r (r_pickT rfl hs53 rfl) rfl ?_
    refine ol_r (r_move rfl) rfl ?_
    refine ol_split (d := 58) rfl (fun hs58 => ?_) (fun hs58 => ?_)
    ·have phs58 := hs58; try simp only [decide_eq_true_eq, decide_eq_false_iff_not, Bool.not_eq_true', Bool.not_eq_false', Bool.not_true, Bool.not_false] at phs58
     refine ol_g rfl rfl hs58 ?_
     refine ol_r (r_move rfl) rfl ?_
     refine ol_g rfl rfl hs58 ?_
     refine ol_r (r_move rfl) rfl ?_
     refine ol_g rfl rfl hs58 ?_
     refine ol_r (r_eql rfl rfl) rfl ?_
     refine ol_r (r_pickT rfl hs58 rfl) rfl ?_
     refine ol_r (r_move rfl) rfl ?_
     refine ol_split (d := 63) rfl (fun hs63 => ?_) (fun hs63 => ?_)
     ·have phs63 := hs63; try simp only [decide_eq_true_eq, decide_eq_false_iff_not, Bool.not_eq_true', Bool.not_eq_false', Bool.not_true, Bool.not_false] at phs63
      refine ol_g rfl rfl hs63 ?_
      refine ol_r (r_move rfl) rfl ?_
      refine ol_g rfl rfl hs63 ?_
      refine ol_r (r_move rfl) rfl ?_
      refine ol_g rfl rfl hs63 ?_
      refine ol_call rfl rfl cb20 rfl (fun w1 hb1 hs1 hB1 => Calls.mono (equal_int _ _ _ _ _ _ (errsR xs p q).1 (errsR xs p q).1 _ (Sat.rd hs1 (id := 33) rfl rfl) (Sat.rd hs1 (id := 40) rfl rfl)) ?_)
      rintro e w2 ⟨rfl, hb2⟩
      refine After.below rfl hb1 hs1 hB1 hb2 ?_
      clear hb2 hB1 hs1 hb1 w2 w1
      refine ol_r (r_pickT rfl hs63 rfl) rfl ?_
      refine ol_r (r_move rfl) rfl ?_
      refine ol_split (d := 68) rfl (fun hs68 => ?_) (fun hs68 => ?_)
      ·have phs68 := hs68; try simp only [decide_eq_true_eq, decide_eq_false_iff_not, Bool.not_eq_true', Bool.not_eq_false', Bool.not_true, Bool.not_false] at phs68
       refine ol_g rfl rfl hs68 ?_
       refine ol_r (r_move rfl) rfl ?_
       refine ol_g rfl rfl hs68 ?_
       refine ol_r (r_move rfl) rfl ?_
       refine ol_g rfl rfl hs68 ?_
       refine ol_r (r_eql rfl rfl) rfl ?_
       refine ol_r (r_pickT rfl hs68 rfl) rfl ?_
       refine ol_r (r_move rfl) rfl ?_
       refine ol_split (d := 73) rfl (fun hs73 => ?_) (fun hs73 => ?_)
       ·have phs73 := hs73; try simp only [decide_eq_true_eq, decide_eq_false_iff_not, Bool.not_eq_true', Bool.not_eq_false', Bool.not_true, Bool.not_false] at phs73
        refine ol_g rfl rfl hs73 ?_
        refine ol_call rfl rfl cb14 rfl (fun w1 hb1 hs1 hB1 => Calls.mono (load_told _) ?_)
        rintro e w2 ⟨rfl, hb2⟩
        refine After.below rfl hb1 hs1 hB1 hb2 ?_
        clear hb2 hB1 hs1 hb1 w2 w1
        refine ol_r (r_pickT rfl hs73 rfl) rfl ?_
        refine ol_r (r_assign rfl) rfl ?_
        refine ol_nil (to_k0 (fun _ _ h => h) (hK6 _ _ _ _ _ ?_))
        clear hK6
        refine hQ.ret (rvs1 (rv_t rfl)) (fun _ _ h => h) fun w hb hs hB hkd => ?_
        first
          | exact ⟨rfl, hb⟩
          | (exfalso; simp_all; done)
          | (exfalso; simp_all [eqs, eqV]; done)
       ·have phs73 := hs73; try simp only [decide_eq_true_eq, decide_eq_false_iff_not, Bool.not_eq_true', Bool.not_eq_false', Bool.not_true, Bool.not_false] at phs73
        refine ol_s rfl rfl hs73 rfl ?_
        refine ol_r (r_pickF rfl hs73 rfl) rfl ?_
        refine ol_r (r_assign rfl) rfl ?_
        refine ol_nil (to_k0 (fun _ _ h => h) (hK6 _ _ _ _ _ ?_))
        clear hK6
        refine hQ.ret (rvs1 (rv_t rfl)) (fun _ _ h => h) fun w hb hs hB hkd => ?_
        first
          | exact ⟨rfl, hb⟩
          | (exfalso; simp_all; done)
          | (exfalso; simp_all [eqs, eqV]; done)
      ·have phs68 := hs68; try simp only [decide_eq_true_eq, decide_eq_false_iff_not, Bool.not_eq_true', Bool.not_eq_false', Bool.not_true, Bool.not_false] at phs68
       refine ol_s rfl rfl hs68 rfl ?_
       refine ol_s rfl rfl hs68 rfl ?_
       refine ol_s rfl rfl hs68 rfl ?_
       refine ol_r (r_pickF rfl hs68 rfl) rfl ?_
       refine ol_r (r_move rfl) rfl ?_
       refine ol_s rfl rfl rfl rfl ?_
       refine ol_r (r_pickF rfl rfl rfl) rfl ?_
       refine ol_r (r_assign rfl) rfl ?_
       refine ol_nil (to_k0 (fun _ _ h => h) (hK6 _ _ _ _ _ ?_))
       clear hK6
       refine hQ.ret (rvs1 (rv_t rfl)) (fun _ _ h => h) fun w hb hs hB hkd => ?_
       first
         | exact ⟨rfl, hb⟩
         | (exfalso; simp_all; done)
         | (exfalso; simp_all [eqs, eqV]; done)
     ·have phs63 := hs63; try simp only [decide_eq_true_eq, decide_eq_false_iff_not, Bool.not_eq_true', Bool.not_eq_false', Bool.not_true, Bool.not_false] at phs63
      refine ol_s rfl rfl hs63 rfl ?_
      refine ol_s rfl rfl hs63 rfl ?_
      refine ol_s rfl rfl hs63 rfl ?_
      refine ol_r (r_pickF rfl hs63 rfl) rfl ?_
      refine ol_r (r_move rfl) rfl ?_
      refine ol_s rfl rfl rfl rfl ?_
      refine ol_s rfl rfl rfl rfl ?_
      refine ol_s rfl rfl rfl rfl ?_
      refine ol_r (r_pickF rfl rfl rfl) rfl ?_
      refine ol_r (r_move rfl) rfl ?_
      refine ol_s rfl rfl rfl rfl ?_
      refine ol_r (r_pickF rfl rfl rfl) rfl ?_
      refine ol_r (r_assign rfl) rfl ?_
      refine ol_nil (to_k0 (fun _ _ h => h) (hK6 _ _ _ _ _ ?_))
      clear hK6
      refine hQ.ret (rvs1 (rv_t rfl)) (fun _ _ h => h) fun w hb hs hB hkd => ?_
      first
        | exact ⟨rfl, hb⟩
        | (exfalso; simp_all; done)
        | (exfalso; simp_all [eqs, eqV]; done)
    ·have phs58 := hs58; try simp only [decide_eq_true_eq, decide_eq_false_iff_not, Bool.not_eq_true', Bool.not_eq_false', Bool.not_true, Bool.not_false] at phs58
     refine ol_s rfl rfl hs58 rfl ?_
     refine ol_s rfl rfl hs58 rfl ?_
     refine ol_s rfl rfl hs58 rfl ?_
     refine ol_r (r_pickF rfl hs58 rfl) rfl ?_
     refine ol_r (r_move rfl) rfl ?_
     refine ol_s rfl rfl rfl rfl ?_
     refine ol_s rfl rfl rfl rfl ?_
     refine ol_s rfl rfl rfl rfl ?_
     refine ol_r (r_pickF rfl rfl rfl) rfl ?_
     refine ol_r (r_move rfl) rfl ?_
     refine ol_s rfl rfl rfl rfl ?_
     refine ol_s rfl rfl rfl rfl ?_
     refine ol_s rfl rfl rfl rfl ?_
     refine ol_r (r_pickF rfl rfl rfl) rfl ?_
     refine ol_r (r_move rfl) rfl ?_
     refine ol_s rfl rfl rfl rfl ?_
     refine ol_r (r_pickF rfl rfl rfl) rfl ?_
     refine ol_r (r_assign rfl) rfl ?_
     refine ol_nil (to_k0 (fun _ _ h => h) (hK6 _ _ _ _ _ ?_))
     clear hK6
     refine hQ.ret (rvs1 (rv_t rfl)) (fun _ _ h => h) fun w hb hs hB hkd => ?_
     first
       | exact ⟨rfl, hb⟩
       | (exfalso; simp_all; done)
       | (exfalso; simp_all [eqs, eqV]; done)
   ·have phs53 := hs53; try simp only [decide_eq_true_eq, decide_eq_false_iff_not, Bool.not_eq_true', Bool.not_eq_false', Bool.not_true, Bool.not_false] at phs53
    refine ol_s rfl rfl hs53 rfl ?_
    refine ol_s rfl rfl hs53 rfl ?_
    refine ol_s rfl rfl hs53 rfl ?_
    refine ol_r (r_pickF rfl hs53 rfl) rfl ?_
    refine ol_r (r_move rfl) rfl ?_
    refine ol_s rfl rfl rfl rfl ?_
    refine ol_s rfl rfl rfl rfl ?_
    refine ol_s rfl rfl rfl rfl ?_
    refine ol_r (r_pickF rfl rfl rfl) rfl ?_
    refine ol_r (r_move rfl) rfl ?_
    refine ol_s rfl rfl rfl rfl ?_
    refine ol_s rfl rfl rfl rfl ?_
    refine ol_s rfl rfl rfl rfl ?_
    refine ol_r (r_pickF rfl rfl rfl) rfl ?_
    refine ol_r (r_move rfl) rfl ?_
    refine ol_s rfl rfl rfl rfl ?_
    refine ol_s rfl rfl rfl rfl ?_
    refine ol_s rfl rfl rfl rfl ?_
    refine ol_r (r_pickF rfl rfl rfl) rfl ?_
    refine ol_r (r_move rfl) rfl ?_
    refine ol_s rfl rfl rfl rfl ?_
    refine ol_r (r_pickF rfl rfl rfl) rfl ?_
    refine ol_r (r_assign rfl) rfl ?_
    refine ol_nil (to_k0 (fun _ _ h => h) (hK6 _ _ _ _ _ ?_))
    clear hK6
    refine hQ.ret (rvs1 (rv_t rfl)) (fun _ _ h => h) fun w hb hs hB hkd => ?_
    first
      | exact ⟨rfl, hb⟩
      | (exfalso; simp_all; done)
      | (exfalso; simp_all [eqs, eqV]; done)
  ·have phs48 := hs48; try simp only [decide_eq_true_eq, decide_eq_false_iff_not, Bool.not_eq_true', Bool.not_eq_false', Bool.not_true, Bool.not_false] at phs48
   refine ol_s rfl rfl hs48 rfl ?_
   refine ol_s rfl rfl hs48 rfl ?_
   refine ol_s rfl rfl hs48 rfl ?_
   refine ol_r (r_pickF rfl hs48 rfl) rfl ?_
   refine ol_r (r_move rfl) rfl ?_
   refine ol_s rfl rfl rfl rfl ?_
   refine ol_s rfl rfl rfl rfl ?_
   refine ol_s rfl rfl rfl rfl ?_
   refine ol_r (r_pickF rfl rfl rfl) rfl ?_
   refine ol_r (r_move rfl) rfl ?_
   refine ol_s rfl rfl rfl rfl ?_
   refine ol_s rfl rfl rfl rfl ?_
   refine ol_s rfl rfl rfl rfl ?_
   refine ol_r (r_pickF rfl rfl rfl) rfl ?_
   refine ol_r (r_move rfl) rfl ?_
   refine ol_s rfl rfl rfl rfl ?_
   refine ol_s rfl rfl rfl rfl ?_
   refine ol_s rfl rfl rfl rfl ?_
   refine ol_r (r_pickF rfl rfl rfl) rfl ?_
   refine ol_r (r_move rfl) rfl ?_
   refine ol_s rfl rfl rfl rfl ?_
   refine ol_s rfl rfl rfl rfl ?_
   refine ol_s rfl rfl rfl rfl ?_
   refine ol_r (r_pickF rfl rfl rfl) rfl ?_
   refine ol_r (r_move rfl) rfl ?_
   refine ol_s rfl rfl rfl rfl ?_
   refine ol_r (r_pickF rfl rfl rfl) rfl ?_
   refine ol_r (r_assign rfl) rfl ?_
   refine ol_nil (to_k0 (fun _ _ h => h) (hK6 _ _ _ _ _ ?_))
   clear hK6
   refine hQ.ret (rvs1 (rv_t rfl)) (fun _ _ h => h) fun w hb hs hB hkd => ?_
   first
     | exact ⟨rfl, hb⟩
     | (exfalso; simp_all; done)
     | (exfalso; simp_all [eqs, eqV]; done)
end Go.Proofs.Ytamlldedmhkobaa
