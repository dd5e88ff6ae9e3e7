/-
  The example of harrierlaw5, and checks of both arguments.
-/
import Derived.Test.YtbbhcffkleplnaaCrossA
namespace Go.Proofs.Ytbbhcffkleplnaa
open Go Go.RowKit Hx
set_option linter.unusedVariables false
set_option linter.unusedSimpArgs false
set_option maxRecDepth 8000
def orL : List Int → Int
  | [] => 0
  | x :: r => if x ≠ 0 then x else orL r
theorem orL_next {xs : List Int} {k : Nat} (h : ∀ x ∈ xs.take k, x = 0) : orL xs = orL (xs.drop k) := by
  induction k generalizing xs with
  | zero => rfl
  | succ k ih =>
    cases xs with
    | nil => rfl
    | cons x r =>
      have hx := h x (by simp)
      rw [orL, if_neg (by simp [hx]), List.drop_succ_cons]
      exact ih fun y hy => h y (by simp [hy])
theorem cmp_OrE (a : Option Addr) (n c : Nat) (xs : List Int) (w : World) (hl : Rd encI w.heap.size w a n c xs) :
    Calls Try.prog 69 #[.slice a n c] w fun e w' => e = .returned (.int .i64 (orL xs)) ∧ Below w.heap.size w w' := by
  have hn := hl.len
  have hf := hl.fit
  refine enterQ (N := 18) (C := fun _ => True) (H := []) (B := w.heap.size) (args := [_]) Try.func69 rfl rfl rfl (Nat.le_refl _) (Sat.nil _ _) fun Q hQ => ?_
  refine wp_seq' fun K1 hK1 => ?_
  refine wp_reg ?_
  refine ol_r (r_assign rfl) rfl ?_
  refine ol_nil (to_k0 (fun _ _ h => h) (hK1 _ _ _ _ _ ?_))
  clear hK1
  refine wp_seq' fun K2 hK2 => ?_
  refine wp_reg ?_
  refine ol_r (r_assign rfl) rfl ?_
  refine ol_nil (to_k0 (fun _ _ h => h) (hK2 _ _ _ _ _ ?_))
  clear hK2
  refine wp_seq' fun K3 hK3 => ?_
  refine wp_seq' fun K4 hK4 => ?_
  refine wp_reg ?_
  refine ol_r (r_move rfl) rfl ?_
  refine ol_r (r_len rfl sl139) rfl ?_
  refine ol_r (r_move rfl) rfl ?_
  refine ol_nil (to_k0 (fun _ _ h => h) (hK4 _ _ _ _ _ ?_))
  clear hK4
  refine wp_block' ?_
  apply wp_loopM (σ := Nat) (fun s => s ≤ n ∧ ∀ x ∈ xs.take s, x = 0) (fun s => [(8, .int .i64 s)]) [(3, _), (6, _), (7, _)] (fun s => []) [] (fun s => n - s) (0)
  ·try dsimp only
   exact ⟨Nat.zero_le _, fun x hx => by simp at hx⟩
  ·exact (sub_cons rfl sub_nil)
  ·exact (sub_cons rfl (sub_cons rfl (sub_cons rfl sub_nil)))
  ·exact subH_nil
  ·exact subH_nil
  ·rintro k ⟨hk, hP⟩
   intro K5 hK5
   refine wp_seq' fun K6 hK6 => ?_
   refine wp_reg ?_
   refine ol_r (r_lss rfl rfl) rfl ?_
   refine ol_nil (to_k0 (fun _ _ h => h) (hK6 _ _ _ _ _ ?_))
   clear hK6
   refine wp_seq' fun K7 hK7 => ?_
   refine wp_condD rfl (fun hc9 => ?_) (fun hc9 => ?_)
   ·refine wp_skip' (to_k0 (fun _ _ h => h) (hK7 _ _ _ _ _ ?_))
    clear hK7
    refine wp_seq' fun K8 hK8 => ?_
    refine wp_block' ?_
    refine wp_seq' fun K9 hK9 => ?_
    refine wp_reg ?_
    refine ol_ixr hl rfl rfl sl139 (by omega) rfl fun x10 hx10 => ?_
    try simp only [Int.toNat_natCast] at hx10
    refine ol_r (r_ldw rfl (fun w1 hb1 hs1 hB1 => show Loads _ _ _ _ (.int .i64 x10) from Rd.loads hl ty31 hx10 hb1)) rfl ?_
    refine ol_r (r_assign rfl) rfl ?_
    refine ol_nil (to_k0 (fun _ _ h => h) (hK9 _ _ _ _ _ ?_))
    clear hK9
    refine wp_seq' fun K10 hK10 => ?_
    refine wp_reg ?_
    refine ol_r (r_move rfl) rfl ?_
    refine ol_r (r_move rfl) rfl ?_
    refine ol_r (r_neq rfl rfl) rfl ?_
    refine ol_nil (to_k0 (fun _ _ h => h) (hK10 _ _ _ _ _ ?_))
    clear hK10
    refine wp_condD rfl (fun hc14 => ?_) (fun hc14 => ?_)
    ·refine wp_seq' fun K11 hK11 => ?_
     refine wp_reg ?_
     refine ol_r (r_move rfl) rfl ?_
     refine ol_r (r_assign rfl) rfl ?_
     refine ol_nil (to_k0 (fun _ _ h => h) (hK11 _ _ _ _ _ ?_))
     clear hK11
     refine hQ.ret (rvs1 (rv_t rfl)) (fun _ _ h => h) fun w hb hs hB hkd => ?_
     rw [orL_next hP, drop_cons_get hx10, orL, if_pos hc14]
     exact ⟨rfl, hb⟩
    ·refine wp_skip' (to_k0 (fun _ _ h => h) (hK8 _ _ _ _ _ ?_))
     clear hK8
     refine wp_reg ?_
     refine ol_r (r_add rfl rfl (by omega)) rfl ?_
     refine ol_r (r_move rfl) rfl ?_
     refine ol_nil (to_k0 (fun _ _ h => h) (hK5 (k + 1) _ _ ?_ ?_ (sub_cons rfl sub_nil) (sub_cons rfl (sub_cons rfl (sub_cons rfl sub_nil))) (by exact subH_nil) subH_nil))
     ·try dsimp only
      refine ⟨by omega, fun x hx => ?_⟩
      rw [take_succ_get hx10] at hx
      rcases List.mem_append.1 hx with h | h
      · exact hP x h
      · simp at h; omega
     ·try dsimp only
      omega
   ·refine wp_exit' (to_k0 (fun _ _ h => h) (hK3 _ _ _ _ _ ?_))
    clear hK3
    refine wp_seq' fun K12 hK12 => ?_
    refine wp_reg ?_
    refine ol_r (r_move rfl) rfl ?_
    refine ol_r (r_assign rfl) rfl ?_
    refine ol_nil (to_k0 (fun _ _ h => h) (hK12 _ _ _ _ _ ?_))
    clear hK12
    refine hQ.ret (rvs1 (rv_t rfl)) (fun _ _ h => h) fun w hb hs hB hkd => ?_
    rw [orL_next hP, List.drop_eq_nil_of_le (by omega)]
    exact ⟨rfl, hb⟩
theorem match_checkRun (nm : ByteArray) (ga : Option Addr) (gn gc : Nat) (gs : List GateR) (A : ActV) (w : World) (hn : nm.size ≤ 9223372036854775807) (hS : Rd encGate w.heap.size w ga gn gc gs) (hA : A.Ok w.heap.size w) :
    Calls Try.prog 35 #[.agg #[.string nm, .slice ga gn gc], .agg #[.string A.name, .int .i64 A.sport, .int .i64 A.start, .slice A.sa A.sn A.sc, .slice A.la A.ln A.lc, .slice A.ta A.tn A.tc]] w fun e w' => e = .returned (.int .i64 (orL [chkSeg nm gs, chkA A.d])) ∧ Below w.heap.size w w' := by
  refine enterQ (N := 11) (C := fun _ => True) (H := []) (B := w.heap.size) (args := [_, _]) Try.func35 rfl rfl rfl (Nat.le_refl _) (Sat.nil _ _) fun Q hQ => ?_
  refine wp_seq' fun K1 hK1 => ?_
  refine wp_reg ?_
  refine ol_box 2 rfl rfl rfl fun b2 => ?_
  refine ol_box 3 rfl rfl rfl fun b3 => ?_
  refine ol_r (r_assign rfl) rfl ?_
  refine ol_nil (to_k0 (fun _ _ h => h) (hK1 _ _ _ _ _ ?_))
  clear hK1
  refine wp_seq' fun K2 hK2 => ?_
  refine wp_rega [(999, [(2, _), (3, _)])] (by kernel_rfl) ⟨.inr (subH_same rfl (subH_same rfl subH_nil)), trivial⟩ ?_
  refine aq_r 0 999 rfl (by kernel_rfl) (by kernel_rfl) (by kernel_rfl) (.head _) (by kernel_rfl) (by kernel_rfl) rfl (r_lda (id := 2) (n := 2) rfl rfl rfl ag24) ?_
  refine aq_r 2 999 rfl (by kernel_rfl) (by kernel_rfl) (by kernel_rfl) (.head _) (by kernel_rfl) (by kernel_rfl) rfl (r_lda (id := 3) (n := 6) rfl rfl rfl ag29) ?_
  refine aq_one (i := 1) (by kernel_rfl) rfl fun K3 hK3 => ?_
  refine ol_call rfl rfl cb15 rfl (fun w1 hb1 hs1 hB1 => Calls.mono (match_CheckSegment nm _ _ _ gs _ hn (hS.at hb1 hB1)) ?_)
  rintro e w2 ⟨rfl, hb2⟩
  refine After.below rfl hb1 hs1 hB1 hb2 ?_
  clear hb2 hB1 hs1 hb1 w2 w1
  refine ol_nil (to_k0 (fun _ _ h => h) (hK3 _ _ ⟨.inr (by repeat' first | exact subH_nil | refine subH_same rfl ?_ | (refine subH_blk rfl (by repeat' first | exact sub_nil | refine sub_cons rfl ?_) ?_)), trivial⟩ ?_))
  clear hK3
  refine aq_one (i := 3) (by kernel_rfl) rfl fun K4 hK4 => ?_
  refine ol_call rfl rfl cb70 rfl (fun w1 hb1 hs1 hB1 => Calls.mono (record_Check A _ (hA.at hb1 hB1)) ?_)
  rintro e w2 ⟨rfl, hb2⟩
  refine After.below rfl hb1 hs1 hB1 hb2 ?_
  clear hb2 hB1 hs1 hb1 w2 w1
  refine ol_nil (to_k0 (fun _ _ h => h) (hK4 _ _ ⟨.inr (by repeat' first | exact subH_nil | refine subH_same rfl ?_ | (refine subH_blk rfl (by repeat' first | exact sub_nil | refine sub_cons rfl ?_) ?_)), trivial⟩ ?_))
  clear hK4
  refine aq_one (i := 4) (by kernel_rfl) rfl fun K5 hK5 => ?_
  refine ol_bsN 9 rfl rw139 rfl rfl (fun _ => by kernel_rfl) rfl fun a9 => ?_
  refine ol_nil (to_k0 (fun _ _ h => h) (hK5 _ _ ⟨.inr (by repeat' first | exact subH_nil | refine subH_same rfl ?_ | (refine subH_blk rfl (by repeat' first | exact sub_nil | refine sub_cons rfl ?_) ?_)), trivial⟩ ?_))
  clear hK5
  refine aq_one (i := 5) (by kernel_rfl) rfl fun K6 hK6 => ?_
  refine ol_call rfl rfl cb69 rfl (fun w1 hb1 hs1 hB1 => Calls.mono (cmp_OrE _ _ _ [chkSeg nm gs, chkA A.d] _ (Sat.rd hs1 (E := encI) (xs := [chkSeg nm gs, chkA A.d]) (id := 9) rfl rfl)) ?_)
  rintro e w2 ⟨rfl, hb2⟩
  refine After.below rfl hb1 hs1 hB1 hb2 ?_
  clear hb2 hB1 hs1 hb1 w2 w1
  refine ol_nil (to_k0 (fun _ _ h => h) (hK6 _ _ ⟨.inr (by repeat' first | exact subH_nil | refine subH_same rfl ?_ | (refine subH_blk rfl (by repeat' first | exact sub_nil | refine sub_cons rfl ?_) ?_)), trivial⟩ ?_))
  clear hK6
  refine aq_r 6 999 rfl (by kernel_rfl) (by kernel_rfl) (by kernel_rfl) (.head _) (by kernel_rfl) (by kernel_rfl) rfl (r_assign rfl) ?_
  refine aq_done (by kernel_rfl) ?_
  refine (to_k0 (fun _ _ h => h) (hK2 _ _ _ _ _ ?_))
  clear hK2
  refine hQ.ret (rvs1 (rv_t rfl)) (fun _ _ h => h) fun w hb hs hB hkd => ?_
  exact ⟨rfl, hb⟩
theorem equal_cr_same (a b : Option Addr) (n c1 c2 : Nat) (xs : List CrossR) (w : World) (hx : Rd encCr w.heap.size w a n c1 xs) (hy : Rd encCr w.heap.size w b n c2 xs) :
    Calls Try.prog 11 #[.slice a n c1, .slice b n c2] w fun e w' => e = .returned (.bool true) ∧ Below w.heap.size w w' := by
  have hn := hx.len
  have hfit := hx.fit
  refine enterQ (N := 26) (C := fun _ => True) (H := []) (B := w.heap.size) (args := [_, _]) Try.func11 rfl rfl rfl (Nat.le_refl _) (Sat.nil _ _) fun Q hQ => ?_
  refine wp_seq' fun K1 hK1 => ?_
  refine wp_reg ?_
  refine ol_r (r_assign rfl) rfl ?_
  refine ol_nil (to_k0 (fun _ _ h => h) (hK1 _ _ _ _ _ ?_))
  clear hK1
  refine wp_seq' fun K2 hK2 => ?_
  refine wp_seq' fun K3 hK3 => ?_
  refine wp_reg ?_
  refine ol_r (r_move rfl) rfl ?_
  refine ol_r (r_len rfl sl30) rfl ?_
  refine ol_r (r_move rfl) rfl ?_
  refine ol_r (r_len rfl sl30) rfl ?_
  refine ol_r (r_neq rfl rfl) rfl ?_
  refine ol_nil (to_k0 (fun _ _ h => h) (hK3 _ _ _ _ _ ?_))
  clear hK3
  refine wp_condD rfl (fun hc10 => ?_) (fun hc10 => ?_)
  ·exfalso
   exact hc10 rfl
  ·refine wp_skip' (to_k0 (fun _ _ h => h) (hK2 _ _ _ _ _ ?_))
   clear hK2
   refine wp_seq' fun K4 hK4 => ?_
   refine wp_seq' fun K5 hK5 => ?_
   refine wp_reg ?_
   refine ol_r (r_move rfl) rfl ?_
   refine ol_r (r_len rfl sl30) rfl ?_
   refine ol_r (r_move rfl) rfl ?_
   refine ol_nil (to_k0 (fun _ _ h => h) (hK5 _ _ _ _ _ ?_))
   clear hK5
   refine wp_block' ?_
   apply wp_loopM (σ := Nat) (fun s => s ≤ n) (fun s => [(13, .int .i64 s)]) [(0, _), (1, _), (12, _)] (fun s => []) [] (fun s => n - s) (0)
   ·try dsimp only
    exact Nat.zero_le _
   ·exact (sub_cons rfl sub_nil)
   ·exact (sub_cons rfl (sub_cons rfl (sub_cons rfl sub_nil)))
   ·exact subH_nil
   ·exact subH_nil
   ·rintro k hk
    intro K6 hK6
    refine wp_seq' fun K7 hK7 => ?_
    refine wp_reg ?_
    refine ol_r (r_lss rfl rfl) rfl ?_
    refine ol_nil (to_k0 (fun _ _ h => h) (hK7 _ _ _ _ _ ?_))
    clear hK7
    refine wp_seq' fun K8 hK8 => ?_
    refine wp_condD rfl (fun hc14 => ?_) (fun hc14 => ?_)
    ·refine wp_skip' (to_k0 (fun _ _ h => h) (hK8 _ _ _ _ _ ?_))
     clear hK8
     refine wp_seq' fun K9 hK9 => ?_
     refine wp_block' ?_
     refine wp_seq' fun K10 hK10 => ?_
     refine wp_reg ?_
     refine ol_r (r_move rfl) rfl ?_
     refine ol_r (r_assign rfl) rfl ?_
     refine ol_nil (to_k0 (fun _ _ h => h) (hK10 _ _ _ _ _ ?_))
     clear hK10
     refine wp_seq' fun K11 hK11 => ?_
     refine wp_regq (by kernel_rfl) (by kernel_rfl) ?_
     refine ql_r (r_move rfl) rfl ?_
     refine ql_r (r_move rfl) rfl ?_
     refine ql_ixr hx rfl rfl sl30 (by omega) rfl fun x18 hx18 => ?_
     try simp only [Int.toNat_natCast] at hx18
     refine ql_r (r_ldw rfl (fun w1 hb1 hs1 hB1 => Rd.loads hx ty36 hx18 hb1)) rfl ?_
     refine ql_r (r_move rfl) rfl ?_
     refine ql_r (r_move rfl) rfl ?_
     refine ql_ixr hy rfl rfl sl30 (by omega) rfl fun x22 hx22 => ?_
     try simp only [Int.toNat_natCast] at hx22
     obtain rfl : x18 = x22 := Option.some.inj (hx18.symm.trans hx22)
     refine ql_r (r_ldw rfl (fun w1 hb1 hs1 hB1 => Rd.loads hy ty36 hx22 hb1)) rfl ?_
     refine ql_r (r_nes rfl rfl (by kernel_rfl) (fun w => run_eqs (by kernel_rfl) (by kernel_rfl) w)) rfl ?_
     refine ql_nil (to_k0 (fun _ _ h => h) (hK11 _ _ _ _ _ ?_))
     clear hK11
     refine wp_condNB rfl (fun hc24 => ?_) (fun hc24 => ?_)
     ·refine wp_seq' fun K12 hK12 => ?_
      refine wp_reg ?_
      refine ol_r (r_assign rfl) rfl ?_
      refine ol_nil (to_k0 (fun _ _ h => h) (hK12 _ _ _ _ _ ?_))
      clear hK12
      refine hQ.ret (rvs1 (rv_t rfl)) (fun _ _ h => h) fun w hb hs hB hkd => ?_
      first
        | (exfalso; simp [eqs, eqV] at hc24; done)
     ·refine wp_skip' (to_k0 (fun _ _ h => h) (hK9 _ _ _ _ _ ?_))
      clear hK9
      refine wp_reg ?_
      refine ol_r (r_add rfl rfl (by omega)) rfl ?_
      refine ol_r (r_move rfl) rfl ?_
      refine ol_nil (to_k0 (fun _ _ h => h) (hK6 (k + 1) _ _ ?_ ?_ (sub_cons rfl sub_nil) (sub_cons rfl (sub_cons rfl (sub_cons rfl sub_nil))) (by exact subH_nil) subH_nil))
      ·try dsimp only
       omega
      ·try dsimp only
       omega
    ·refine wp_exit' (to_k0 (fun _ _ h => h) (hK4 _ _ _ _ _ ?_))
     clear hK4
     refine wp_seq' fun K13 hK13 => ?_
     refine wp_reg ?_
     refine ol_r (r_assign rfl) rfl ?_
     refine ol_nil (to_k0 (fun _ _ h => h) (hK13 _ _ _ _ _ ?_))
     clear hK13
     refine hQ.ret (rvs1 (rv_t rfl)) (fun _ _ h => h) fun w hb hs hB hkd => ?_
     first
       | exact ⟨rfl, hb⟩
def toldG : List GateR := [⟨0, 10, 0, -10⟩, ⟨100, 10, 100, -10⟩]
def toldS : List SmpR := [⟨0, -5, 0, 0, -1, -1, -1⟩, ⟨10, 5, 0, 0, -1, -1, -1⟩]
theorem told_steps : stepsL toldS = [(⟨0, -5, 0, 0, -1, -1, -1⟩, ⟨10, 5, 0, 0, -1, -1, -1⟩)] := rfl
theorem told_seg : SegOk ⟨#[115]⟩ toldG := segOk (by decide +kernel)
def toldA (a : Option Addr) (c : Nat) : ActV := ⟨⟨#[97]⟩, 1, 0, a, 2, c, none, 0, 0, none, 0, 0, toldS, [], []⟩
def toldD : ActD := ⟨⟨#[97]⟩, 1, 0, toldS, [], []⟩
theorem told_good (a : Option Addr) (c : Nat) : GoodA (toldA a c).d := goodA (by show chkA toldD = 0; decide +kernel)
theorem toldA_ok {C : Nat} {w : World} {a : Option Addr} {c : Nat} (h : Rd encSmp C w a 2 c toldS) : (toldA a c).Ok C w :=
  { s := h, l := Rd.nil, t := Rd.nil, nm := by show 1 ≤ _; decide, lm := fun x hx => by simp [toldA] at hx, tm := fun x hx => by simp [toldA] at hx,
    lo := fun x hx => by simp [toldA, toldS] at hx; rcases hx with rfl | rfl <;> decide }
end Go.Proofs.Ytbbhcffkleplnaa
