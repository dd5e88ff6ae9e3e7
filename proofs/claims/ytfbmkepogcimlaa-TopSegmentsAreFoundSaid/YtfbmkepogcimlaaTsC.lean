/-
  Segments: program and reference.
-/
import Derived.Laws.Bits64b
import Derived.Test.YtfbmkepogcimlaaTsA
import Derived.Test.YtfbmkepogcimlaaTsB




namespace Go.Proofs.Ytfbmkepogcimlaa
open Go Go.RowKit Hx
set_option linter.unusedVariables false
set_option linter.unusedSimpArgs false
set_option maxRecDepth 8000
def encGate : Enc GateR := { size := 4, cells := fun x => [.int .i64 x.ax, .int .i64 x.ay, .int .i64 x.bx, .int .i64 x.by_], val := fun x => .agg #[.int .i64 x.ax, .int .i64 x.ay, .int .i64 x.bx, .int .i64 x.by_], len := fun _ => rfl, ones := fun _ u h => by simp at h; rcases h with rfl | rfl | rfl | rfl <;> rfl, pos := by decide, vc := fun _ => rfl }
theorem ty179 : Ty Try.prog 179 encGate := .inr ⟨ag179, fun _ => rfl⟩
theorem match_in (n a b : Int) (w : World) : Calls Try.prog 98 #[.int .i64 n, .int .i64 a, .int .i64 b] w fun e w' => e = .returned (.bool (inB n a b)) ∧ Below w.heap.size w w' := by
  refine enterQ (N := 15) (C := fun _ => True) (H := []) (B := w.heap.size) (args := [_, _, _]) Try.func98 rfl rfl rfl (Nat.le_refl _) (Sat.nil _ _) fun Q hQ => ?_
  refine wp_seq' fun K1 hK1 => ?_
  refine wp_reg ?_
  refine ol_r (r_assign rfl) rfl ?_
  refine ol_nil (to_k0 (fun _ _ h => h) (hK1 _ _ _ _ _ ?_))
  clear hK1
  refine wp_seq' fun K2 hK2 => ?_
  refine wp_reg ?_
  refine ol_r (r_move rfl) rfl ?_
  refine ol_r (r_move rfl) rfl ?_
  refine ol_r (r_geq rfl rfl) rfl ?_
  refine ol_r (r_move rfl) rfl ?_
  refine ol_split (d := 10) rfl (fun hs10 => ?_) (fun hs10 => ?_)
  ·have phs10 := hs10; try simp only [decide_eq_true_eq, decide_eq_false_iff_not, Bool.not_eq_true', Bool.not_eq_false', Bool.not_true, Bool.not_false] at phs10
   refine ol_g rfl rfl hs10 ?_
   refine ol_r (r_move rfl) rfl ?_
   refine ol_g rfl rfl hs10 ?_
   refine ol_r (r_move rfl) rfl ?_
   refine ol_g rfl rfl hs10 ?_
   refine ol_r (r_leq rfl rfl) rfl ?_
   refine ol_r (r_pickT rfl hs10 rfl) rfl ?_
   refine ol_r (r_assign rfl) rfl ?_
   refine ol_nil (to_k0 (fun _ _ h => h) (hK2 _ _ _ _ _ ?_))
   clear hK2
   refine hQ.ret (rvs1 (rv_t rfl)) (fun _ _ h => h) fun w hb hs hB hkd => ?_
   exact ⟨by simp [inB, hs10], hb⟩
  ·have phs10 := hs10; try simp only [decide_eq_true_eq, decide_eq_false_iff_not, Bool.not_eq_true', Bool.not_eq_false', Bool.not_true, Bool.not_false] at phs10
   refine ol_s rfl rfl hs10 rfl ?_
   refine ol_s rfl rfl hs10 rfl ?_
   refine ol_s rfl rfl hs10 rfl ?_
   refine ol_r (r_pickF rfl hs10 rfl) rfl ?_
   refine ol_r (r_assign rfl) rfl ?_
   refine ol_nil (to_k0 (fun _ _ h => h) (hK2 _ _ _ _ _ ?_))
   clear hK2
   refine hQ.ret (rvs1 (rv_t rfl)) (fun _ _ h => h) fun w hb hs hB hkd => ?_
   exact ⟨by simp [inB, hs10], hb⟩
theorem match_isPlace (x y : Int) (w : World) : Calls Try.prog 99 #[.agg #[.int .i64 x, .int .i64 y]] w fun e w' => e = .returned (.bool (ptB x y)) ∧ Below w.heap.size w w' := by
  refine enterQ (N := 11) (C := fun _ => True) (H := []) (B := w.heap.size) (args := [_]) Try.func99 rfl rfl rfl (Nat.le_refl _) (Sat.nil _ _) fun Q hQ => ?_
  refine wp_seq' fun K1 hK1 => ?_
  refine wp_reg ?_
  refine ol_box 1 rfl rfl rfl fun b1 => ?_
  refine ol_r (r_assign rfl) rfl ?_
  refine ol_nil (to_k0 (fun _ _ h => h) (hK1 _ _ _ _ _ ?_))
  clear hK1
  refine wp_seq' fun K2 hK2 => ?_
  refine wp_reg ?_
  refine ol_r (r_fa (o' := 0) rfl fl177_0 rfl) rfl ?_
  refine ol_r (r_ld (id := 1) rfl rfl rfl sc3) rfl ?_
  refine ol_call rfl rfl cb98 rfl (fun w1 hb1 hs1 hB1 => Calls.mono (match_in _ _ _ _) ?_)
  rintro e w2 ⟨rfl, hb2⟩
  refine After.below rfl hb1 hs1 hB1 hb2 ?_
  clear hb2 hB1 hs1 hb1 w2 w1
  refine ol_r (r_move rfl) rfl ?_
  refine ol_split (d := 6) rfl (fun hs6 => ?_) (fun hs6 => ?_)
  ·have phs6 := hs6; try simp only [decide_eq_true_eq, decide_eq_false_iff_not, Bool.not_eq_true', Bool.not_eq_false', Bool.not_true, Bool.not_false] at phs6
   refine ol_g rfl rfl hs6 ?_
   refine ol_r (r_fa (o' := 1) rfl fl177_1 rfl) rfl ?_
   refine ol_g rfl rfl hs6 ?_
   refine ol_r (r_ld (id := 1) rfl rfl rfl sc3) rfl ?_
   refine ol_g rfl rfl hs6 ?_
   refine ol_call rfl rfl cb98 rfl (fun w1 hb1 hs1 hB1 => Calls.mono (match_in _ _ _ _) ?_)
   rintro e w2 ⟨rfl, hb2⟩
   refine After.below rfl hb1 hs1 hB1 hb2 ?_
   clear hb2 hB1 hs1 hb1 w2 w1
   refine ol_r (r_pickT rfl hs6 rfl) rfl ?_
   refine ol_r (r_assign rfl) rfl ?_
   refine ol_nil (to_k0 (fun _ _ h => h) (hK2 _ _ _ _ _ ?_))
   clear hK2
   refine hQ.ret (rvs1 (rv_t rfl)) (fun _ _ h => h) fun w hb hs hB hkd => ?_
   refine ⟨?_, hb⟩
   unfold ptB
   first
     | (simp_all; done)
     | (congr 2; simp_all; done)
  ·have phs6 := hs6; try simp only [decide_eq_true_eq, decide_eq_false_iff_not, Bool.not_eq_true', Bool.not_eq_false', Bool.not_true, Bool.not_false] at phs6
   refine ol_s rfl rfl hs6 rfl ?_
   refine ol_s rfl rfl hs6 rfl ?_
   refine ol_s rfl rfl hs6 rfl ?_
   refine ol_r (r_pickF rfl hs6 rfl) rfl ?_
   refine ol_r (r_assign rfl) rfl ?_
   refine ol_nil (to_k0 (fun _ _ h => h) (hK2 _ _ _ _ _ ?_))
   clear hK2
   refine hQ.ret (rvs1 (rv_t rfl)) (fun _ _ h => h) fun w hb hs hB hkd => ?_
   refine ⟨?_, hb⟩
   unfold ptB
   first
     | (simp_all; done)
     | (congr 2; simp_all; done)
theorem pt_eqs {a b c d : Int} : eqs [.int .i64 a, .int .i64 b] [.int .i64 c, .int .i64 d] = (decide (a = c) && decide (b = d)) := by simp [eqs, eqV]
theorem pt_yes {a b c d : Int} (h : eqs [.int .i64 a, .int .i64 b] [.int .i64 c, .int .i64 d] = true) : a = c ∧ b = d := by rw [pt_eqs, Bool.and_eq_true, decide_eq_true_eq, decide_eq_true_eq] at h; exact h
theorem pt_no {a b c d : Int} (h : eqs [.int .i64 a, .int .i64 b] [.int .i64 c, .int .i64 d] = false) : ¬(a = c ∧ b = d) := by
  intro h2
  rw [pt_eqs, h2.1, h2.2] at h
  simp at h
theorem match_CheckSegment (nm : ByteArray) (a : Option Addr) (n c : Nat) (gs : List GateR) (w : World) (hn : nm.size ≤ 9223372036854775807) (hS : Rd encGate w.heap.size w a n c gs) :
    Calls Try.prog 69 #[.agg #[.string nm, .slice a n c]] w fun e w' => e = .returned (.int .i64 (chkSeg nm gs)) ∧ Below w.heap.size w w' := by
  have hsn := hS.len
  have hsf := hS.fit
  refine enterQ (N := 41) (C := fun _ => True) (H := []) (B := w.heap.size) (args := [_]) Try.func69 rfl rfl rfl (Nat.le_refl _) (Sat.nil _ _) fun Q hQ => ?_
  refine wp_seq' fun K1 hK1 => ?_
  refine wp_reg ?_
  refine ol_box 1 rfl rfl rfl fun b1 => ?_
  refine ol_r (r_assign rfl) rfl ?_
  refine ol_nil (to_k0 (fun _ _ h => h) (hK1 _ _ _ _ _ ?_))
  clear hK1
  refine wp_seq' fun K2 hK2 => ?_
  refine wp_block' ?_
  refine wp_seq' fun K3 hK3 => ?_
  refine wp_reg ?_
  refine ol_r (r_fa (o' := 0) rfl fl52_0 rfl) rfl ?_
  refine ol_r (r_ld (id := 1) rfl rfl rfl sc9) rfl ?_
  refine ol_call rfl rfl cb32 rfl (fun w1 hb1 hs1 hB1 => Calls.mono (quant_IsName nm _ hn) ?_)
  rintro e w2 ⟨rfl, hb2⟩
  refine After.below rfl hb1 hs1 hB1 hb2 ?_
  clear hb2 hB1 hs1 hb1 w2 w1
  refine ol_r (r_not rfl) rfl ?_
  refine ol_r (r_assign rfl) rfl ?_
  refine ol_nil (to_k0 (fun _ _ h => h) (hK3 _ _ _ _ _ ?_))
  clear hK3
  refine wp_condNB rfl (fun hc5 => ?_) (fun hc5 => ?_)
  ·refine wp_seq' fun K4 hK4 => ?_
   refine wp_reg ?_
   refine ol_r (r_assign rfl) rfl ?_
   refine ol_nil (to_k0 (fun _ _ h => h) (hK4 _ _ _ _ _ ?_))
   clear hK4
   refine hQ.ret (rvs1 (rv_t rfl)) (fun _ _ h => h) fun w hb hs hB hkd => ?_
   exact ⟨by rw [chkSeg_8 (by simpa using hc5)], hb⟩
  ·refine wp_seq' fun K5 hK5 => ?_
   refine wp_reg ?_
   refine ol_r (r_fa (o' := 1) rfl fl52_1 rfl) rfl ?_
   refine ol_r (r_ld (id := 1) rfl rfl rfl sc50) rfl ?_
   refine ol_r (r_len rfl sl50) rfl ?_
   refine ol_call rfl rfl cb98 rfl (fun w1 hb1 hs1 hB1 => Calls.mono (match_in _ _ _ _) ?_)
   rintro e w2 ⟨rfl, hb2⟩
   refine After.below rfl hb1 hs1 hB1 hb2 ?_
   clear hb2 hB1 hs1 hb1 w2 w1
   refine ol_r (r_not rfl) rfl ?_
   refine ol_r (r_assign rfl) rfl ?_
   refine ol_nil (to_k0 (fun _ _ h => h) (hK5 _ _ _ _ _ ?_))
   clear hK5
   refine wp_condNB rfl (fun hc10 => ?_) (fun hc10 => ?_)
   ·refine wp_seq' fun K6 hK6 => ?_
    refine wp_reg ?_
    refine ol_r (r_assign rfl) rfl ?_
    refine ol_nil (to_k0 (fun _ _ h => h) (hK6 _ _ _ _ _ ?_))
    clear hK6
    refine hQ.ret (rvs1 (rv_t rfl)) (fun _ _ h => h) fun w hb hs hB hkd => ?_
    exact ⟨by rw [chkSeg_3 (by simpa using hc5) (by subst hsn; simpa using hc10)], hb⟩
   ·refine wp_skip' (to_k0 (fun _ _ h => h) (hK2 _ _ _ _ _ ?_))
    clear hK2
    refine wp_seq' fun K7 hK7 => ?_
    refine wp_seq' fun K8 hK8 => ?_
    refine wp_reg ?_
    refine ol_r (r_fa (o' := 1) rfl fl52_1 rfl) rfl ?_
    refine ol_r (r_ld (id := 1) rfl rfl rfl sc50) rfl ?_
    refine ol_r (r_len rfl sl50) rfl ?_
    refine ol_r (r_move rfl) rfl ?_
    refine ol_nil (to_k0 (fun _ _ h => h) (hK8 _ _ _ _ _ ?_))
    clear hK8
    refine wp_block' ?_
    apply wp_loopM (σ := Nat) (fun s => s ≤ n ∧ chkE fG none gs = chkE fG (ahead gs s) (gs.drop s)) (fun s => [(19, .int .i64 s)]) [(17, _), (18, _)] (fun s => []) [(1, _)] (fun s => n - s) (0)
    ·try dsimp only
     exact ⟨Nat.zero_le _, chkE_start _ _⟩
    ·exact (sub_cons rfl sub_nil)
    ·exact (sub_cons rfl (sub_cons rfl sub_nil))
    ·exact subH_nil
    ·exact (subH_same rfl subH_nil)
    ·rintro k ⟨hk, hP⟩
     intro K9 hK9
     refine wp_seq' fun K10 hK10 => ?_
     refine wp_reg ?_
     refine ol_r (r_lss rfl rfl) rfl ?_
     refine ol_nil (to_k0 (fun _ _ h => h) (hK10 _ _ _ _ _ ?_))
     clear hK10
     refine wp_seq' fun K11 hK11 => ?_
     refine wp_condD rfl (fun hc20 => ?_) (fun hc20 => ?_)
     ·refine wp_skip' (to_k0 (fun _ _ h => h) (hK11 _ _ _ _ _ ?_))
      clear hK11
      refine wp_seq' fun K12 hK12 => ?_
      refine wp_block' ?_
      refine wp_seq' fun K13 hK13 => ?_
      refine wp_reg ?_
      refine ol_ixr hS rfl rfl sl50 (by omega) rfl fun x21 hx21 => ?_
      try simp only [Int.toNat_natCast] at hx21
      refine ol_r (r_ldw rfl (fun w1 hb1 hs1 hB1 => Rd.loads hS ty179 hx21 hb1)) rfl ?_
      refine ol_alloc 4 z179 rfl fun b4 => ?_
      refine ol_store (id := 4) rfl rfl rfl rfl sz179 rfl rfl (by first | decide | exact Nat.zero_lt_succ _ | simp) ?_
      refine ol_nil (to_k0 (fun _ _ h => h) (hK13 _ _ _ _ _ ?_))
      clear hK13
      refine wp_block' ?_
      refine wp_seq' fun K14 hK14 => ?_
      refine wp_reg ?_
      refine ol_r (r_fa (o' := 0) rfl fl179_0 rfl) rfl ?_
      refine ol_r (r_lda (id := 4) (n := 2) rfl rfl rfl ag177) rfl ?_
      refine ol_call rfl rfl cb99 rfl (fun w1 hb1 hs1 hB1 => Calls.mono (match_isPlace _ _ _) ?_)
      rintro e w2 ⟨rfl, hb2⟩
      refine After.below rfl hb1 hs1 hB1 hb2 ?_
      clear hb2 hB1 hs1 hb1 w2 w1
      refine ol_r (r_not rfl) rfl ?_
      refine ol_r (r_move rfl) rfl ?_
      refine ol_split (d := 28) rfl (fun hs28 => ?_) (fun hs28 => ?_)
      ·have phs28 := hs28; try simp only [decide_eq_true_eq, decide_eq_false_iff_not, Bool.not_eq_true', Bool.not_eq_false', Bool.not_true, Bool.not_false] at phs28
       refine ol_s rfl rfl hs28 rfl ?_
       refine ol_s rfl rfl hs28 rfl ?_
       refine ol_s rfl rfl hs28 rfl ?_
       refine ol_s rfl rfl hs28 rfl ?_
       refine ol_r (r_pickT rfl hs28 rfl) rfl ?_
       refine ol_r (r_assign rfl) rfl ?_
       refine ol_nil (to_k0 (fun _ _ h => h) (hK14 _ _ _ _ _ ?_))
       clear hK14
       refine wp_condT rfl ?_
       refine wp_seq' fun K15 hK15 => ?_
       refine wp_reg ?_
       refine ol_r (r_assign rfl) rfl ?_
       refine ol_nil (to_k0 (fun _ _ h => h) (hK15 _ _ _ _ _ ?_))
       clear hK15
       refine hQ.ret (rvs1 (rv_t rfl)) (fun _ _ h => h) fun w hb hs hB hkd => ?_
       have h := chkE_bad hP hx21 (fG_9 (.inl phs28)) (by simp)
       exact ⟨by rw [(chkSeg_g (by simpa using hc5) (by subst hsn; simpa using hc10)).trans h], hb⟩
      ·have phs28 := hs28; try simp only [decide_eq_true_eq, decide_eq_false_iff_not, Bool.not_eq_true', Bool.not_eq_false', Bool.not_true, Bool.not_false] at phs28
       refine ol_g rfl rfl hs28 ?_
       refine ol_r (r_fa (o' := 2) rfl fl179_1 rfl) rfl ?_
       refine ol_g rfl rfl hs28 ?_
       refine ol_r (r_lda (id := 4) (n := 2) rfl rfl rfl ag177) rfl ?_
       refine ol_g rfl rfl hs28 ?_
       refine ol_call rfl rfl cb99 rfl (fun w1 hb1 hs1 hB1 => Calls.mono (match_isPlace _ _ _) ?_)
       rintro e w2 ⟨rfl, hb2⟩
       refine After.below rfl hb1 hs1 hB1 hb2 ?_
       clear hb2 hB1 hs1 hb1 w2 w1
       refine ol_g rfl rfl hs28 ?_
       refine ol_r (r_not rfl) rfl ?_
       refine ol_r (r_pickF rfl hs28 rfl) rfl ?_
       refine ol_r (r_assign rfl) rfl ?_
       refine ol_nil (to_k0 (fun _ _ h => h) (hK14 _ _ _ _ _ ?_))
       clear hK14
       refine wp_condNB rfl (fun hc23 => ?_) (fun hc23 => ?_)
       ·refine wp_seq' fun K16 hK16 => ?_
        refine wp_reg ?_
        refine ol_r (r_assign rfl) rfl ?_
        refine ol_nil (to_k0 (fun _ _ h => h) (hK16 _ _ _ _ _ ?_))
        clear hK16
        refine hQ.ret (rvs1 (rv_t rfl)) (fun _ _ h => h) fun w hb hs hB hkd => ?_
        have h := chkE_bad hP hx21 (fG_9 (.inr hc23)) (by simp)
        exact ⟨by rw [(chkSeg_g (by simpa using hc5) (by subst hsn; simpa using hc10)).trans h], hb⟩
       ·refine wp_seq' fun K17 hK17 => ?_
        refine wp_reg ?_
        refine ol_r (r_fa (o' := 0) rfl fl179_0 rfl) rfl ?_
        refine ol_r (r_lda (id := 4) (n := 2) rfl rfl rfl ag177) rfl ?_
        refine ol_r (r_fa (o' := 2) rfl fl179_1 rfl) rfl ?_
        refine ol_r (r_lda (id := 4) (n := 2) rfl rfl rfl ag177) rfl ?_
        refine ol_r (r_eqs rfl rfl (by kernel_rfl) (fun w => run_eqs (by kernel_rfl) (by kernel_rfl) w)) rfl ?_
        refine ol_r (r_assign rfl) rfl ?_
        refine ol_nil (to_k0 (fun _ _ h => h) (hK17 _ _ _ _ _ ?_))
        clear hK17
        refine wp_cond' rfl (fun hc34 => ?_) (fun hc34 => ?_)
        ·refine wp_seq' fun K18 hK18 => ?_
         refine wp_reg ?_
         refine ol_r (r_assign rfl) rfl ?_
         refine ol_nil (to_k0 (fun _ _ h => h) (hK18 _ _ _ _ _ ?_))
         clear hK18
         refine hQ.ret (rvs1 (rv_t rfl)) (fun _ _ h => h) fun w hb hs hB hkd => ?_
         have h := chkE_bad hP hx21 (fG_2 phs28 hc23 (pt_yes hc34)) (by simp)
         exact ⟨by rw [(chkSeg_g (by simpa using hc5) (by subst hsn; simpa using hc10)).trans h], hb⟩
        ·refine wp_skip' (to_k0 (fun _ _ h => h) (hK12 _ _ _ _ _ ?_))
         clear hK12
         refine wp_reg ?_
         refine ol_r (r_add rfl rfl (by omega)) rfl ?_
         refine ol_r (r_move rfl) rfl ?_
         refine ol_nil (to_k0 (fun _ _ h => h) (hK9 (k + 1) _ _ ?_ ?_ (sub_cons rfl sub_nil) (sub_cons rfl (sub_cons rfl sub_nil)) (by exact subH_nil) (subH_same rfl subH_nil)))
         ·try dsimp only
          exact ⟨by omega, chkE_next hP hx21 (fG_0 phs28 hc23 (pt_no hc34))⟩
         ·try dsimp only
          omega
     ·refine wp_exit' (to_k0 (fun _ _ h => h) (hK7 _ _ _ _ _ ?_))
      clear hK7
      refine wp_seq' fun K19 hK19 => ?_
      refine wp_reg ?_
      refine ol_r (r_assign rfl) rfl ?_
      refine ol_nil (to_k0 (fun _ _ h => h) (hK19 _ _ _ _ _ ?_))
      clear hK19
      refine hQ.ret (rvs1 (rv_t rfl)) (fun _ _ h => h) fun w hb hs hB hkd => ?_
      exact ⟨by rw [(chkSeg_g (by simpa using hc5) (by subst hsn; simpa using hc10)).trans (chkE_end hP (by omega))], hb⟩
def bIx (n : Nat) : Nat → Int
  | 0 => (n : Int) - 1
  | k + 1 => bIx n k - 1
end Go.Proofs.Ytfbmkepogcimlaa

/-
  Segments among the arguments, opened.
-/


namespace Go.Proofs.Ytfbmkepogcimlaa
open Go Hx Go.ChangeShapes Go.WideShapes Go.ChangeAt Go.RowKit
set_option linter.unusedVariables false
set_option maxRecDepth 8000
section
variable {H : Type} {enc : TypeId × Value → H} {W : World} {base : Nat} {sp : Nat → Bool} {held : Bool}
theorem cells_encGateP : ∀ n cs (x : DataW H × List MemPlace), DataW.trod enc Try.prog W base sp held n 179 cs = some x → ∃ y, cs = encGate.cells y ∧ True := by
  intro n cs x h
  obtain ⟨hl, hv⟩ := leaves (ts := [3, 3, 3, 3]) 4 (by kernel_rfl) h
  match cs, hl with
  | [v0, v1, v2, v3], _ =>
    obtain ⟨a0, rfl, w0⟩ := (hv 0 3 v0 rfl rfl).int (k := .i64) Try.underlying3
    obtain ⟨a1, rfl, w1⟩ := (hv 1 3 v1 rfl rfl).int (k := .i64) Try.underlying3
    obtain ⟨a2, rfl, w2⟩ := (hv 2 3 v2 rfl rfl).int (k := .i64) Try.underlying3
    obtain ⟨a3, rfl, w3⟩ := (hv 3 3 v3 rfl rfl).int (k := .i64) Try.underlying3
    exact ⟨⟨a0, a1, a2, a3⟩, rfl, trivial⟩
theorem open_seg {n : Nat} {cs : List Value} {x : DataW H × List MemPlace} (h : DataW.trod enc Try.prog W base sp held n 52 cs = some x) :
    ∃ nm a m c gs, cs = [.string nm, .slice a m c] ∧ nm.size ≤ 9223372036854775807 ∧ Rd encGate W.heap.size W a m c gs := by
  obtain ⟨hl, hv⟩ := leaves (ts := [9, 50]) 4 (by kernel_rfl) h
  match cs, hl with
  | [v0, v1], _ =>
    obtain ⟨a0, rfl, w0⟩ := (hv 0 9 v0 rfl rfl).string Try.underlying9
    obtain ⟨n3, d3, p3, h3, _⟩ := hv 1 50 v1 rfl rfl
    obtain ⟨sa, sn, sc, ss, e3, r3, q3⟩ := open_rowsP encGate _ Try.underlying50 (by kernel_rfl) cells_encGateP h3
    cases e3
    exact ⟨a0, sa, sn, sc, ss, rfl, by unfold maxLen at w0; omega, r3⟩
end
end Go.Proofs.Ytfbmkepogcimlaa

/-
  Activities among the arguments, opened.
-/


namespace Go.Proofs.Ytfbmkepogcimlaa
open Go Hx Go.ChangeShapes Go.WideShapes Go.ChangeAt Go.RowKit
set_option linter.unusedVariables false
set_option maxRecDepth 8000
section
variable {H : Type} {enc : TypeId × Value → H} {W : World} {base : Nat} {sp : Nat → Bool} {held : Bool}
theorem cells_encSmp : ∀ n cs (x : DataW H × List MemPlace), DataW.trod enc Try.prog W base sp held n 70 cs = some x → ∃ y, cs = encSmp.cells y ∧ (-9223372036854775808 ≤ y.at_ ∧ y.at_ ≤ 9223372036854775807) := by
  intro n cs x h
  obtain ⟨hl, hv⟩ := leaves (ts := [3, 3, 3, 3, 3, 3, 3]) 4 (by kernel_rfl) h
  match cs, hl with
  | [v0, v1, v2, v3, v4, v5, v6], _ =>
    obtain ⟨a0, rfl, w0⟩ := (hv 0 3 v0 rfl rfl).int (k := .i64) Try.underlying3
    obtain ⟨a1, rfl, w1⟩ := (hv 1 3 v1 rfl rfl).int (k := .i64) Try.underlying3
    obtain ⟨a2, rfl, w2⟩ := (hv 2 3 v2 rfl rfl).int (k := .i64) Try.underlying3
    obtain ⟨a3, rfl, w3⟩ := (hv 3 3 v3 rfl rfl).int (k := .i64) Try.underlying3
    obtain ⟨a4, rfl, w4⟩ := (hv 4 3 v4 rfl rfl).int (k := .i64) Try.underlying3
    obtain ⟨a5, rfl, w5⟩ := (hv 5 3 v5 rfl rfl).int (k := .i64) Try.underlying3
    obtain ⟨a6, rfl, w6⟩ := (hv 6 3 v6 rfl rfl).int (k := .i64) Try.underlying3
    exact ⟨⟨a0, a1, a2, a3, a4, a5, a6⟩, rfl, wf_i64 w0⟩
theorem cells_encLap : ∀ n cs (x : DataW H × List MemPlace), DataW.trod enc Try.prog W base sp held n 110 cs = some x → ∃ y, cs = encLap.cells y ∧ y.name.size ≤ 9223372036854775807 := by
  intro n cs x h
  obtain ⟨hl, hv⟩ := leaves (ts := [3, 3, 9]) 4 (by kernel_rfl) h
  match cs, hl with
  | [v0, v1, v2], _ =>
    obtain ⟨a0, rfl, w0⟩ := (hv 0 3 v0 rfl rfl).int (k := .i64) Try.underlying3
    obtain ⟨a1, rfl, w1⟩ := (hv 1 3 v1 rfl rfl).int (k := .i64) Try.underlying3
    obtain ⟨a2, rfl, w2⟩ := (hv 2 9 v2 rfl rfl).string Try.underlying9
    exact ⟨⟨a0, a1, a2⟩, rfl, by unfold maxLen at w2; show a2.size ≤ _; omega⟩
theorem cells_encStr : ∀ n cs (x : DataW H × List MemPlace), DataW.trod enc Try.prog W base sp held n 9 cs = some x → ∃ y, cs = encStr.cells y ∧ y.size ≤ 9223372036854775807 := by
  intro n cs x h
  obtain ⟨hl, hv⟩ := leaves (ts := [9]) 4 (by kernel_rfl) h
  match cs, hl with
  | [v2], _ =>
    obtain ⟨a2, rfl, w2⟩ := (hv 0 9 v2 rfl rfl).string Try.underlying9
    exact ⟨a2, rfl, by unfold maxLen at w2; omega⟩
theorem open_act {n : Nat} {cs : List Value} {x : DataW H × List MemPlace} (h : DataW.trod enc Try.prog W base sp held n 57 cs = some x) :
    ∃ A : ActV, cs = [.string A.name, .int .i64 A.sport, .int .i64 A.start, .slice A.sa A.sn A.sc, .slice A.la A.ln A.lc, .slice A.ta A.tn A.tc] ∧ A.Ok W.heap.size W ∧ (-9223372036854775808 ≤ A.sport ∧ A.sport ≤ 9223372036854775807) ∧ (-9223372036854775808 ≤ A.start ∧ A.start ≤ 9223372036854775807) := by
  obtain ⟨hl, hv⟩ := leaves (ts := [9, 3, 3, 53, 54, 55]) 5 (by kernel_rfl) h
  match cs, hl with
  | [v0, v1, v2, v3, v4, v5], _ =>
    obtain ⟨a0, rfl, w0⟩ := (hv 0 9 v0 rfl rfl).string Try.underlying9
    obtain ⟨a1, rfl, w1⟩ := (hv 1 3 v1 rfl rfl).int (k := .i64) Try.underlying3
    obtain ⟨a2, rfl, w2⟩ := (hv 2 3 v2 rfl rfl).int (k := .i64) Try.underlying3
    obtain ⟨n3, d3, p3, h3, _⟩ := hv 3 53 v3 rfl rfl
    obtain ⟨n4, d4, p4, h4, _⟩ := hv 4 54 v4 rfl rfl
    obtain ⟨n5, d5, p5, h5, _⟩ := hv 5 55 v5 rfl rfl
    obtain ⟨sa, sn, sc, ss, e3, r3, q3⟩ := open_rowsP encSmp _ Try.underlying53 (by kernel_rfl) cells_encSmp h3
    obtain ⟨la, ln, lc, ls, e4, r4, q4⟩ := open_rowsP encLap _ Try.underlying54 (by kernel_rfl) cells_encLap h4
    obtain ⟨ta, tn, tc, ts, e5, r5, q5⟩ := open_rowsP encStr _ Try.underlying55 (by kernel_rfl) cells_encStr h5
    cases e3; cases e4; cases e5
    exact ⟨⟨a0, a1, a2, sa, sn, sc, la, ln, lc, ta, tn, tc, ss, ls, ts⟩, rfl, ⟨r3, r4, r5, by unfold maxLen at w0; show a0.size ≤ _; omega, q4, q5, q3⟩, wf_i64 w1, wf_i64 w2⟩
/-- The size condition of the statement, for an activity's samples. -/
theorem act_size {n : Nat} {cs : List Value} {x : DataW H × List MemPlace} {A : ActV} (h : DataW.trod enc Try.prog W base sp held n 57 cs = some x)
    (hcs : cs = [.string A.name, .int .i64 A.sport, .int .i64 A.start, .slice A.sa A.sn A.sc, .slice A.la A.ln A.lc, .slice A.ta A.tn A.tc]) (hw : ∀ m ∈ x.1.weights Try.prog 57, m ≤ reachBytes) : A.sn ≤ 2513169434916 := by
  subst hcs
  obtain ⟨xs, n', _, rfl, hlen, hxl, hf⟩ := DataW.trod_struct Try.underlying57 h
  have h3 := hf 3 _ rfl
  match xs, hxl with
  | [x0, x1, x2, x3, x4, x5], _ =>
    have h4 : DataW.trod enc Try.prog W base sp held n' 53 [.slice A.sa A.sn A.sc] = some x3 := h3
    rcases Go.Deep.open_slice Try.underlying53 h4 with ⟨hcs, _⟩ | ⟨a, len, cap, m, k, D, Pl, hcs, _, hl, hm, hmm, hx, _⟩
    · simp at hcs; omega
    · have hb : Try.prog.bytesOf 70 = 56 := by kernel_rfl
      obtain ⟨E, S, hE, hEl⟩ : ∃ E S, x3.1 = DataW.slice E S ∧ E.length = len := ⟨_, _, by rw [hx], by simp⟩
      have h5 : (E.length + S.length) * Try.prog.bytesOf 70 ≤ reachBytes := hw _ (by
        show _ ∈ (DataW.agg [x0.1, x1.1, x2.1, x3.1, x4.1, x5.1]).weights Try.prog 57
        simp only [DataW.weights, Try.underlying57]
        refine DataW.weights_mem_each (j := 3) (t := 53) (d := x3.1) rfl rfl _ ?_
        rw [hE]
        simp only [DataW.weights, Try.underlying53]
        exact List.mem_cons_self ..)
      rw [hb] at h5
      simp at hcs
      unfold reachBytes at h5
      omega
end
end Go.Proofs.Ytfbmkepogcimlaa

/-
  Whole roots; lengths and ways of steps. No program stands here.
-/

namespace Go.Proofs.Ytfbmkepogcimlaa
set_option linter.unusedVariables false
def IsRoot (n r : Int) : Prop := 0 ≤ r ∧ r * r ≤ n ∧ n < (r + 1) * (r + 1)
theorem sq_lt {a b : Int} (h0 : 0 ≤ a) (h : a < b) : a * a < b * b := by
  have h1 := mul_bd (a := a) (b := a) (A := a) (B := a) h0 (by omega) h0 (by omega)
  have h2 : (a + 1) * (a + 1) ≤ b * b := (mul_bd (a := a + 1) (b := a + 1) (A := b) (B := b) (by omega) (by omega) (by omega) (by omega)).2
  have h3 : (a + 1) * (a + 1) = a * a + a + a + 1 := by rw [Int.add_mul, Int.mul_add]; omega
  omega
theorem sq_le {a b : Int} (h0 : 0 ≤ a) (h : a ≤ b) : a * a ≤ b * b := (mul_bd h0 h h0 h).2
theorem IsRoot.unique {n r q : Int} (h : IsRoot n r) (h' : IsRoot n q) : r = q := by
  have key : ∀ a b : Int, IsRoot n a → IsRoot n b → ¬a < b := by
    intro a b ha hb hlt
    have := sq_le (a := a + 1) (b := b) (by have := ha.1; omega) (by omega)
    have h1 := ha.2.2
    have h2 := hb.2.1
    omega
  have a := key r q h h'
  have b := key q r h' h
  omega
open Classical in
noncomputable def rootI (n : Int) : Int := if h : ∃ r, IsRoot n r then Classical.choose h else 0
theorem rootI_eq {n r : Int} (h : IsRoot n r) : rootI n = r := by
  have h1 : ∃ r, IsRoot n r := ⟨r, h⟩
  unfold rootI
  rw [dif_pos h1]
  exact (Classical.choose_spec h1).unique h
theorem root_ex : ∀ n : Nat, ∃ r : Nat, IsRoot n r
  | 0 => ⟨0, by unfold IsRoot; omega⟩
  | n + 1 => by
    obtain ⟨r, h1, h2, h3⟩ := root_ex n
    by_cases h : ((n + 1 : Nat) : Int) < ((r : Int) + 1) * ((r : Int) + 1)
    · exact ⟨r, h1, by omega, h⟩
    · refine ⟨r + 1, by omega, by push_cast; omega, ?_⟩
      have := sq_lt (a := (r : Int) + 1) (b := (r : Int) + 1 + 1) (by omega) (by omega)
      push_cast
      omega
theorem rootI_is {n : Int} (h : 0 ≤ n) : IsRoot n (rootI n) := by
  obtain ⟨m, rfl⟩ := Int.eq_ofNat_of_zero_le h
  obtain ⟨r, hr⟩ := root_ex m
  rw [rootI_eq hr]; exact hr
theorem rootI_le {n m : Int} (h : 0 ≤ n) (hm : 0 ≤ m) (hn : n ≤ m * m) : 0 ≤ rootI n ∧ rootI n ≤ m := by
  have h1 := rootI_is h
  refine ⟨h1.1, ?_⟩
  apply Decidable.byContradiction
  intro hlt
  have := sq_le (a := m + 1) (b := rootI n) (by omega) (by omega)
  have h2 := sq_lt hm (show m < m + 1 by omega)
  have h3 := h1.2.1
  omega
/-- A power of two, at most the 32nd. -/
def PW (p : Int) : Prop := ∃ j : Nat, j ≤ 32 ∧ p = 2 ^ j
theorem PW.top : PW 4294967296 := ⟨32, by omega, by decide⟩
theorem PW.half {p : Int} (h : PW p) (h2 : 0 < p / 2) : ∃ q, PW q ∧ p = 2 * q ∧ 1 ≤ q := by
  obtain ⟨j, hj, rfl⟩ := h
  cases j with
  | zero => simp at h2
  | succ j => exact ⟨2 ^ j, ⟨j, by omega, rfl⟩, by rw [Int.pow_succ]; omega, Int.pow_pos (by omega)⟩
theorem PW.one {p : Int} (h : PW p) (h2 : ¬0 < p / 2) : p = 1 := by
  obtain ⟨j, hj, rfl⟩ := h
  cases j with
  | zero => rfl
  | succ j =>
    have : (0 : Int) < 2 ^ j := Int.pow_pos (by omega)
    rw [Int.pow_succ] at h2; omega
theorem PW.pos {p : Int} (h : PW p) : 1 ≤ p := by
  obtain ⟨j, hj, rfl⟩ := h
  have : (0 : Int) < 2 ^ j := Int.pow_pos (by omega)
  omega
/-- t is no more than n divided by t just if its square is no more than n. -/
theorem le_div_sq {n t : Int} (ht : 0 < t) : t ≤ n / t ↔ t * t ≤ n := Int.le_ediv_iff_mul_le ht
/-! #### ways -/
def sqD (p q : SmpR) : Int := (q.x - p.x) * (q.x - p.x) + (q.y - p.y) * (q.y - p.y)
def PlaceOk (p : SmpR) : Prop := (-100000000 ≤ p.x ∧ p.x ≤ 100000000) ∧ (-100000000 ≤ p.y ∧ p.y ≤ 100000000)
theorem sq_bd {a M : Int} (h : -M ≤ a ∧ a ≤ M) : 0 ≤ a * a ∧ a * a ≤ M * M := by
  by_cases h0 : 0 ≤ a
  · exact mul_bd h0 h.2 h0 h.2
  · have := mul_bd (a := -a) (b := -a) (A := M) (B := M) (by omega) (by omega) (by omega) (by omega)
    rwa [Int.neg_mul_neg] at this
theorem sqD_bd {p q : SmpR} (hp : PlaceOk p) (hq : PlaceOk q) : 0 ≤ sqD p q ∧ sqD p q ≤ 80000000000000000 := by
  have h1 := sq_bd (a := q.x - p.x) (M := 200000000) (by have := hp.1; have := hq.1; omega)
  have h2 := sq_bd (a := q.y - p.y) (M := 200000000) (by have := hp.2; have := hq.2; omega)
  unfold sqD; omega
noncomputable def lenD (p q : SmpR) : Int := rootI (sqD p q)
theorem lenD_bd {p q : SmpR} (hp : PlaceOk p) (hq : PlaceOk q) : 0 ≤ lenD p q ∧ lenD p q ≤ 300000000 := by
  have h := sqD_bd hp hq
  exact rootI_le h.1 (by omega) (by omega)
theorem sqD_comm (p q : SmpR) : sqD p q = sqD q p := by
  unfold sqD
  rw [show q.x - p.x = -(p.x - q.x) by omega, show q.y - p.y = -(p.y - q.y) by omega, Int.neg_mul_neg, Int.neg_mul_neg]
theorem SmpOk.place {st : Int} {ss : List SmpR} (h : SmpOk st ss) {x : SmpR} (hx : x ∈ ss) : PlaceOk x := ⟨(h.bd x hx).2.2.2.1, (h.bd x hx).2.2.2.2.1⟩
end Go.Proofs.Ytfbmkepogcimlaa

/-
  How far was gone up to each sample. No program stands here.
-/

namespace Go.Proofs.Ytfbmkepogcimlaa
set_option linter.unusedVariables false
def stepsL (ss : List SmpR) : List (SmpR × SmpR) := ss.zip ss.tail
theorem stepsL_len (ss : List SmpR) : (stepsL ss).length = ss.length - 1 := by unfold stepsL; rw [List.length_zip, List.length_tail]; omega
theorem stepsL_get {ss : List SmpR} {k : Nat} {x y : SmpR} (hx : ss[k]? = some x) (hy : ss[k + 1]? = some y) : (stepsL ss)[k]? = some (x, y) := by
  unfold stepsL
  rw [List.getElem?_zip_eq_some]
  exact ⟨hx, by rw [List.getElem?_tail]; exact hy⟩
theorem stepsL_inv {ss : List SmpR} {k : Nat} {p : SmpR × SmpR} (h : (stepsL ss)[k]? = some p) : ss[k]? = some p.1 ∧ ss[k + 1]? = some p.2 := by
  unfold stepsL at h
  rw [show p = (p.1, p.2) from rfl, List.getElem?_zip_eq_some, List.getElem?_tail] at h
  exact h
noncomputable def wayN (ss : List SmpR) (k : Nat) : Int := sI (fun p => lenD p.1 p.2) ((stepsL ss).take k)
theorem wayN_zero (ss : List SmpR) : wayN ss 0 = 0 := by simp [wayN, sI]
theorem wayN_succ {ss : List SmpR} {k : Nat} {p : SmpR × SmpR} (h : (stepsL ss)[k]? = some p) : wayN ss (k + 1) = wayN ss k + lenD p.1 p.2 := sI_take _ h
theorem wayN_bd {st : Int} {ss : List SmpR} (h : SmpOk st ss) (k : Nat) : 0 ≤ wayN ss k ∧ wayN ss k ≤ 300000000 * k := by
  have h1 := sI_bd (fun p : SmpR × SmpR => lenD p.1 p.2) 300000000 (by omega) ((stepsL ss).take k) (fun p hp => by
    obtain ⟨i, hi⟩ := List.getElem?_of_mem (List.mem_of_mem_take hp)
    have h2 := stepsL_inv hi
    exact lenD_bd (h.place (List.mem_of_getElem? h2.1)) (h.place (List.mem_of_getElem? h2.2)))
  unfold wayN
  have h3 : ((stepsL ss).take k).length ≤ k := by rw [List.length_take]; omega
  omega
noncomputable def runW (ss : List SmpR) (k : Nat) : List Int := (List.range k).map (wayN ss)
theorem runW_succ (ss : List SmpR) (k : Nat) : runW ss (k + 1) = runW ss k ++ [wayN ss k] := by unfold runW; rw [List.range_succ, List.map_append]; rfl
theorem runW_len (ss : List SmpR) (k : Nat) : (runW ss k).length = k := by simp [runW]
theorem runW_get {ss : List SmpR} {k i : Nat} {x : Int} (h : (runW ss k)[i]? = some x) : x = wayN ss i := by
  unfold runW at h
  obtain ⟨hi, rfl⟩ := List.getElem?_eq_some_iff.1 h
  simp
theorem runW_at {ss : List SmpR} {k i : Nat} (h : i < k) : (runW ss k)[i]? = some (wayN ss i) := by unfold runW; simp [h]
noncomputable def wayL (ss : List SmpR) : List Int := runW ss ss.length
theorem wayL_len (ss : List SmpR) : (wayL ss).length = ss.length := runW_len _ _
theorem wayN_mono {st : Int} {ss : List SmpR} (h : SmpOk st ss) {i j : Nat} (hij : i ≤ j) : wayN ss i ≤ wayN ss j := by
  induction j with
  | zero => have : i = 0 := by omega
            subst this; exact Int.le_refl _
  | succ j ih =>
    by_cases h1 : i = j + 1
    · subst h1; exact Int.le_refl _
    · have h2 := ih (by omega)
      cases h3 : (stepsL ss)[j]? with
      | none =>
        have h4 := List.getElem?_eq_none_iff.1 h3
        have : wayN ss (j + 1) = wayN ss j := by unfold wayN; rw [List.take_of_length_le (by omega), List.take_of_length_le (by omega)]
        omega
      | some p =>
        have h4 := stepsL_inv h3
        have h5 := lenD_bd (h.place (List.mem_of_getElem? h4.1)) (h.place (List.mem_of_getElem? h4.2))
        rw [wayN_succ h3]; omega
/-- Ways: how far, and an error. -/
noncomputable def waysR (a : ActD) : List Int × Int := if chkA a ≠ 0 then ([], chkA a) else (wayL a.ss, 0)
theorem waysR_e {a : ActD} (h : chkA a ≠ 0) : waysR a = ([], chkA a) := if_pos h
theorem waysR_0 {a : ActD} (h : ¬chkA a ≠ 0) : waysR a = (wayL a.ss, 0) := if_neg h
end Go.Proofs.Ytfbmkepogcimlaa

/-
  Crossings. No program stands here.
-/


namespace Go.Proofs.Ytfbmkepogcimlaa
set_option linter.unusedVariables false
def side6 (ax ay bx by_ x y : Int) : Int := (bx - ax) * (y - ay) - (by_ - ay) * (x - ax)
theorem mul_ab {a b : Int} (ha : -200000000 ≤ a ∧ a ≤ 200000000) (hb : -200000000 ≤ b ∧ b ≤ 200000000) : -40000000000000000 ≤ a * b ∧ a * b ≤ 40000000000000000 := by
  by_cases h1 : 0 ≤ a
  · by_cases h2 : 0 ≤ b
    · have := mul_bd h1 ha.2 h2 hb.2; omega
    · have := mul_bd h1 ha.2 (show 0 ≤ -b by omega) (show -b ≤ 200000000 by omega)
      rw [Int.mul_neg] at this; omega
  · by_cases h2 : 0 ≤ b
    · have := mul_bd (show 0 ≤ -a by omega) (show -a ≤ 200000000 by omega) h2 hb.2
      rw [Int.neg_mul] at this; omega
    · have := mul_bd (show 0 ≤ -a by omega) (show -a ≤ 200000000 by omega) (show 0 ≤ -b by omega) (show -b ≤ 200000000 by omega)
      rw [Int.neg_mul_neg] at this; omega
def gSide (g : GateR) (p : SmpR) : Int := side6 g.ax g.ay g.bx g.by_ p.x p.y
def crB (g : GateR) (p q : SmpR) : Bool :=
  !(decide (0 ≤ gSide g p) || decide (gSide g q < 0)) && !(decide (0 < side6 p.x p.y q.x q.y g.ax g.ay) && decide (0 < side6 p.x p.y q.x q.y g.bx g.by_) || decide (side6 p.x p.y q.x q.y g.ax g.ay < 0) && decide (side6 p.x p.y q.x q.y g.bx g.by_ < 0))
structure PartR where
  num : Int
  den : Int
def partOf (g : GateR) (p q : SmpR) : PartR := if crB g p q = true then ⟨-gSide g p, gSide g q - gSide g p⟩ else ⟨0, 0⟩
theorem crB_pos {g : GateR} {p q : SmpR} (h : crB g p q = true) : gSide g p < 0 ∧ 0 ≤ gSide g q := by
  unfold crB at h
  rw [Bool.and_eq_true] at h
  have := h.1
  simp at this
  omega
def gIs (gs : List GateR) (p q : SmpR) (i : Nat) : Bool := match gs[i]? with | some g => crB g p q | none => false
/-- The gates that a step crosses, of the first k. -/
def gIdx (gs : List GateR) (p q : SmpR) (k : Nat) : List Int := ((List.range k).filter (gIs gs p q)).map fun (i : Nat) => (i : Int)
theorem gIdx_yes {gs : List GateR} {p q : SmpR} {k : Nat} {g : GateR} (hg : gs[k]? = some g) (h : crB g p q = true) : gIdx gs p q (k + 1) = gIdx gs p q k ++ [(k : Int)] := by
  unfold gIdx; rw [List.range_succ, List.filter_append, List.map_append]; simp [gIs, hg, h]
theorem gIdx_no {gs : List GateR} {p q : SmpR} {k : Nat} {g : GateR} (hg : gs[k]? = some g) (h : crB g p q = false) : gIdx gs p q (k + 1) = gIdx gs p q k := by
  unfold gIdx; rw [List.range_succ, List.filter_append, List.map_append]; simp [gIs, hg, h]
theorem gIdx_len (gs : List GateR) (p q : SmpR) (k : Nat) : (gIdx gs p q k).length ≤ k := by
  unfold gIdx
  rw [List.length_map]
  have := List.length_filter_le (gIs gs p q) (List.range k)
  rw [List.length_range] at this
  exact this
theorem gIdx_mem {gs : List GateR} {p q : SmpR} {k : Nat} {x : Int} (h : x ∈ gIdx gs p q k) : ∃ (i : Nat) (g : GateR), x = i ∧ i < k ∧ gs[i]? = some g ∧ crB g p q = true := by
  unfold gIdx at h
  obtain ⟨i, hi, rfl⟩ := List.mem_map.1 h
  rw [List.mem_filter, List.mem_range] at hi
  have h2 := hi.2
  unfold gIs at h2
  cases hg : gs[i]? with
  | none => rw [hg] at h2; cases h2
  | some g => rw [hg] at h2; exact ⟨i, g, rfl, hi.1, hg, h2⟩
structure CrossR where
  gate : Int
  step : Int
  at_ : Int
def crossOf (gs : List GateR) (p q : SmpR) (step : Nat) (i : Int) : CrossR := match gs[i.toNat]? with
  | some g => ⟨i, step, 1000 * p.at_ + (partOf g p q).num * (1000 * (q.at_ - p.at_)) / (partOf g p q).den⟩
  | none => ⟨i, step, 0⟩
/-- The crossings of the first k steps, where no step crosses two gates. -/
def crossN (gs : List GateR) (st : List (SmpR × SmpR)) : Nat → List CrossR
  | 0 => []
  | k + 1 => crossN gs st k ++ (match st[k]? with | some x => (gIdx gs x.1 x.2 gs.length).map (crossOf gs x.1 x.2 k) | none => [])
theorem crossN_succ {gs : List GateR} {st : List (SmpR × SmpR)} {k : Nat} {x : SmpR × SmpR} (h : st[k]? = some x) : crossN gs st (k + 1) = crossN gs st k ++ (gIdx gs x.1 x.2 gs.length).map (crossOf gs x.1 x.2 k) := by rw [crossN, h]
/-- No step crosses two gates, and the numbers are small. -/
structure Easy (gs : List GateR) (ss : List SmpR) : Prop where
  one : ∀ (k : Nat) (x : SmpR × SmpR), (stepsL ss)[k]? = some x → (gIdx gs x.1 x.2 gs.length).length ≤ 1
  few : (stepsL ss).length ≤ 1
  num : ∀ (k : Nat) (x : SmpR × SmpR) (g : GateR), (stepsL ss)[k]? = some x → g ∈ gs → crB g x.1 x.2 = true → -gSide g x.1 ≤ 10000 ∧ gSide g x.2 - gSide g x.1 ≤ 10000 ∧ 0 ≤ x.2.at_ - x.1.at_ ∧ x.2.at_ - x.1.at_ ≤ 10000 ∧ 0 ≤ x.1.at_ ∧ x.1.at_ ≤ 1000000
end Go.Proofs.Ytfbmkepogcimlaa

/-
  A list by a function. No program stands here.
-/

namespace Go.Proofs.Ytfbmkepogcimlaa
set_option linter.unusedVariables false
set_option linter.unusedSimpArgs false
/-- A list by a function. -/
def tab (n : Nat) (f : Nat → Int) : List Int := (List.range n).map f
@[simp] theorem tab_len (n : Nat) (f : Nat → Int) : (tab n f).length = n := by simp [tab]
theorem tab_get {n : Nat} {f : Nat → Int} {k : Nat} {x : Int} (h : (tab n f)[k]? = some x) : k < n ∧ x = f k := by
  have hk := (List.getElem?_eq_some_iff.1 h).1
  rw [tab_len] at hk
  refine ⟨hk, ?_⟩
  simp [tab, hk] at h
  exact h.symm
theorem tab_at {n : Nat} {f : Nat → Int} {k : Nat} (hk : k < n) : (tab n f)[k]? = some (f k) := by simp [tab, hk]
theorem tab_set {n : Nat} {f g : Nat → Int} {k : Nat} {x : Int} (hk : k < n) (hx : g k = x) (hg : ∀ j, j ≠ k → j < n → g j = f j) : (tab n f).set k x = tab n g := by
  apply List.ext_getElem (by simp)
  intro i h1 h2
  rw [List.getElem_set]
  rw [tab_len] at h2
  split
  · rename_i h; subst h; simp [tab, hx]
  · rename_i h; simp [tab]; exact (hg i (fun e => h e.symm) h2).symm
theorem tab_zero (n : Nat) : List.replicate n (0 : Int) = tab n fun _ => 0 := by
  apply List.ext_getElem (by simp)
  intro i h1 h2
  simp [tab]
end Go.Proofs.Ytfbmkepogcimlaa

/-
  A sort that is stable: plain part.
-/

namespace Go.Proofs.Ytfbmkepogcimlaa
set_option linter.unusedVariables false
set_option linter.unusedSimpArgs false
def swF (f : Nat → Int) (a b n : Nat) : Nat → Int := fun x => if a ≤ x ∧ x < a + n then f (x - a + b) else if b ≤ x ∧ x < b + n then f (x - b + a) else f x
def rotF (f : Nat → Int) (a m b : Nat) : Nat → Int := fun x => if a ≤ x ∧ x < a + (b - m) then f (x - a + m) else if a + (b - m) ≤ x ∧ x < b then f (x - (b - m)) else f x
/-- Two places exchanged. -/
def sw2 (f : Nat → Int) (i j : Nat) : Nat → Int := fun x => if x = i then f j else if x = j then f i else f x
theorem swF_zero (f : Nat → Int) (a b : Nat) : swF f a b 0 = f := by
  funext x; unfold swF; rw [if_neg (by omega), if_neg (by omega)]
theorem swF_succ {f : Nat → Int} {a b n : Nat} (h : a + n < b) : swF f a b (n + 1) = sw2 (swF f a b n) (a + n) (b + n) := by
  funext x
  simp only [swF, sw2]
  repeat' split
  all_goals first | (exfalso; omega) | (congr 1; omega) | rfl
theorem swF_at1 {f : Nat → Int} {a b n : Nat} (h : a + n < b) : swF f a b n (a + n) = f (a + n) := by
  simp only [swF]; rw [if_neg (by omega), if_neg (by omega)]
theorem swF_at2 {f : Nat → Int} {a b n : Nat} (h : a + n < b) : swF f a b n (b + n) = f (b + n) := by
  simp only [swF]; rw [if_neg (by omega), if_neg (by omega)]
theorem tab_sw2 {N i j : Nat} (f : Nat → Int) (hi : i < N) (hj : j < N) : ((tab N f).set i (f j)).set j (f i) = tab N (sw2 f i j) := by
  rw [tab_set (g := fun x => if x = i then f j else f x) hi (by simp) (fun x hx _ => by simp [hx])]
  refine tab_set hj ?_ fun x hx _ => ?_
  · simp only [sw2]; split
    · rename_i h; rw [h]
    · rfl
  · simp only [sw2]; split
    · rfl
    · first
        | rfl
        | rw [if_neg hx]
theorem rot_gt {g : Nat → Int} {m i j : Nat} (hj : 0 < j) (h : j < i) (hm : i ≤ m) : rotF (swF g (m - i) m j) (m - (i - j)) m (m + j) = rotF g (m - i) m (m + j) := by
  funext x
  simp only [swF, rotF]
  repeat' split
  all_goals first | (exfalso; omega) | (congr 1; omega) | rfl
theorem rot_lt {g : Nat → Int} {m i j : Nat} (hi : 0 < i) (h : i < j) (hm : i ≤ m) : rotF (swF g (m - i) (m + j - i) i) (m - i) m (m + (j - i)) = rotF g (m - i) m (m + j) := by
  funext x
  simp only [swF, rotF]
  repeat' split
  all_goals first | (exfalso; omega) | (congr 1; omega) | rfl
theorem rot_eq {g : Nat → Int} {m i : Nat} (hm : i ≤ m) : swF g (m - i) m i = rotF g (m - i) m (m + i) := by
  funext x
  simp only [swF, rotF]
  repeat' split
  all_goals first | (exfalso; omega) | (congr 1; omega) | rfl
section
variable (lt : Int → Int → Bool)
/-- Ahead: less, or as great with a smaller number. -/
def RR (x y : Int) : Prop := lt x y = true ∨ (lt y x = false ∧ x < y)
def SoR (f : Nat → Int) (a b : Nat) : Prop := ∀ i j, a ≤ i → i < j → j < b → RR lt (f i) (f j)
def SaS (f g : Nat → Int) (a b : Nat) : Prop := (∀ x, a ≤ x → x < b → ∃ y, a ≤ y ∧ y < b ∧ f x = g y) ∧ (∀ x, a ≤ x → x < b → ∃ y, a ≤ y ∧ y < b ∧ g x = f y)
/-- A strict weak order. -/
structure Swo : Prop where
  asym : ∀ x y, lt x y = true → lt y x = false
  trans : ∀ x y z, lt x y = true → lt y z = true → lt x z = true
  inc : ∀ x y z, lt x y = false → lt y z = false → lt x z = false
variable {lt}
theorem RR.trans (h : Swo lt) {x y z : Int} (h1 : RR lt x y) (h2 : RR lt y z) : RR lt x z := by
  rcases h1 with h1 | ⟨h1, h1'⟩
  · rcases h2 with h2 | ⟨h2, h2'⟩
    · exact .inl (h.trans _ _ _ h1 h2)
    · left
      cases hz : lt x z with
      | true => rfl
      | false => have := h.inc _ _ _ hz h2; rw [h1] at this; cases this
  · rcases h2 with h2 | ⟨h2, h2'⟩
    · left
      cases hz : lt x z with
      | true => rfl
      | false => have := h.inc _ _ _ h1 hz; rw [h2] at this; cases this
    · exact .inr ⟨h.inc _ _ _ h2 h1, by omega⟩
theorem RR.irr (h : Swo lt) {x : Int} (h1 : RR lt x x) : False := by
  rcases h1 with h1 | ⟨_, h1⟩
  · have := h.asym _ _ h1; rw [h1] at this; cases this
  · omega
theorem SaS.refl (f : Nat → Int) (a b : Nat) : SaS f f a b := ⟨fun x h1 h2 => ⟨x, h1, h2, rfl⟩, fun x h1 h2 => ⟨x, h1, h2, rfl⟩⟩
theorem SaS.trans {f g k : Nat → Int} {a b : Nat} (h1 : SaS f g a b) (h2 : SaS g k a b) : SaS f k a b :=
  ⟨fun x p q => by obtain ⟨y, a1, a2, a3⟩ := h1.1 x p q; obtain ⟨z, b1, b2, b3⟩ := h2.1 y a1 a2; exact ⟨z, b1, b2, a3.trans b3⟩,
   fun x p q => by obtain ⟨y, a1, a2, a3⟩ := h2.2 x p q; obtain ⟨z, b1, b2, b3⟩ := h1.2 y a1 a2; exact ⟨z, b1, b2, a3.trans b3⟩⟩
theorem SaS.sw2 {f : Nat → Int} {a b i j : Nat} (hi : a ≤ i ∧ i < b) (hj : a ≤ j ∧ j < b) : SaS f (sw2 f i j) a b := by
  have key : ∀ x, Go.Proofs.Ytfbmkepogcimlaa.sw2 f i j (if x = i then j else if x = j then i else x) = f x := fun x => by
    unfold Go.Proofs.Ytfbmkepogcimlaa.sw2
    repeat' split
    all_goals first | (congr 1; omega) | (exfalso; omega) | rfl
  refine ⟨fun x p q => ⟨if x = i then j else if x = j then i else x, ?_, ?_, (key x).symm⟩, fun x p q => ⟨if x = i then j else if x = j then i else x, ?_, ?_, ?_⟩⟩
  · repeat' split
    all_goals omega
  · repeat' split
    all_goals omega
  · repeat' split
    all_goals omega
  · repeat' split
    all_goals omega
  · unfold Go.Proofs.Ytfbmkepogcimlaa.sw2
    repeat' split
    all_goals first | (congr 1; omega) | (exfalso; omega) | rfl
theorem SaS.rot {f : Nat → Int} {a m b : Nat} (h1 : a ≤ m) (h2 : m ≤ b) : SaS f (rotF f a m b) a b := by
  refine ⟨fun x p q => ?_, fun x p q => ?_⟩
  · by_cases h : x < m
    · refine ⟨x + (b - m), by omega, by omega, ?_⟩
      simp only [rotF]; rw [if_neg (by omega), if_pos (by omega)]; congr 1; omega
    · refine ⟨x - m + a, by omega, by omega, ?_⟩
      simp only [rotF]; rw [if_pos (by omega)]; congr 1; omega
  · simp only [rotF]
    split
    · exact ⟨x - a + m, by omega, by omega, rfl⟩
    · rw [if_pos (by omega)]; exact ⟨x - (b - m), by omega, by omega, rfl⟩
theorem SaS.widen {f g : Nat → Int} {a b c d : Nat} (h : SaS f g a b) (hc : c ≤ a) (hd : b ≤ d) (hab : a ≤ b) (ho : ∀ x, x < a ∨ b ≤ x → g x = f x) : SaS f g c d := by
  refine ⟨fun x p q => ?_, fun x p q => ?_⟩
  · by_cases hx : a ≤ x ∧ x < b
    · obtain ⟨y, h1, h2, h3⟩ := h.1 x hx.1 hx.2; exact ⟨y, by omega, by omega, h3⟩
    · exact ⟨x, p, q, (ho x (by omega)).symm⟩
  · by_cases hx : a ≤ x ∧ x < b
    · obtain ⟨y, h1, h2, h3⟩ := h.2 x hx.1 hx.2; exact ⟨y, by omega, by omega, h3⟩
    · exact ⟨x, p, q, ho x (by omega)⟩
theorem SaS.join {f g : Nat → Int} {a m b : Nat} (h1 : SaS f g a m) (h2 : SaS f g m b) (ha : a ≤ m) (hb : m ≤ b) : SaS f g a b := by
  refine ⟨fun x p q => ?_, fun x p q => ?_⟩
  · by_cases hx : x < m
    · obtain ⟨y, q1, q2, q3⟩ := h1.1 x p hx; exact ⟨y, q1, by omega, q3⟩
    · obtain ⟨y, q1, q2, q3⟩ := h2.1 x (by omega) q; exact ⟨y, by omega, q2, q3⟩
  · by_cases hx : x < m
    · obtain ⟨y, q1, q2, q3⟩ := h1.2 x p hx; exact ⟨y, q1, by omega, q3⟩
    · obtain ⟨y, q1, q2, q3⟩ := h2.2 x (by omega) q; exact ⟨y, by omega, q2, q3⟩
/-! #### the rows of an insertion -/
/-- The element at j goes to the front; all others are in order, and those behind it come behind it. -/
structure InsI (lt : Int → Int → Bool) (f g : Nat → Int) (a i j : Nat) : Prop where
  so : ∀ x y, a ≤ x → x < y → y ≤ i → x ≠ j → y ≠ j → RR lt (g x) (g y)
  be : ∀ y, j < y → y ≤ i → RR lt (g j) (g y)
  nu : ∀ x, a ≤ x → x ≤ i → x ≠ j → g x < g j
  sa : SaS f g a (i + 1)
  out : ∀ x, x < a ∨ i < x → g x = f x
theorem InsI.start {f : Nat → Int} {a i : Nat} (h : SoR lt f a i) (hu : ∀ x, a ≤ x → x < i → f x < f i) : InsI lt f f a i i :=
  ⟨fun x y h1 h2 h3 h4 h5 => h x y h1 h2 (by omega), fun y h1 h2 => by omega, fun x h1 h2 h3 => hu x h1 (by omega), SaS.refl _ _ _, fun _ _ => rfl⟩
theorem InsI.step {f g : Nat → Int} {a i j : Nat} (h : InsI lt f g a i j) (hj : a < j) (hji : j ≤ i) (hl : lt (g j) (g (j - 1)) = true) : InsI lt f (sw2 g j (j - 1)) a i (j - 1) := by
  have e1 : sw2 g j (j - 1) (j - 1) = g j := by unfold sw2; rw [if_neg (by omega), if_pos rfl]
  have e2 : sw2 g j (j - 1) j = g (j - 1) := by unfold sw2; rw [if_pos rfl]
  have e3 : ∀ x, x ≠ j → x ≠ j - 1 → sw2 g j (j - 1) x = g x := fun x h1 h2 => by unfold sw2; rw [if_neg h1, if_neg h2]
  refine ⟨fun x y h1 h2 h3 h4 h5 => ?_, fun y h1 h2 => ?_, fun x h1 h2 h3 => ?_, h.sa.trans (SaS.sw2 ⟨by omega, by omega⟩ ⟨by omega, by omega⟩), fun x hx => ?_⟩
  · by_cases hx : x = j
    · subst hx; rw [e2, e3 y (by omega) h5]; exact h.so _ _ (by omega) (by omega) h3 (by omega) (by omega)
    · by_cases hy : y = j
      · subst hy; rw [e2, e3 x hx h4]; exact h.so _ _ h1 (by omega) (by omega) hx (by omega)
      · rw [e3 x hx h4, e3 y hy h5]; exact h.so _ _ h1 h2 h3 hx hy
  · rw [e1]
    by_cases hy : y = j
    · subst hy; rw [e2]; exact .inl hl
    · rw [e3 y hy (by omega)]; exact h.be y (by omega) h2
  · rw [e1]
    by_cases hx : x = j
    · subst hx; rw [e2]; exact h.nu _ (by omega) (by omega) (by omega)
    · rw [e3 x hx h3]; exact h.nu x h1 h2 hx
  · rw [e3 x (by omega) (by omega)]; exact h.out x hx
theorem InsI.stop {f g : Nat → Int} {a i j : Nat} (hw : Swo lt) (h : InsI lt f g a i j) (haj : a ≤ j) (hji : j ≤ i) (hl : j = a ∨ lt (g j) (g (j - 1)) = false) : SoR lt g a (i + 1) := by
  intro x y h1 h2 h3
  by_cases hy : y = j
  · subst hy
    rcases hl with hl | hl
    · omega
    · have h4 : RR lt (g (y - 1)) (g y) := .inr ⟨hl, h.nu _ (by omega) (by omega) (by omega)⟩
      by_cases hx : x = y - 1
      · subst hx; exact h4
      · exact RR.trans hw (h.so x (y - 1) h1 (by omega) (by omega) (by omega) (by omega)) h4
  · by_cases hx : x = j
    · subst hx; exact h.be y h2 (by omega)
    · exact h.so x y h1 h2 (by omega) hx hy
/-- A part that was sorted. -/
structure Blo (lt : Int → Int → Bool) (f g : Nat → Int) (a b : Nat) : Prop where
  so : SoR lt g a b
  sa : SaS f g a b
  out : ∀ x, x < a ∨ b ≤ x → g x = f x
/-- Both halves are sorted; the numbers of the left one are smaller. -/
structure MrgI (lt : Int → Int → Bool) (f : Nat → Int) (a m b : Nat) : Prop where
  l : SoR lt f a m
  r : SoR lt f m b
  nu : ∀ x y, a ≤ x → x < m → m ≤ y → y < b → f x < f y
theorem MrgI.cross {f : Nat → Int} {a m b x y : Nat} (h : MrgI lt f a m b) (h1 : a ≤ x) (h2 : x < m) (h3 : m ≤ y) (h4 : y < b) : (lt (f y) (f x) = false → RR lt (f x) (f y)) ∧ (lt (f y) (f x) = true → RR lt (f y) (f x)) :=
  ⟨fun hl => .inr ⟨hl, h.nu x y h1 h2 h3 h4⟩, fun hl => .inl hl⟩
/-- One element on the left: it moves behind those that are less. -/
def mvR (f : Nat → Int) (a k : Nat) : Nat → Int := fun x => if a ≤ x ∧ x < k then f (x + 1) else if x = k then f a else f x
def mvL (f : Nat → Int) (k b : Nat) : Nat → Int := fun x => if x = k then f b else if k < x ∧ x ≤ b then f (x - 1) else f x
theorem mvR_start (f : Nat → Int) (a : Nat) : mvR f a a = f := by
  funext x; unfold mvR; rw [if_neg (by omega)]; split
  · rename_i h; rw [h]
  · rfl
theorem mvR_step {f : Nat → Int} {a k : Nat} (h : a ≤ k) : sw2 (mvR f a k) k (k + 1) = mvR f a (k + 1) := by
  funext x
  simp only [sw2, mvR]
  repeat' split
  all_goals first | (exfalso; omega) | (congr 1; omega) | rfl | exact absurd trivial (by assumption)
theorem mvL_start (f : Nat → Int) (b : Nat) : mvL f b b = f := by
  funext x; unfold mvL; split
  · rename_i h; rw [h]
  · rw [if_neg (by omega)]
theorem mvL_step {f : Nat → Int} {k b : Nat} (h : k < b + 1) (h0 : 0 < k) : sw2 (mvL f k b) k (k - 1) = mvL f (k - 1) b := by
  funext x
  simp only [sw2, mvL]
  repeat' split
  all_goals first | (exfalso; omega) | (congr 1; omega) | rfl | exact absurd trivial (by assumption)
theorem mvR_blo {f : Nat → Int} {a b i : Nat} (hw : Swo lt) (h : MrgI lt f a (a + 1) b) (hi : a + 1 ≤ i) (hib : i ≤ b) (h1 : ∀ x, a + 1 ≤ x → x < i → lt (f x) (f a) = true) (h2 : ∀ x, i ≤ x → x < b → lt (f x) (f a) = false) : Blo lt f (mvR f a (i - 1)) a b := by
  refine ⟨fun x y p q r => ?_, ⟨fun x p q => ?_, fun x p q => ?_⟩, fun x hx => ?_⟩
  · have c1 : ∀ z, a + 1 ≤ z → z < i → RR lt (f z) (f a) := fun z z1 z2 => .inl (h1 z z1 z2)
    have c2 : ∀ z, i ≤ z → z < b → RR lt (f a) (f z) := fun z z1 z2 => (h.cross (Nat.le_refl _) (by omega) (by omega) z2).1 (h2 z z1 z2)
    unfold mvR
    by_cases hx : x < i - 1
    · rw [if_pos (by omega)]
      by_cases hy : y < i - 1
      · rw [if_pos (by omega)]; exact h.r _ _ (by omega) (by omega) (by omega)
      · rw [if_neg (by omega)]
        by_cases hy2 : y = i - 1
        · rw [if_pos hy2]; exact c1 _ (by omega) (by omega)
        · rw [if_neg hy2]; exact h.r _ _ (by omega) (by omega) (by omega)
    · rw [if_neg (by omega), if_neg (show ¬(a ≤ y ∧ y < i - 1) by omega), if_neg (show ¬y = i - 1 by omega)]
      by_cases hx2 : x = i - 1
      · rw [if_pos hx2]; exact c2 _ (by omega) (by omega)
      · rw [if_neg hx2]; exact h.r _ _ (by omega) (by omega) (by omega)
  · unfold mvR
    by_cases hx : x = a
    · exact ⟨i - 1, by omega, by omega, by rw [if_neg (by omega), if_pos rfl, hx]⟩
    · by_cases hx2 : x < i
      · exact ⟨x - 1, by omega, by omega, by rw [if_pos (by omega)]; congr 1; omega⟩
      · exact ⟨x, by omega, by omega, by rw [if_neg (by omega), if_neg (by omega)]⟩
  · unfold mvR
    split
    · exact ⟨x + 1, by omega, by omega, rfl⟩
    · split
      · exact ⟨a, by omega, by omega, rfl⟩
      · exact ⟨x, p, q, rfl⟩
  · unfold mvR; rw [if_neg (by omega), if_neg (by omega)]
theorem mvL_blo {f : Nat → Int} {a m i : Nat} (hw : Swo lt) (h : MrgI lt f a m (m + 1)) (hi : a ≤ i) (him : i ≤ m) (h1 : ∀ x, a ≤ x → x < i → lt (f m) (f x) = false) (h2 : ∀ x, i ≤ x → x < m → lt (f m) (f x) = true) : Blo lt f (mvL f i m) a (m + 1) := by
  refine ⟨fun x y p q r => ?_, ⟨fun x p q => ?_, fun x p q => ?_⟩, fun x hx => ?_⟩
  · have c1 : ∀ z, a ≤ z → z < i → RR lt (f z) (f m) := fun z z1 z2 => (h.cross z1 (by omega) (Nat.le_refl _) (by omega)).1 (h1 z z1 z2)
    have c2 : ∀ z, i ≤ z → z < m → RR lt (f m) (f z) := fun z z1 z2 => .inl (h2 z z1 z2)
    unfold mvL
    by_cases hx : x < i
    · rw [if_neg (by omega), if_neg (show ¬(i < x ∧ x ≤ m) by omega)]
      by_cases hy : y = i
      · rw [if_pos hy]; exact c1 _ p hx
      · rw [if_neg hy]
        by_cases hy2 : i < y ∧ y ≤ m
        · rw [if_pos hy2]; exact h.l _ _ p (by omega) (by omega)
        · rw [if_neg hy2]; exact h.l _ _ p q (by omega)
    · rw [if_neg (show ¬y = i by omega), if_pos (show i < y ∧ y ≤ m by omega)]
      by_cases hx2 : x = i
      · rw [if_pos hx2]; exact c2 _ (by omega) (by omega)
      · rw [if_neg hx2, if_pos (by omega)]; exact h.l _ _ (by omega) (by omega) (by omega)
  · unfold mvL
    by_cases hx : x = m
    · exact ⟨i, by omega, by omega, by rw [if_pos rfl, hx]⟩
    · by_cases hx2 : i ≤ x
      · exact ⟨x + 1, by omega, by omega, by rw [if_neg (by omega), if_pos (by omega)]; congr 1⟩
      · exact ⟨x, by omega, by omega, by rw [if_neg (by omega), if_neg (by omega)]⟩
  · unfold mvL
    split
    · exact ⟨m, by omega, by omega, rfl⟩
    · split
      · exact ⟨x - 1, by omega, by omega, rfl⟩
      · exact ⟨x, p, q, rfl⟩
  · unfold mvL; rw [if_neg (by omega), if_neg (by omega)]
/-- What the search for the place to turn finds. -/
structure Turn (lt : Int → Int → Bool) (f : Nat → Int) (a m b mid s e : Nat) : Prop where
  sz : s + e = mid + m
  rg : a ≤ s ∧ s ≤ m ∧ m ≤ e ∧ e ≤ b
  lo : a < s → e < b → lt (f e) (f (s - 1)) = false
  hi : s < m → m < e → lt (f (e - 1)) (f s) = true
theorem turn_parts {f : Nat → Int} {a m b mid s e : Nat} (hw : Swo lt) (h : MrgI lt f a m b) (ht : Turn lt f a m b mid s e) (hm : a ≤ mid ∧ mid ≤ b) :
    MrgI lt (rotF f s m e) a s mid ∧ MrgI lt (rotF f s m e) mid e b ∧ ∀ x y, a ≤ x → x < mid → mid ≤ y → y < b → RR lt (rotF f s m e x) (rotF f s m e y) := by
  obtain ⟨sz, ⟨r1, r2, r3, r4⟩, lo, hi⟩ := ht
  have a1 : ∀ x, x < s → rotF f s m e x = f x := fun x hx => by simp only [rotF]; rw [if_neg (by omega), if_neg (by omega)]
  have a2 : ∀ x, s ≤ x → x < mid → rotF f s m e x = f (x - s + m) := fun x h1 h2 => by simp only [rotF]; rw [if_pos (by omega)]
  have a3 : ∀ x, mid ≤ x → x < e → rotF f s m e x = f (x - (e - m)) := fun x h1 h2 => by simp only [rotF]; rw [if_neg (by omega), if_pos (by omega)]
  have a4 : ∀ x, e ≤ x → rotF f s m e x = f x := fun x hx => by simp only [rotF]; rw [if_neg (by omega), if_neg (by omega)]
  -- the four quarters
  have lr : ∀ x y, a ≤ x → x < s → e ≤ y → y < b → RR lt (f x) (f y) := fun x y h1 h2 h3 h4 => by
    have h5 := (h.cross (x := s - 1) (y := e) (by omega) (by omega) (by omega) (by omega)).1 (lo (by omega) (by omega))
    have h6 : RR lt (f x) (f e) := by
      by_cases hx : x = s - 1
      · subst hx; exact h5
      · exact RR.trans hw (h.l x (s - 1) h1 (by omega) (by omega)) h5
    by_cases hy : y = e
    · subst hy; exact h6
    · exact RR.trans hw h6 (h.r e y (by omega) (by omega) h4)
  have rl : ∀ x y, m ≤ x → x < e → s ≤ y → y < m → RR lt (f x) (f y) := fun x y h1 h2 h3 h4 => by
    have h5 : RR lt (f (e - 1)) (f s) := .inl (hi (by omega) (by omega))
    have h6 : RR lt (f x) (f s) := by
      by_cases hx : x = e - 1
      · subst hx; exact h5
      · exact RR.trans hw (h.r x (e - 1) h1 (by omega) (by omega)) h5
    by_cases hy : y = s
    · subst hy; exact h6
    · exact RR.trans hw h6 (h.l s y (by omega) (by omega) h4)
  refine ⟨⟨fun x y h1 h2 h3 => ?_, fun x y h1 h2 h3 => ?_, fun x y h1 h2 h3 h4 => ?_⟩, ⟨fun x y h1 h2 h3 => ?_, fun x y h1 h2 h3 => ?_, fun x y h1 h2 h3 h4 => ?_⟩, fun x y h1 h2 h3 h4 => ?_⟩
  · rw [a1 x (by omega), a1 y (by omega)]; exact h.l x y h1 h2 (by omega)
  · rw [a2 x h1 (by omega), a2 y (by omega) h3]; exact h.r _ _ (by omega) (by omega) (by omega)
  · rw [a1 x h2, a2 y h3 h4]; exact h.nu _ _ h1 (by omega) (by omega) (by omega)
  · rw [a3 x h1 (by omega), a3 y (by omega) h3]; exact h.l _ _ (by omega) (by omega) (by omega)
  · rw [a4 x h1, a4 y (by omega)]; exact h.r _ _ (by omega) (by omega) (by omega)
  · rw [a3 x h1 h2, a4 y h3]; exact h.nu _ _ (by omega) (by omega) (by omega) (by omega)
  · by_cases hx : x < s
    · rw [a1 x hx]
      by_cases hy : y < e
      · rw [a3 y h3 hy]; exact h.l _ _ h1 (by omega) (by omega)
      · rw [a4 y (by omega)]; exact lr x y h1 hx (by omega) h4
    · rw [a2 x (by omega) h2]
      by_cases hy : y < e
      · rw [a3 y h3 hy]; exact rl _ _ (by omega) (by omega) (by omega) (by omega)
      · rw [a4 y (by omega)]; exact h.r _ _ (by omega) (by omega) (by omega)
theorem Blo.one {f : Nat → Int} {a b : Nat} (h : SoR lt f a b) : Blo lt f f a b := ⟨h, SaS.refl _ _ _, fun _ _ => rfl⟩
/-- Both halves, sorted one by one. -/
theorem turn_blo {f g k : Nat → Int} {a m b mid s e : Nat} (hw : Swo lt) (h : MrgI lt f a m b) (ht : Turn lt f a m b mid s e) (hm : a ≤ mid ∧ mid ≤ b) (h1 : Blo lt (rotF f s m e) g a mid) (h2 : Blo lt g k mid b) : Blo lt f k a b := by
  obtain ⟨_, _, hx⟩ := turn_parts hw h ht hm
  have hr : SaS f (rotF f s m e) a b := (SaS.rot (f := f) ht.rg.2.1 ht.rg.2.2.1).widen (by have := ht.rg; omega) (by have := ht.rg; omega) (by have := ht.rg; omega) (fun x hx => by simp only [rotF]; rw [if_neg (by have := ht.sz; have := ht.rg; omega), if_neg (by have := ht.sz; have := ht.rg; omega)])
  have hg := h1.sa.widen (c := a) (d := b) (Nat.le_refl _) hm.2 hm.1 h1.out
  have hk := h2.sa.widen (c := a) (d := b) hm.1 (Nat.le_refl _) hm.2 h2.out
  refine ⟨fun x y p q r => ?_, hr.trans (hg.trans hk), fun x hx' => ?_⟩
  · by_cases hy : y < mid
    · rw [h2.out x (by omega), h2.out y (by omega)]; exact h1.so x y p q hy
    · by_cases hxm : mid ≤ x
      · exact h2.so x y hxm q r
      · rw [h2.out x (by omega)]
        obtain ⟨x', p1, p2, p3⟩ := h1.sa.2 x p (by omega)
        obtain ⟨y', q1, q2, q3⟩ := h2.sa.2 y (by omega) r
        rw [p3, q3, h1.out y' (by omega)]
        exact hx x' y' p1 p2 q1 q2
  · rw [h2.out x (by omega), h1.out x (by omega)]
    have := ht.rg
    simp only [rotF]; rw [if_neg (by have := ht.sz; omega), if_neg (by have := ht.sz; omega)]
end
/-- Two lists in one order, with the same elements, are one. -/
theorem sorted_one {R : Int → Int → Prop} (hi : ∀ x, ¬R x x) (ht : ∀ x y z, R x y → R y z → R x z) : ∀ (l k : List Int), l.Pairwise R → k.Pairwise R → (∀ x, x ∈ l ↔ x ∈ k) → l = k
  | [], [], _, _, _ => rfl
  | [], y :: k, _, _, h => by have := (h y).2 (by simp); simp at this
  | x :: l, [], _, _, h => by have := (h x).1 (by simp); simp at this
  | x :: l, y :: k, h1, h2, h => by
    rw [List.pairwise_cons] at h1 h2
    have hxy : x = y := by
      rcases List.mem_cons.1 ((h x).1 (by simp)) with h3 | h3
      · exact h3
      · rcases List.mem_cons.1 ((h y).2 (by simp)) with h4 | h4
        · exact h4.symm
        · exact absurd (ht _ _ _ (h1.1 y h4) (h2.1 x h3)) (hi x)
    subst hxy
    congr 1
    refine sorted_one hi ht l k h1.2 h2.2 fun z => ⟨fun hz => ?_, fun hz => ?_⟩
    · rcases List.mem_cons.1 ((h z).1 (by simp [hz])) with h3 | h3
      · subst h3; exact absurd (h1.1 z hz) (hi z)
      · exact h3
    · rcases List.mem_cons.1 ((h z).2 (by simp [hz])) with h3 | h3
      · subst h3; exact absurd (h2.1 z hz) (hi z)
      · exact h3
end Go.Proofs.Ytfbmkepogcimlaa

/-
  Crossings in the order of their parts: plain part.
-/


namespace Go.Proofs.Ytfbmkepogcimlaa
set_option linter.unusedVariables false
set_option linter.unusedSimpArgs false
def gPart (gs : List GateR) (p q : SmpR) (i : Int) : PartR := match gs[i.toNat]? with | some g => partOf g p q | none => ⟨0, 0⟩
def posI (n : Int) : Int := if n ≤ 0 then 1 else n
theorem posI_pos (n : Int) : 0 < posI n := by unfold posI; split <;> omega
theorem posI_eq {n : Int} (h : 0 < n) : posI n = n := by unfold posI; rw [if_neg (by omega)]
def ltG (gs : List GateR) (p q : SmpR) (i k : Int) : Bool := decide ((gPart gs p q i).num * posI (gPart gs p q k).den < (gPart gs p q k).num * posI (gPart gs p q i).den)
theorem frac_lt {a b c d e f : Int} (hb : 0 < b) (hd : 0 < d) (hf : 0 < f) (h1 : a * d < c * b) (h2 : c * f < e * d) : a * f < e * b := by
  have h3 := Int.mul_lt_mul_of_pos_right h1 hf
  have h4 := Int.mul_lt_mul_of_pos_right h2 hb
  rw [Int.mul_right_comm c f b] at h4
  have h5 : a * f * d < e * b * d := by
    rw [Int.mul_right_comm a f d, Int.mul_right_comm e b d]; omega
  exact Int.lt_of_mul_lt_mul_right h5 (Int.le_of_lt hd)
theorem frac_le {a b c d e f : Int} (hb : 0 < b) (hd : 0 < d) (hf : 0 < f) (h1 : a * d ≤ c * b) (h2 : c * f ≤ e * d) : a * f ≤ e * b := by
  have h3 := Int.mul_le_mul_of_nonneg_right h1 (Int.le_of_lt hf)
  have h4 := Int.mul_le_mul_of_nonneg_right h2 (Int.le_of_lt hb)
  rw [Int.mul_right_comm c f b] at h4
  have h5 : a * f * d ≤ e * b * d := by
    rw [Int.mul_right_comm a f d, Int.mul_right_comm e b d]; omega
  exact Int.le_of_mul_le_mul_right h5 hd
theorem ltG_swo (gs : List GateR) (p q : SmpR) : Swo (ltG gs p q) := by
  refine ⟨fun x y h => ?_, fun x y z h1 h2 => ?_, fun x y z h1 h2 => ?_⟩
  · unfold ltG at h ⊢
    rw [decide_eq_true_eq] at h
    rw [decide_eq_false_iff_not]
    omega
  · unfold ltG at h1 h2 ⊢
    rw [decide_eq_true_eq] at h1 h2 ⊢
    exact frac_lt (posI_pos _) (posI_pos _) (posI_pos _) h1 h2
  · unfold ltG at h1 h2 ⊢
    rw [decide_eq_false_iff_not] at h1 h2 ⊢
    have := frac_le (posI_pos (gPart gs p q z).den) (posI_pos (gPart gs p q y).den) (posI_pos (gPart gs p q x).den) (Int.not_lt.1 h2) (Int.not_lt.1 h1)
    omega
section
variable (lt : Int → Int → Bool)
def insR (x : Int) : List Int → List Int
  | [] => [x]
  | y :: l => if lt x y || (!lt y x && decide (x < y)) then x :: y :: l else y :: insR x l
def isR : List Int → List Int
  | [] => []
  | x :: l => insR lt x (isR l)
variable {lt}
theorem mem_insR {x z : Int} : ∀ {l : List Int}, z ∈ insR lt x l ↔ z = x ∨ z ∈ l
  | [] => by simp [insR]
  | y :: l => by
    unfold insR; split
    · simp
    · rw [List.mem_cons, mem_insR (l := l), List.mem_cons]
      constructor
      · rintro (h | h | h)
        · exact .inr (.inl h)
        · exact .inl h
        · exact .inr (.inr h)
      · rintro (h | h | h)
        · exact .inr (.inl h)
        · exact .inl h
        · exact .inr (.inr h)
theorem pair_insR (hw : Swo lt) {x : Int} : ∀ {l : List Int}, l.Pairwise (RR lt) → x ∉ l → (insR lt x l).Pairwise (RR lt)
  | [], _, _ => by simp [insR]
  | y :: l, h, hx => by
    unfold insR
    rw [List.pairwise_cons] at h
    split
    · rename_i hc
      have hr : RR lt x y := by
        rw [Bool.or_eq_true, Bool.and_eq_true, Bool.not_eq_true', decide_eq_true_eq] at hc
        exact hc
      refine List.pairwise_cons.2 ⟨fun z hz => ?_, List.pairwise_cons.2 h⟩
      rcases List.mem_cons.1 hz with rfl | hz
      · exact hr
      · exact hr.trans hw (h.1 z hz)
    · rename_i hc
      have hr : RR lt y x := by
        rw [Bool.or_eq_true, Bool.and_eq_true, Bool.not_eq_true', decide_eq_true_eq] at hc
        unfold RR
        cases h1 : lt y x with
        | true => exact .inl rfl
        | false =>
          cases h2 : lt x y with
          | true => exact absurd (.inl h2) hc
          | false =>
            refine .inr ⟨rfl, ?_⟩
            have : x ≠ y := fun e => hx (by rw [e]; simp)
            have : ¬x < y := fun h3 => hc (.inr ⟨h1, h3⟩)
            omega
      refine List.pairwise_cons.2 ⟨fun z hz => ?_, pair_insR hw h.2 fun hm => hx (List.mem_cons_of_mem _ hm)⟩
      rcases mem_insR.1 hz with rfl | hz
      · exact hr
      · exact h.1 z hz
theorem mem_isR {z : Int} : ∀ {l : List Int}, z ∈ isR lt l ↔ z ∈ l
  | [] => by simp [isR]
  | x :: l => by rw [isR, mem_insR, mem_isR, List.mem_cons]
theorem pair_isR (hw : Swo lt) : ∀ {l : List Int}, l.Nodup → (isR lt l).Pairwise (RR lt)
  | [], _ => by simp [isR]
  | x :: l, h => by
    rw [List.nodup_cons] at h
    rw [isR]
    exact pair_insR hw (pair_isR hw h.2) fun hm => h.1 (mem_isR.1 hm)
theorem len_insR {x : Int} : ∀ {l : List Int}, (insR lt x l).length = l.length + 1
  | [] => rfl
  | y :: l => by
    unfold insR; split
    · simp
    · rw [List.length_cons, len_insR, List.length_cons]
theorem len_isR : ∀ {l : List Int}, (isR lt l).length = l.length
  | [] => rfl
  | x :: l => by rw [isR, len_insR, len_isR, List.length_cons]
end
theorem gIdx_up (gs : List GateR) (p q : SmpR) (k : Nat) : (gIdx gs p q k).Pairwise (· < ·) := by
  unfold gIdx
  rw [List.pairwise_map]
  exact (List.pairwise_lt_range.filter _).imp (fun h => by omega)
theorem up_nodup {l : List Int} (h : l.Pairwise (· < ·)) : l.Nodup := h.imp fun h => by omega
/-- The gates that a step crosses, in the order of their parts. -/
def gOrd (gs : List GateR) (p q : SmpR) (k : Nat) : List Int := isR (ltG gs p q) (gIdx gs p q k)
theorem gOrd_mem {gs : List GateR} {p q : SmpR} {k : Nat} {x : Int} : x ∈ gOrd gs p q k ↔ x ∈ gIdx gs p q k := mem_isR
theorem gOrd_pair (gs : List GateR) (p q : SmpR) (k : Nat) : (gOrd gs p q k).Pairwise (RR (ltG gs p q)) := pair_isR (ltG_swo gs p q) (up_nodup (gIdx_up gs p q k))
theorem gOrd_len (gs : List GateR) (p q : SmpR) (k : Nat) : (gOrd gs p q k).length = (gIdx gs p q k).length := len_isR
theorem gOrd_one {gs : List GateR} {p q : SmpR} {k : Nat} {l : List Int} (h : l.Pairwise (RR (ltG gs p q))) (hm : ∀ x, x ∈ l ↔ x ∈ gIdx gs p q k) : l = gOrd gs p q k :=
  sorted_one (fun x hx => RR.irr (ltG_swo gs p q) hx) (fun x y z => RR.trans (ltG_swo gs p q)) _ _ h (gOrd_pair gs p q k) fun x => (hm x).trans gOrd_mem.symm
theorem tab_mem {n : Nat} {f : Nat → Int} {x : Int} : x ∈ tab n f ↔ ∃ i, i < n ∧ f i = x := by simp [tab]
theorem tab_pair {lt : Int → Int → Bool} {n : Nat} {f : Nat → Int} (h : SoR lt f 0 n) : (tab n f).Pairwise (RR lt) := by
  unfold tab
  rw [List.pairwise_map]
  refine List.pairwise_iff_getElem.2 fun i j hi hj hij => ?_
  simp only [List.getElem_range]
  rw [List.length_range] at hj
  exact h i j (Nat.zero_le _) hij hj
theorem tab_of (l : List Int) : ∃ f : Nat → Int, l = tab l.length f ∧ ∀ (i : Nat) x, l[i]? = some x → f i = x := by
  refine ⟨fun i => l.getD i 0, ?_, fun i x h => by simp [List.getD, h]⟩
  apply List.ext_getElem (by simp)
  intro i h1 h2
  simp [tab, List.getD, h1]
theorem tab_snoc (n : Nat) (f : Nat → Int) (x : Int) : tab n f ++ [x] = tab (n + 1) fun i => if i < n then f i else x := by
  unfold tab
  rw [List.range_succ, List.map_append]
  congr 1
  · refine List.map_congr_left fun i hi => ?_
    rw [if_pos (List.mem_range.1 hi)]
  · simp
theorem SaS.mem {f g : Nat → Int} {n : Nat} (h : SaS f g 0 n) (x : Int) : x ∈ tab n f ↔ x ∈ tab n g := by
  rw [tab_mem, tab_mem]
  constructor
  · rintro ⟨i, hi, rfl⟩; obtain ⟨y, _, h2, h3⟩ := h.1 i (Nat.zero_le _) hi; exact ⟨y, h2, h3.symm⟩
  · rintro ⟨i, hi, rfl⟩; obtain ⟨y, _, h2, h3⟩ := h.2 i (Nat.zero_le _) hi; exact ⟨y, h2, h3.symm⟩
/-- The crossings of the first k steps. -/
def crossS (gs : List GateR) (st : List (SmpR × SmpR)) : Nat → List CrossR
  | 0 => []
  | k + 1 => crossS gs st k ++ (match st[k]? with | some x => (gOrd gs x.1 x.2 gs.length).map (crossOf gs x.1 x.2 k) | none => [])
theorem crossS_succ {gs : List GateR} {st : List (SmpR × SmpR)} {k : Nat} {x : SmpR × SmpR} (h : st[k]? = some x) : crossS gs st (k + 1) = crossS gs st k ++ (gOrd gs x.1 x.2 gs.length).map (crossOf gs x.1 x.2 k) := by rw [crossS, h]
theorem gPart_at {gs : List GateR} {p q : SmpR} {i : Nat} {g : GateR} (h : gs[i]? = some g) : gPart gs p q (i : Int) = partOf g p q := by unfold gPart; rw [Int.toNat_natCast, h]
end Go.Proofs.Ytfbmkepogcimlaa

/-
  Efforts: plain part.
-/

namespace Go.Proofs.Ytfbmkepogcimlaa
set_option linter.unusedVariables false
set_option linter.unusedSimpArgs false
def effStep (G : Nat) (s : List (List Int) × List Int) (c : CrossR) : List (List Int) × List Int :=
  if c.gate = 0 then (s.1, [c.at_])
  else if 0 < s.2.length ∧ (s.2.length : Int) = c.gate then (if s.2.length + 1 = G then (s.1 ++ [s.2 ++ [c.at_]], []) else (s.1, s.2 ++ [c.at_]))
  else s
def effN (G : Nat) (cs : List CrossR) : Nat → List (List Int) × List Int
  | 0 => ([], [])
  | k + 1 => match cs[k]? with | some c => effStep G (effN G cs k) c | none => effN G cs k
def effL (G : Nat) (cs : List CrossR) : List (List Int) := (effN G cs cs.length).1
theorem effN_succ {G : Nat} {cs : List CrossR} {k : Nat} {c : CrossR} (h : cs[k]? = some c) : effN G cs (k + 1) = effStep G (effN G cs k) c := by rw [effN, h]
theorem effN_a {G : Nat} {cs : List CrossR} {k : Nat} {c : CrossR} (h : cs[k]? = some c) (h1 : c.gate = 0) : effN G cs (k + 1) = ((effN G cs k).1, [c.at_]) := by rw [effN_succ h, effStep, if_pos h1]
theorem effN_b {G : Nat} {cs : List CrossR} {k : Nat} {c : CrossR} (h : cs[k]? = some c) (h1 : ¬c.gate = 0) (h2 : ¬(0 < (effN G cs k).2.length ∧ ((effN G cs k).2.length : Int) = c.gate)) : effN G cs (k + 1) = effN G cs k := by rw [effN_succ h, effStep, if_neg h1, if_neg h2]
theorem effN_c {G : Nat} {cs : List CrossR} {k : Nat} {c : CrossR} (h : cs[k]? = some c) (h1 : ¬c.gate = 0) (h2 : 0 < (effN G cs k).2.length ∧ ((effN G cs k).2.length : Int) = c.gate) (h3 : (effN G cs k).2.length + 1 = G) : effN G cs (k + 1) = ((effN G cs k).1 ++ [(effN G cs k).2 ++ [c.at_]], []) := by rw [effN_succ h, effStep, if_neg h1, if_pos h2, if_pos h3]
theorem effN_d {G : Nat} {cs : List CrossR} {k : Nat} {c : CrossR} (h : cs[k]? = some c) (h1 : ¬c.gate = 0) (h2 : 0 < (effN G cs k).2.length ∧ ((effN G cs k).2.length : Int) = c.gate) (h3 : ¬(effN G cs k).2.length + 1 = G) : effN G cs (k + 1) = ((effN G cs k).1, (effN G cs k).2 ++ [c.at_]) := by rw [effN_succ h, effStep, if_neg h1, if_pos h2, if_neg h3]
theorem effN_lt {G : Nat} (hG : 2 ≤ G) (cs : List CrossR) : ∀ k, (effN G cs k).2.length < G
  | 0 => by show 0 < G; omega
  | k + 1 => by
    have ih := effN_lt hG cs k
    cases h : cs[k]? with
    | none => rw [effN, h]; exact ih
    | some c =>
      rw [effN_succ h]
      unfold effStep
      split
      · show 1 < G; omega
      · split
        · split
          · show 0 < G; omega
          · rw [List.length_append]; simp only [List.length_cons, List.length_nil]; omega
        · exact ih
theorem effN_cnt (G : Nat) (cs : List CrossR) : ∀ k, (effN G cs k).1.length ≤ k
  | 0 => Nat.le_refl _
  | k + 1 => by
    have ih := effN_cnt G cs k
    cases h : cs[k]? with
    | none => rw [effN, h]; show (effN G cs k).1.length ≤ k + 1; omega
    | some c =>
      rw [effN_succ h]
      unfold effStep
      split
      · show (effN G cs k).1.length ≤ k + 1; omega
      · split
        · split
          · rw [List.length_append]; simp only [List.length_cons, List.length_nil]; omega
          · show (effN G cs k).1.length ≤ k + 1; omega
        · omega
theorem crossS_len (gs : List GateR) (st : List (SmpR × SmpR)) : ∀ k, (crossS gs st k).length ≤ gs.length * k
  | 0 => Nat.le_refl _
  | k + 1 => by
    have ih := crossS_len gs st k
    rw [crossS, List.length_append, Nat.mul_add, Nat.mul_one]
    cases h : st[k]? with
    | none => simp only [List.length_nil]; omega
    | some x =>
      dsimp only
      rw [List.length_map, gOrd_len]
      have := gIdx_len gs x.1 x.2 gs.length
      omega
end Go.Proofs.Ytfbmkepogcimlaa

/-
  Contracts of functions of package slices, at int.
-/


namespace Go.Proofs.Ytfbmkepogcimlaa
open Go Go.RowKit Hx
set_option linter.unusedVariables false
set_option linter.unusedSimpArgs false

theorem list_ne_of_get {α : Type} {xs ys : List α} {k : Nat} {x y : α} (hx : xs[k]? = some x) (hy : ys[k]? = some y) (h : x ≠ y) : xs ≠ ys := by
  intro e; subst e; rw [hx] at hy; exact h (by cases hy; rfl)
theorem equal_int (a b : Option Addr) (n m c1 c2 : Nat) (xs ys : List Int) (w : World) (hx : Rd encI w.heap.size w a n c1 xs) (hy : Rd encI w.heap.size w b m c2 ys) :
    Calls Try.prog 14 #[.slice a n c1, .slice b m c2] w fun e w' => e = .returned (.bool (decide (xs = ys))) ∧ Below w.heap.size w w' := by
  have hn := hx.len
  have hm := hy.len
  have hf := hx.fit
  refine enterQ (N := 26) (C := fun _ => True) (H := []) (B := w.heap.size) (args := [_, _]) Try.func14 rfl rfl rfl (Nat.le_refl _) (Sat.nil _ _) fun Q hQ => ?_
  refine wp_seq' fun K1 hK1 => ?_
  refine wp_reg ?_
  refine ol_r (r_assign rfl) rfl ?_
  refine ol_nil (to_k0 (fun _ _ h => h) (hK1 _ _ _ _ _ ?_))
  clear hK1
  refine wp_seq' fun K2 hK2 => ?_
  refine wp_seq' fun K3 hK3 => ?_
  refine wp_reg ?_
  refine ol_r (r_move rfl) rfl ?_
  refine ol_r (r_len rfl sl61) rfl ?_
  refine ol_r (r_move rfl) rfl ?_
  refine ol_r (r_len rfl sl61) rfl ?_
  refine ol_r (r_neq rfl rfl) rfl ?_
  refine ol_nil (to_k0 (fun _ _ h => h) (hK3 _ _ _ _ _ ?_))
  clear hK3
  first | refine wp_condD rfl (fun hc10 => ?_) (fun hc10 => ?_) | refine wp_condN rfl (fun hc10 => ?_) (fun hc10 => ?_) | refine wp_condNB rfl (fun hc10 => ?_) (fun hc10 => ?_) | refine wp_cond' rfl (fun hc10 => ?_) (fun hc10 => ?_)
  ·refine wp_seq' fun K4 hK4 => ?_
   refine wp_reg ?_
   refine ol_r (r_assign rfl) rfl ?_
   refine ol_nil (to_k0 (fun _ _ h => h) (hK4 _ _ _ _ _ ?_))
   clear hK4
   refine hQ.ret (rvs1 (rv_t rfl)) (fun _ _ h => h) fun w hb hs hB hkd => ?_
   exact ⟨by rw [decide_eq_false]; intro e; rw [e] at hn; omega, hb⟩
  ·refine wp_skip' (to_k0 (fun _ _ h => h) (hK2 _ _ _ _ _ ?_))
   clear hK2
   refine wp_seq' fun K5 hK5 => ?_
   refine wp_seq' fun K6 hK6 => ?_
   refine wp_reg ?_
   refine ol_r (r_move rfl) rfl ?_
   refine ol_r (r_len rfl sl61) rfl ?_
   refine ol_r (r_move rfl) rfl ?_
   refine ol_nil (to_k0 (fun _ _ h => h) (hK6 _ _ _ _ _ ?_))
   clear hK6
   refine wp_block' ?_
   apply wp_loopM (σ := Nat) (fun s => s ≤ n ∧ xs.take s = ys.take s) (fun s => [(13, .int .i64 s)]) [(0, _), (1, _), (12, _)] (fun s => []) [] (fun s => n - s) (0)
   ·try dsimp only
    simp
   ·exact (sub_cons rfl sub_nil)
   ·exact (sub_cons rfl (sub_cons rfl (sub_cons rfl sub_nil)))
   ·exact subH_nil
   ·exact subH_nil
   ·rintro k ⟨hk, hP⟩
    intro K7 hK7
    refine wp_seq' fun K8 hK8 => ?_
    refine wp_reg ?_
    refine ol_r (r_lss rfl rfl) rfl ?_
    refine ol_nil (to_k0 (fun _ _ h => h) (hK8 _ _ _ _ _ ?_))
    clear hK8
    refine wp_seq' fun K9 hK9 => ?_
    first | refine wp_condD rfl (fun hc14 => ?_) (fun hc14 => ?_) | refine wp_condN rfl (fun hc14 => ?_) (fun hc14 => ?_) | refine wp_condNB rfl (fun hc14 => ?_) (fun hc14 => ?_) | refine wp_cond' rfl (fun hc14 => ?_) (fun hc14 => ?_)
    ·refine wp_skip' (to_k0 (fun _ _ h => h) (hK9 _ _ _ _ _ ?_))
     clear hK9
     refine wp_seq' fun K10 hK10 => ?_
     refine wp_block' ?_
     refine wp_seq' fun K11 hK11 => ?_
     refine wp_reg ?_
     refine ol_r (r_move rfl) rfl ?_
     refine ol_r (r_assign rfl) rfl ?_
     refine ol_nil (to_k0 (fun _ _ h => h) (hK11 _ _ _ _ _ ?_))
     clear hK11
     refine wp_seq' fun K12 hK12 => ?_
     refine wp_regq (by kernel_rfl) (by kernel_rfl) ?_
     refine ql_r (r_move rfl) rfl ?_
     refine ql_r (r_move rfl) rfl ?_
     refine ql_ixr hx rfl rfl sl61 (by omega) rfl fun x18 hx18 => ?_
     try simp only [Int.toNat_natCast] at hx18
     refine ql_r (r_ldw rfl (fun w1 hb1 hs1 hB1 => show Loads _ _ _ _ (.int .i64 x18) from Rd.loads hx ty3 hx18 hb1)) rfl ?_
     refine ql_r (r_move rfl) rfl ?_
     refine ql_r (r_move rfl) rfl ?_
     refine ql_ixr hy rfl rfl sl61 (by omega) rfl fun x22 hx22 => ?_
     try simp only [Int.toNat_natCast] at hx22
     refine ql_r (r_ldw rfl (fun w1 hb1 hs1 hB1 => show Loads _ _ _ _ (.int .i64 x22) from Rd.loads hy ty3 hx22 hb1)) rfl ?_
     refine ql_r (r_neq rfl rfl) rfl ?_
     refine ql_nil (to_k0 (fun _ _ h => h) (hK12 _ _ _ _ _ ?_))
     clear hK12
     first | refine wp_condD rfl (fun hc24 => ?_) (fun hc24 => ?_) | refine wp_condN rfl (fun hc24 => ?_) (fun hc24 => ?_) | refine wp_condNB rfl (fun hc24 => ?_) (fun hc24 => ?_) | refine wp_cond' rfl (fun hc24 => ?_) (fun hc24 => ?_)
     ·refine wp_seq' fun K13 hK13 => ?_
      refine wp_reg ?_
      refine ol_r (r_assign rfl) rfl ?_
      refine ol_nil (to_k0 (fun _ _ h => h) (hK13 _ _ _ _ _ ?_))
      clear hK13
      refine hQ.ret (rvs1 (rv_t rfl)) (fun _ _ h => h) fun w hb hs hB hkd => ?_
      exact ⟨by rw [decide_eq_false (list_ne_of_get hx18 hx22 hc24)], hb⟩
     ·refine wp_skip' (to_k0 (fun _ _ h => h) (hK10 _ _ _ _ _ ?_))
      clear hK10
      refine wp_reg ?_
      refine ol_r (r_add rfl rfl (by omega)) rfl ?_
      refine ol_r (r_move rfl) rfl ?_
      refine ol_nil (to_k0 (fun _ _ h => h) (hK7 (k + 1) _ _ ?_ ?_ (sub_cons rfl sub_nil) (sub_cons rfl (sub_cons rfl (sub_cons rfl sub_nil))) (by exact subH_nil) subH_nil))
      ·try dsimp only
       exact ⟨by omega, by rw [take_succ_get hx18, take_succ_get hx22, hP, Decidable.not_not.1 hc24]⟩
      ·try dsimp only
       omega
    ·refine wp_exit' (to_k0 (fun _ _ h => h) (hK5 _ _ _ _ _ ?_))
     clear hK5
     refine wp_seq' fun K14 hK14 => ?_
     refine wp_reg ?_
     refine ol_r (r_assign rfl) rfl ?_
     refine ol_nil (to_k0 (fun _ _ h => h) (hK14 _ _ _ _ _ ?_))
     clear hK14
     refine hQ.ret (rvs1 (rv_t rfl)) (fun _ _ h => h) fun w hb hs hB hkd => ?_
     have h1 : xs.take k = xs := List.take_of_length_le (by omega)
     have h2 : ys.take k = ys := List.take_of_length_le (by omega)
     exact ⟨by rw [decide_eq_true (by rw [← h1, ← h2]; exact hP)], hb⟩


def maxV : List Int → Int
  | [] => 0
  | x :: r => r.foldl max x
theorem maxV_snoc {ys : List Int} {x : Int} (h : ys ≠ []) : maxV (ys ++ [x]) = max (maxV ys) x := by
  cases ys with
  | nil => exact absurd rfl h
  | cons y r => simp [maxV]
theorem foldl_max_ge : ∀ (r : List Int) (x : Int), x ≤ r.foldl max x
  | [], x => by simp
  | y :: r, x => by
    have := foldl_max_ge r (max x y)
    simp only [List.foldl_cons]; omega
theorem foldl_max_mem : ∀ (r : List Int) (x y : Int), y ∈ r → y ≤ r.foldl max x
  | z :: r, x, y, h => by
    simp only [List.foldl_cons]
    rcases List.mem_cons.1 h with rfl | h
    · have := foldl_max_ge r (max x y); omega
    · exact foldl_max_mem r _ y h
theorem foldl_max_in : ∀ (r : List Int) (x : Int), r.foldl max x = x ∨ r.foldl max x ∈ r
  | [], x => .inl rfl
  | y :: r, x => by
    simp only [List.foldl_cons]
    rcases foldl_max_in r (max x y) with h | h
    · rw [h]
      rcases Int.le_total x y with h1 | h1
      · rw [Int.max_eq_right h1]; exact .inr (by simp)
      · rw [Int.max_eq_left h1]; exact .inl rfl
    · exact .inr (by simp [h])
theorem maxV_ge {ys : List Int} {y : Int} (h : y ∈ ys) : y ≤ maxV ys := by
  cases ys with
  | nil => simp at h
  | cons x r =>
    rcases List.mem_cons.1 h with rfl | h
    · exact foldl_max_ge r y
    · exact foldl_max_mem r x y h
theorem maxV_mem {ys : List Int} (h : ys ≠ []) : maxV ys ∈ ys := by
  cases ys with
  | nil => exact absurd rfl h
  | cons x r =>
    rcases foldl_max_in r x with h1 | h1
    · show r.foldl max x ∈ _; rw [h1]; simp
    · exact List.mem_cons_of_mem _ h1


def idxI (ys : List Int) (v : Int) : Int := match ys.findIdx? (· == v) with | some i => i | none => -1
theorem idxI_at {ys : List Int} {v : Int} {k : Nat} (h : ys[k]? = some v) (h2 : ∀ y ∈ ys.take k, y ≠ v) : idxI ys v = k := by
  have : ys.findIdx? (· == v) = some k := by
    rw [List.findIdx?_eq_some_iff_getElem]
    have hk := (List.getElem?_eq_some_iff.1 h).1
    refine ⟨hk, by have := (List.getElem?_eq_some_iff.1 h).2; simp [this], fun j hj => ?_⟩
    have : ys[j]'(by omega) ∈ ys.take k := by
      rw [List.mem_take_iff_getElem]
      exact ⟨j, by omega, rfl⟩
    have := h2 _ this
    simpa using this
  simp [idxI, this]
theorem idxI_no {ys : List Int} {v : Int} (h2 : ∀ y ∈ ys, y ≠ v) : idxI ys v = -1 := by
  have : ys.findIdx? (· == v) = none := by
    rw [List.findIdx?_eq_none_iff]
    intro y hy
    simpa using h2 y hy
  simp [idxI, this]

end Go.Proofs.Ytfbmkepogcimlaa

/-
  The stable sort of Go's library, over a row of ints of the caller's: walked. (Printed by gen_stab.py.)
-/



namespace Go.Proofs.Ytfbmkepogcimlaa
open Go Go.RowKit Hx
set_option linter.unusedVariables false
set_option linter.unusedSimpArgs false
set_option maxRecDepth 8000
def ltC (cf : Int → Int → Int) (x y : Int) : Bool := decide (cf x y < 0)
theorem ltC_t {cf : Int → Int → Int} {x y : Int} (h : cf x y < 0) : ltC cf x y = true := decide_eq_true h
theorem ltC_f {cf : Int → Int → Int} {x y : Int} (h : ¬cf x y < 0) : ltC cf x y = false := decide_eq_false h
theorem tab_eq {n : Nat} {f : Nat → Int} {k : Nat} {x : Int} (h : (tab n f)[k]? = some x) : f k = x := (tab_get h).2.symm
theorem sw_row {n i j : Nat} {f : Nat → Int} {x y : Int} {u v : Int} (hu : u.toNat = i) (hv : v.toNat = j) (hx : ∃ k, k = j ∧ (tab n f)[k]? = some x) (hy : ∃ k, k = i ∧ (tab n f)[k]? = some y) : ((tab n f).set u.toNat x).set v.toNat y = tab n (sw2 f i j) := by
  obtain ⟨_, rfl, hx⟩ := hx
  obtain ⟨_, rfl, hy⟩ := hy
  have h1 := tab_get hx
  have h2 := tab_get hy
  rw [hu, hv, h1.2, h2.2]
  exact tab_sw2 f h2.1 h1.1
theorem r_subT {P : Program} {N : Fr} {B : Nat} {w0 : World} {al : AL} {H : HL} {ty : TypeId} {x y : Operand} {t t' : TypeId} {m l : Int} (v : Nat) (hx : ev al x = some (.int .i64 m)) (hy : ev al y = some (.int .i64 l)) (h : m - l = v) (hv : v ≤ 1000000000000) : Runs P N B w0 (.binOp .sub t x y t') ty al H (.int .i64 (v : Int)) := by
  have h2 := r_sub (P := P) (N := N) (B := B) (w0 := w0) (H := H) (ty := ty) (t := t) (t' := t') hx hy (by omega)
  rw [h] at h2; exact h2
theorem r_addT {P : Program} {N : Fr} {B : Nat} {w0 : World} {al : AL} {H : HL} {ty : TypeId} {x y : Operand} {t t' : TypeId} {m l : Int} (v : Nat) (hx : ev al x = some (.int .i64 m)) (hy : ev al y = some (.int .i64 l)) (h : m + l = v) (hv : v ≤ 1000000000000) : Runs P N B w0 (.binOp .add t x y t') ty al H (.int .i64 (v : Int)) := by
  have h2 := r_add (P := P) (N := N) (B := B) (w0 := w0) (H := H) (ty := ty) (t := t) (t' := t') hx hy (by omega)
  rw [h] at h2; exact h2
theorem r_mulT {P : Program} {N : Fr} {B : Nat} {w0 : World} {al : AL} {H : HL} {ty : TypeId} {x y : Operand} {t t' : TypeId} {m l : Int} (v : Nat) (hx : ev al x = some (.int .i64 m)) (hy : ev al y = some (.int .i64 l)) (h : m * l = v) (hv : v ≤ 1000000000000) : Runs P N B w0 (.binOp .mul t x y t') ty al H (.int .i64 (v : Int)) := by
  have h2 := r_mul (P := P) (N := N) (B := B) (w0 := w0) (H := H) (ty := ty) (t := t) (t' := t') hx hy (by omega)
  rw [h] at h2; exact h2
theorem rotF_id1 (f : Nat → Int) (m b : Nat) : rotF f m m b = f := by
  funext x
  simp only [rotF]
  repeat' split
  all_goals first | (exfalso; omega) | (congr 1; omega) | rfl
theorem rotF_id2 (f : Nat → Int) (a m : Nat) : rotF f a m m = f := by
  funext x
  simp only [rotF]
  repeat' split
  all_goals first | (exfalso; omega) | (congr 1; omega) | rfl
theorem RR.lt_left {lt : Int → Int → Bool} (hw : Swo lt) {x h p : Int} (h1 : RR lt x h) (h2 : lt h p = true) : lt x p = true := by
  rcases h1 with h1 | ⟨h1, _⟩
  · exact hw.trans _ _ _ h1 h2
  · cases h3 : lt x p with
    | true => rfl
    | false => have := hw.inc _ _ _ h1 h3; rw [h2] at this; cases this
theorem RR.lt_right {lt : Int → Int → Bool} (hw : Swo lt) {x h m : Int} (h1 : RR lt x h) (h2 : lt m x = true) : lt m h = true := by
  rcases h1 with h1 | ⟨h1, _⟩
  · exact hw.trans _ _ _ h2 h1
  · cases h3 : lt m h with
    | true => rfl
    | false => have := hw.inc _ _ _ h3 h1; rw [h2] at this; cases this
theorem good_of {Good : Int → Prop} {f g : Nat → Int} {n : Nat} (h : ∀ i, i < n → Good (f i)) (hs : SaS f g 0 n) : ∀ i, i < n → Good (g i) := fun i hi => by
  obtain ⟨y, _, h2, h3⟩ := hs.2 i (Nat.zero_le _) hi
  rw [h3]; exact h y h2
theorem Blo.all {lt : Int → Int → Bool} {f g : Nat → Int} {a b n : Nat} (h : Blo lt f g a b) (hab : a ≤ b) (hb : b ≤ n) : SaS f g 0 n := h.sa.widen (Nat.zero_le _) hb hab h.out
/-- Blocks of a size are sorted, each with what it held. -/
def Blks (lt : Int → Int → Bool) (f F : Nat → Int) (s n : Nat) : Prop := ∀ p, s ∣ p → p < n → SoR lt F p (min (p + s) n) ∧ SaS f F p (min (p + s) n)

theorem swapRange_w (cf : Int → Int → Int) (Good : Int → Prop) (B : Nat) (cb : Nat) (a : Option Addr) (n c : Nat) (e1 e2 e3 e4 e5 e6 e7 e8 e9 e10 : Ent) (f : Nat → Int) (p q m : Nat) (w : World) (hB : B ≤ w.heap.size) (hn : n ≤ 1000000) (h1 : p + m ≤ q) (h2 : q + m ≤ n) (hs : Sat B w [(5000, .row a n c (encI.enc (tab n f)) 3 1), (5001, e1), (5002, e2), (5003, e3), (5004, e4), (5005, e5), (5006, e6), (5007, e7), (5008, e8), (5009, e9), (5010, e10)]) :
    Calls Try.prog 148 #[.slice a n c, .int .i64 p, .int .i64 q, .int .i64 m, .func (.func 103) #[] #[.pointer (some ⟨cb, 0, none⟩)]] w fun e w' => ∃ g, e = .returned (.tuple #[]) ∧ Below B w w' ∧ Sat B w' [(5000, .row a n c (encI.enc (tab n g)) 3 1), (5001, e1), (5002, e2), (5003, e3), (5004, e4), (5005, e5), (5006, e6), (5007, e7), (5008, e8), (5009, e9), (5010, e10)] ∧ B ≤ w'.heap.size ∧ Kd (fun _ => False) w w' ∧ g = swF f p q m := by

  refine enterQ (N := 38) (C := fun _ => False) (H := [(5000, .row a n c (encI.enc (tab n f)) 3 1), (5001, e1), (5002, e2), (5003, e3), (5004, e4), (5005, e5), (5006, e6), (5007, e7), (5008, e8), (5009, e9), (5010, e10)]) (B := B) (args := [_, _, _, _, _]) Try.func148 rfl rfl rfl (hB) (hs) fun Q hQ => ?_
  refine wp_seq' fun K1 hK1 => ?_
  refine wp_reg ?_
  refine ol_r (r_assign rfl) rfl ?_
  refine ol_nil (to_k0 (fun _ _ h => h) (hK1 _ _ _ _ _ ?_))
  clear hK1
  refine wp_block' ?_
  apply wp_loopM (σ := Nat) (fun s => s ≤ m) (fun s => [(10, .int .i64 s)]) [(0, _), (1, _), (2, _), (3, _)] (fun s => [(5000, .row a n c (encI.enc (tab n (swF f p q s))) 3 1)]) [(5001, _), (5002, _), (5003, _), (5004, _), (5005, _), (5006, _), (5007, _), (5008, _), (5009, _), (5010, _)] (fun s => m - s) (0)
  ·try dsimp only
   exact Nat.zero_le _
  ·exact (sub_cons rfl sub_nil)
  ·exact (sub_cons rfl (sub_cons rfl (sub_cons rfl (sub_cons rfl sub_nil))))
  ·exact (subH_row rfl (by rw [swF_zero]) subH_nil)
  ·exact (subH_same rfl (subH_same rfl (subH_same rfl (subH_same rfl (subH_same rfl (subH_same rfl (subH_same rfl (subH_same rfl (subH_same rfl (subH_same rfl subH_nil))))))))))
  ·rintro k hk
   have hFl := tab_len n (swF f p q k)
   intro K2 hK2
   refine wp_seq' fun K3 hK3 => ?_
   refine wp_seq' fun K4 hK4 => ?_
   refine wp_reg ?_
   refine ol_r (r_move rfl) rfl ?_
   refine ol_r (r_move rfl) rfl ?_
   refine ol_r (r_lss rfl rfl) rfl ?_
   refine ol_nil (to_k0 (fun _ _ h => h) (hK4 _ _ _ _ _ ?_))
   clear hK4
   refine wp_condD rfl (fun hc13 => ?_) (fun hc13 => ?_)
   ·refine wp_skip' (to_k0 (fun _ _ h => h) (hK3 _ _ _ _ _ ?_))
    clear hK3
    refine wp_seq' fun K5 hK5 => ?_
    refine wp_block' ?_
    refine wp_rega [(999, [(5001, _), (5002, _), (5003, _), (5004, _), (5005, _), (5006, _), (5007, _), (5008, _), (5009, _), (5010, _)]), (21, [(5000, _)])] (by kernel_rfl) ⟨.inr (subH_same rfl (subH_same rfl (subH_same rfl (subH_same rfl (subH_same rfl (subH_same rfl (subH_same rfl (subH_same rfl (subH_same rfl (subH_same rfl subH_nil)))))))))), ⟨.inr (subH_same rfl subH_nil), trivial⟩⟩ ?_
    refine aq_r 0 999 rfl (by kernel_rfl) (by kernel_rfl) (by kernel_rfl) (.head _) (by kernel_rfl) (by kernel_rfl) rfl (r_move rfl) ?_
    refine aq_r 1 999 rfl (by kernel_rfl) (by kernel_rfl) (by kernel_rfl) (.head _) (by kernel_rfl) (by kernel_rfl) rfl (r_move rfl) ?_
    refine aq_r 2 999 rfl (by kernel_rfl) (by kernel_rfl) (by kernel_rfl) (.head _) (by kernel_rfl) (by kernel_rfl) rfl (r_move rfl) ?_
    refine aq_r 3 999 rfl (by kernel_rfl) (by kernel_rfl) (by kernel_rfl) (.head _) (by kernel_rfl) (by kernel_rfl) rfl (r_add rfl rfl (by omega)) ?_
    refine aq_r 4 999 rfl (by kernel_rfl) (by kernel_rfl) (by kernel_rfl) (.head _) (by kernel_rfl) (by kernel_rfl) rfl (r_move rfl) ?_
    refine aq_r 5 999 rfl (by kernel_rfl) (by kernel_rfl) (by kernel_rfl) (.head _) (by kernel_rfl) (by kernel_rfl) rfl (r_move rfl) ?_
    refine aq_r 6 999 rfl (by kernel_rfl) (by kernel_rfl) (by kernel_rfl) (.head _) (by kernel_rfl) (by kernel_rfl) rfl (r_move rfl) ?_
    refine aq_r 7 999 rfl (by kernel_rfl) (by kernel_rfl) (by kernel_rfl) (.head _) (by kernel_rfl) (by kernel_rfl) rfl (r_add rfl rfl (by omega)) ?_
    refine aq_r 8 999 rfl (by kernel_rfl) (by kernel_rfl) (by kernel_rfl) (.head _) (by kernel_rfl) (by kernel_rfl) rfl (r_move rfl) ?_
    refine aq_r 9 999 rfl (by kernel_rfl) (by kernel_rfl) (by kernel_rfl) (.head _) (by kernel_rfl) (by kernel_rfl) rfl (r_move rfl) ?_
    refine aq_r 10 999 rfl (by kernel_rfl) (by kernel_rfl) (by kernel_rfl) (.head _) (by kernel_rfl) (by kernel_rfl) rfl (r_move rfl) ?_
    refine aq_r 11 999 rfl (by kernel_rfl) (by kernel_rfl) (by kernel_rfl) (.head _) (by kernel_rfl) (by kernel_rfl) rfl (r_add rfl rfl (by omega)) ?_
    refine aq_ixo 12 21 rfl (by kernel_rfl) (by kernel_rfl) (by kernel_rfl) (.tail _ (.head _)) (by kernel_rfl) (by kernel_rfl) rfl (id := 5000) encI _ rfl rfl rfl rfl sl61 (by omega) (by omega) fun x28 hx28 => ?_
    try simp only [Int.toNat_natCast] at hx28
    try simp only [Int.toNat_natCast] at hx28
    refine aq_r 13 21 rfl (by kernel_rfl) (by kernel_rfl) (by kernel_rfl) (.tail _ (.head _)) (by kernel_rfl) (by kernel_rfl) rfl (r_ldw rfl (fun w1 hb1 hs1 hB1 => show Loads _ _ _ _ (.int .i64 x28) from ld_own (id := 5000) hs1 rfl rfl ty3 hx28)) ?_
    refine aq_r 14 999 rfl (by kernel_rfl) (by kernel_rfl) (by kernel_rfl) (.head _) (by kernel_rfl) (by kernel_rfl) rfl (r_move rfl) ?_
    refine aq_r 15 999 rfl (by kernel_rfl) (by kernel_rfl) (by kernel_rfl) (.head _) (by kernel_rfl) (by kernel_rfl) rfl (r_move rfl) ?_
    refine aq_r 16 999 rfl (by kernel_rfl) (by kernel_rfl) (by kernel_rfl) (.head _) (by kernel_rfl) (by kernel_rfl) rfl (r_move rfl) ?_
    refine aq_r 17 999 rfl (by kernel_rfl) (by kernel_rfl) (by kernel_rfl) (.head _) (by kernel_rfl) (by kernel_rfl) rfl (r_add rfl rfl (by omega)) ?_
    refine aq_one (i := 18) (by kernel_rfl) rfl fun K6 hK6 => ?_
    refine ol_ixo (id := 5000) encI _ rfl rfl rfl rfl sl61 (by omega) rfl fun x34 hx34 => ?_
    try simp only [Int.toNat_natCast] at hx34
    try simp only [Int.toNat_natCast] at hx34
    refine ol_nil (to_k0 (fun _ _ h => h) (hK6 _ _ ⟨.inr (by repeat' first | exact subH_nil | refine subH_same rfl ?_ | (refine subH_blk rfl (by repeat' first | exact sub_nil | refine sub_cons rfl ?_) ?_)), ⟨.inr (by repeat' first | exact subH_nil | refine subH_same rfl ?_ | (refine subH_blk rfl (by repeat' first | exact sub_nil | refine sub_cons rfl ?_) ?_)), trivial⟩⟩ ?_))
    clear hK6
    refine aq_r 19 21 rfl (by kernel_rfl) (by kernel_rfl) (by kernel_rfl) (.tail _ (.head _)) (by kernel_rfl) (by kernel_rfl) rfl (r_ldw rfl (fun w1 hb1 hs1 hB1 => show Loads _ _ _ _ (.int .i64 x34) from ld_own (id := 5000) hs1 rfl rfl ty3 hx34)) ?_
    refine aq_ixo 20 21 rfl (by kernel_rfl) (by kernel_rfl) (by kernel_rfl) (.tail _ (.head _)) (by kernel_rfl) (by kernel_rfl) rfl (id := 5000) encI _ rfl rfl rfl rfl sl61 (by omega) (by omega) fun x36 hx36 => ?_
    try simp only [Int.toNat_natCast] at hx36
    try simp only [Int.toNat_natCast] at hx36
    refine aq_one (i := 21) (by kernel_rfl) rfl fun K7 hK7 => ?_
    refine ol_storeRow (id := 5000) _ _ _ rfl rfl rfl rfl sz3 (by omega) ?_
    refine ol_nil (to_k0 (fun _ _ h => h) (hK7 _ _ ⟨.inr (by repeat' first | exact subH_nil | refine subH_same rfl ?_ | (refine subH_blk rfl (by repeat' first | exact sub_nil | refine sub_cons rfl ?_) ?_)), ⟨.inl (by kernel_rfl), trivial⟩⟩ ?_))
    clear hK7
    refine aq_one (i := 22) (by kernel_rfl) rfl fun K8 hK8 => ?_
    refine ol_ixo (id := 5000) encI _ rfl rfl rfl rfl sl61 (by omega) rfl fun x37 hx37 => ?_
    try simp only [Int.toNat_natCast] at hx37
    try simp only [Int.toNat_natCast] at hx37
    refine ol_nil (to_k0 (fun _ _ h => h) (hK8 _ _ ⟨.inr (by repeat' first | exact subH_nil | refine subH_same rfl ?_ | (refine subH_blk rfl (by repeat' first | exact sub_nil | refine sub_cons rfl ?_) ?_)), ⟨.inl (by kernel_rfl), trivial⟩⟩ ?_))
    clear hK8
    refine aq_one (i := 23) (by kernel_rfl) rfl fun K9 hK9 => ?_
    refine ol_storeRow (id := 5000) _ _ _ rfl rfl rfl rfl sz3 (by omega) ?_
    refine ol_nil (to_k0 (fun _ _ h => h) (hK9 _ _ ⟨.inr (by repeat' first | exact subH_nil | refine subH_same rfl ?_ | (refine subH_blk rfl (by repeat' first | exact sub_nil | refine sub_cons rfl ?_) ?_)), ⟨.inl (by kernel_rfl), trivial⟩⟩ ?_))
    clear hK9
    refine aq_done (by kernel_rfl) ?_
    refine (to_k0 (fun _ _ h => h) (hK5 _ _ _ _ _ ?_))
    clear hK5
    refine wp_reg ?_
    refine ol_r (r_move rfl) rfl ?_
    refine ol_r (r_add rfl rfl (by omega)) rfl ?_
    refine ol_r (r_assign rfl) rfl ?_
    refine ol_nil (to_k0 (fun _ _ h => h) (hK2 (k + 1) _ _ ?_ ?_ (sub_cons rfl sub_nil) (sub_cons rfl (sub_cons rfl (sub_cons rfl (sub_cons rfl sub_nil)))) (by exact (subH_row rfl (by (rw [swF_succ (by omega), sw_row (i := p + k) (j := q + k) (by omega) (by omega) ⟨_, by omega, hx28⟩ ⟨_, by omega, hx34⟩])) subH_nil)) (subH_same rfl (subH_same rfl (subH_same rfl (subH_same rfl (subH_same rfl (subH_same rfl (subH_same rfl (subH_same rfl (subH_same rfl (subH_same rfl subH_nil))))))))))))
    ·try dsimp only
     omega
    ·try dsimp only
     omega
   ·refine wp_exit' (hQ.fall rvs0 (fun _ _ h => h) fun w hb hs hB hkd => ?_)
    obtain rfl : k = m := by omega
    exact ⟨_, rfl, hb, hs.sub (subH_same rfl (subH_same rfl (subH_same rfl (subH_same rfl (subH_same rfl (subH_same rfl (subH_same rfl (subH_same rfl (subH_same rfl (subH_same rfl (subH_same rfl subH_nil))))))))))), hB, hkd, rfl⟩

theorem rotate_w (cf : Int → Int → Int) (Good : Int → Prop) (B : Nat) (cb : Nat) (a : Option Addr) (n c : Nat) (e1 e2 e3 e4 e5 e6 e7 e8 e9 e10 : Ent) (f : Nat → Int) (p m q : Nat) (w : World) (hB : B ≤ w.heap.size) (hn : n ≤ 1000000) (h1 : p < m) (h2 : m < q) (h3 : q ≤ n) (hs : Sat B w [(5000, .row a n c (encI.enc (tab n f)) 3 1), (5001, e1), (5002, e2), (5003, e3), (5004, e4), (5005, e5), (5006, e6), (5007, e7), (5008, e8), (5009, e9), (5010, e10)]) :
    Calls Try.prog 147 #[.slice a n c, .int .i64 p, .int .i64 m, .int .i64 q, .func (.func 103) #[] #[.pointer (some ⟨cb, 0, none⟩)]] w fun e w' => ∃ g, e = .returned (.tuple #[]) ∧ Below B w w' ∧ Sat B w' [(5000, .row a n c (encI.enc (tab n g)) 3 1), (5001, e1), (5002, e2), (5003, e3), (5004, e4), (5005, e5), (5006, e6), (5007, e7), (5008, e8), (5009, e9), (5010, e10)] ∧ B ≤ w'.heap.size ∧ Kd (fun _ => False) w w' ∧ g = rotF f p m q := by

  refine enterQ (N := 58) (C := fun _ => False) (H := [(5000, .row a n c (encI.enc (tab n f)) 3 1), (5001, e1), (5002, e2), (5003, e3), (5004, e4), (5005, e5), (5006, e6), (5007, e7), (5008, e8), (5009, e9), (5010, e10)]) (B := B) (args := [_, _, _, _, _]) Try.func147 rfl rfl rfl (hB) (hs) fun Q hQ => ?_
  refine wp_seq' fun K1 hK1 => ?_
  refine wp_reg ?_
  refine ol_r (r_move rfl) rfl ?_
  refine ol_r (r_move rfl) rfl ?_
  refine ol_r (r_subT (m - p) rfl rfl (by omega) (by omega)) rfl ?_
  refine ol_r (r_assign rfl) rfl ?_
  refine ol_nil (to_k0 (fun _ _ h => h) (hK1 _ _ _ _ _ ?_))
  clear hK1
  refine wp_seq' fun K2 hK2 => ?_
  refine wp_reg ?_
  refine ol_r (r_move rfl) rfl ?_
  refine ol_r (r_move rfl) rfl ?_
  refine ol_r (r_subT (q - m) rfl rfl (by omega) (by omega)) rfl ?_
  refine ol_r (r_assign rfl) rfl ?_
  refine ol_nil (to_k0 (fun _ _ h => h) (hK2 _ _ _ _ _ ?_))
  clear hK2
  refine wp_seq' fun K3 hK3 => ?_
  refine wp_block' ?_
  apply wp_loopM (σ := Nat × Nat × (Nat → Int)) (fun s => 0 < s.1 ∧ 0 < s.2.1 ∧ s.1 ≤ m - p ∧ s.2.1 ≤ q - m ∧ rotF s.2.2 (m - s.1) m (m + s.2.1) = rotF f p m q) (fun s => [(10, .int .i64 s.1), (11, .int .i64 s.2.1)]) [(0, _), (2, _), (4, _)] (fun s => [(5000, .row a n c (encI.enc (tab n s.2.2)) 3 1)]) [(5001, _), (5002, _), (5003, _), (5004, _), (5005, _), (5006, _), (5007, _), (5008, _), (5009, _), (5010, _)] (fun s => s.1 + s.2.1) ((m - p, q - m, f))
  ·try dsimp only
   exact ⟨by omega, by omega, Nat.le_refl _, Nat.le_refl _, by rw [show m - (m - p) = p by omega, show m + (q - m) = q by omega]⟩
  ·exact (sub_cons rfl (sub_cons rfl sub_nil))
  ·exact (sub_cons rfl (sub_cons rfl (sub_cons rfl sub_nil)))
  ·exact (subH_row rfl (by rfl) subH_nil)
  ·exact (subH_same rfl (subH_same rfl (subH_same rfl (subH_same rfl (subH_same rfl (subH_same rfl (subH_same rfl (subH_same rfl (subH_same rfl (subH_same rfl subH_nil))))))))))
  ·rintro ⟨i, j, F⟩ ⟨hi, hj, hi2, hj2, hF⟩
   dsimp only at hi hj hi2 hj2 hF ⊢
   intro K4 hK4
   refine wp_seq' fun K5 hK5 => ?_
   refine wp_seq' fun K6 hK6 => ?_
   refine wp_reg ?_
   skip
   refine ol_r (r_move rfl) rfl ?_
   refine ol_r (r_move rfl) rfl ?_
   refine ol_r (r_neq rfl rfl) rfl ?_
   refine ol_nil (to_k0 (fun _ _ h => h) (hK6 _ _ _ _ _ ?_))
   clear hK6
   refine wp_condD rfl (fun hc20 => ?_) (fun hc20 => ?_)
   ·refine wp_skip' (to_k0 (fun _ _ h => h) (hK5 _ _ _ _ _ ?_))
    clear hK5
    refine wp_block' ?_
    refine wp_seq' fun K7 hK7 => ?_
    refine wp_reg ?_
    refine ol_r (r_move rfl) rfl ?_
    refine ol_r (r_move rfl) rfl ?_
    refine ol_r (r_gtr rfl rfl) rfl ?_
    refine ol_nil (to_k0 (fun _ _ h => h) (hK7 _ _ _ _ _ ?_))
    clear hK7
    refine wp_condD rfl (fun hc23 => ?_) (fun hc23 => ?_)
    ·refine wp_seq' fun K8 hK8 => ?_
     refine wp_reg ?_
     refine ol_r (r_move rfl) rfl ?_
     refine ol_r (r_move rfl) rfl ?_
     refine ol_r (r_move rfl) rfl ?_
     refine ol_r (r_subT (m - i) rfl rfl (by omega) (by omega)) rfl ?_
     refine ol_r (r_move rfl) rfl ?_
     refine ol_r (r_move rfl) rfl ?_
     refine ol_r (r_move rfl) rfl ?_
     refine ol_call rfl rfl cb148 rfl (fun w1 hb1 hs1 hB1 => ?_)
     refine Calls.mono (swapRange_w cf Good B cb a n c e1 e2 e3 e4 e5 e6 e7 e8 e9 e10 F (m - i) m j _ hB1 hn (by omega) (by omega) (hs1.sub (subH_same rfl (subH_same rfl (subH_same rfl (subH_same rfl (subH_same rfl (subH_same rfl (subH_same rfl (subH_same rfl (subH_same rfl (subH_same rfl (subH_same rfl subH_nil))))))))))))) ?_
     rintro e w2 ⟨g, rfl, hb2, hs2, hB2, hk2, hg⟩
     refine After.sat rfl hb1 hb2 hs2 hB2 (hk2.imp fun _ h => h.elim) ?_
     clear hk2 hs2 hb2 hB2 hB1 hs1 hb1 w2 w1
     refine ol_nil (to_k0 (fun _ _ h => h) (hK8 _ _ _ _ _ ?_))
     clear hK8
     refine wp_reg ?_
     refine ol_r (r_move rfl) rfl ?_
     refine ol_r (r_move rfl) rfl ?_
     refine ol_r (r_subT (i - j) rfl rfl (by omega) (by omega)) rfl ?_
     refine ol_r (r_assign rfl) rfl ?_
     refine ol_nil (to_k0 (fun _ _ h => h) (hK4 ((_, _, _)) _ _ ?_ ?_ (sub_cons rfl (sub_cons rfl sub_nil)) (sub_cons rfl (sub_cons rfl (sub_cons rfl sub_nil))) (by exact (subH_row rfl (by rfl) subH_nil)) (subH_same rfl (subH_same rfl (subH_same rfl (subH_same rfl (subH_same rfl (subH_same rfl (subH_same rfl (subH_same rfl (subH_same rfl (subH_same rfl subH_nil))))))))))))
     ·try dsimp only
      first
        | exact ⟨by omega, by omega, by omega, by omega, by rw [hg, rot_gt (by omega) (by omega) (by omega)]; exact hF⟩
     ·try dsimp only
      omega
    ·refine wp_seq' fun K9 hK9 => ?_
     refine wp_reg ?_
     refine ol_r (r_move rfl) rfl ?_
     refine ol_r (r_move rfl) rfl ?_
     refine ol_r (r_move rfl) rfl ?_
     refine ol_r (r_subT (m - i) rfl rfl (by omega) (by omega)) rfl ?_
     refine ol_r (r_move rfl) rfl ?_
     refine ol_r (r_move rfl) rfl ?_
     refine ol_r (r_add rfl rfl (by omega)) rfl ?_
     refine ol_r (r_move rfl) rfl ?_
     refine ol_r (r_subT (m + j - i) rfl rfl (by omega) (by omega)) rfl ?_
     refine ol_r (r_move rfl) rfl ?_
     refine ol_r (r_move rfl) rfl ?_
     refine ol_call rfl rfl cb148 rfl (fun w1 hb1 hs1 hB1 => ?_)
     refine Calls.mono (swapRange_w cf Good B cb a n c e1 e2 e3 e4 e5 e6 e7 e8 e9 e10 F (m - i) (m + j - i) i _ hB1 hn (by omega) (by omega) (hs1.sub (subH_same rfl (subH_same rfl (subH_same rfl (subH_same rfl (subH_same rfl (subH_same rfl (subH_same rfl (subH_same rfl (subH_same rfl (subH_same rfl (subH_same rfl subH_nil))))))))))))) ?_
     rintro e w2 ⟨g, rfl, hb2, hs2, hB2, hk2, hg⟩
     refine After.sat rfl hb1 hb2 hs2 hB2 (hk2.imp fun _ h => h.elim) ?_
     clear hk2 hs2 hb2 hB2 hB1 hs1 hb1 w2 w1
     refine ol_nil (to_k0 (fun _ _ h => h) (hK9 _ _ _ _ _ ?_))
     clear hK9
     refine wp_reg ?_
     refine ol_r (r_move rfl) rfl ?_
     refine ol_r (r_move rfl) rfl ?_
     refine ol_r (r_subT (j - i) rfl rfl (by omega) (by omega)) rfl ?_
     refine ol_r (r_assign rfl) rfl ?_
     refine ol_nil (to_k0 (fun _ _ h => h) (hK4 ((_, _, _)) _ _ ?_ ?_ (sub_cons rfl (sub_cons rfl sub_nil)) (sub_cons rfl (sub_cons rfl (sub_cons rfl sub_nil))) (by exact (subH_row rfl (by rfl) subH_nil)) (subH_same rfl (subH_same rfl (subH_same rfl (subH_same rfl (subH_same rfl (subH_same rfl (subH_same rfl (subH_same rfl (subH_same rfl (subH_same rfl subH_nil))))))))))))
     ·try dsimp only
      first
        | exact ⟨by omega, by omega, by omega, by omega, by rw [hg, rot_lt (by omega) (by omega) (by omega)]; exact hF⟩
     ·try dsimp only
      omega
   ·refine wp_exit' (to_k0 (fun _ _ h => h) (hK3 _ _ _ _ _ ?_))
    clear hK3
    refine wp_reg ?_
    obtain rfl : i = j := by omega
    refine ol_r (r_move rfl) rfl ?_
    refine ol_r (r_move rfl) rfl ?_
    refine ol_r (r_move rfl) rfl ?_
    refine ol_r (r_subT (m - i) rfl rfl (by omega) (by omega)) rfl ?_
    refine ol_r (r_move rfl) rfl ?_
    refine ol_r (r_move rfl) rfl ?_
    refine ol_r (r_move rfl) rfl ?_
    refine ol_call rfl rfl cb148 rfl (fun w1 hb1 hs1 hB1 => ?_)
    refine Calls.mono (swapRange_w cf Good B cb a n c e1 e2 e3 e4 e5 e6 e7 e8 e9 e10 F (m - i) m i _ hB1 hn (by omega) (by omega) (hs1.sub (subH_same rfl (subH_same rfl (subH_same rfl (subH_same rfl (subH_same rfl (subH_same rfl (subH_same rfl (subH_same rfl (subH_same rfl (subH_same rfl (subH_same rfl subH_nil))))))))))))) ?_
    rintro e w2 ⟨g, rfl, hb2, hs2, hB2, hk2, hg⟩
    refine After.sat rfl hb1 hb2 hs2 hB2 (hk2.imp fun _ h => h.elim) ?_
    clear hk2 hs2 hb2 hB2 hB1 hs1 hb1 w2 w1
    refine ol_nil (hQ.fall rvs0 (fun _ _ h => h) fun w hb hs hB hkd => ?_)
    exact ⟨_, rfl, hb, hs.sub (subH_same rfl (subH_same rfl (subH_same rfl (subH_same rfl (subH_same rfl (subH_same rfl (subH_same rfl (subH_same rfl (subH_same rfl (subH_same rfl (subH_same rfl subH_nil))))))))))), hB, hkd, by rw [hg, rot_eq (by omega), hF]⟩

theorem insertion_w (cf : Int → Int → Int) (Good : Int → Prop) (B : Nat) (cb : Nat) (a : Option Addr) (n c : Nat) (e1 e2 e3 e4 e5 e6 e7 e8 e9 e10 : Ent) (f : Nat → Int) (p q : Nat) (w : World) (hw : Swo (ltC cf)) (hB : B ≤ w.heap.size) (hn : n ≤ 1000000) (h1 : q ≤ n) (hp : p ≤ n) (hG : ∀ i, i < n → Good (f i)) (hu : ∀ x y, p ≤ x → x < y → y < q → f x < f y) (hcmp : ∀ (w1 : World) (x y : Int), Good x → Good y → Sat B w1 [(5001, e1), (5002, e2)] → B ≤ w1.heap.size → Calls Try.prog 103 #[.int .i64 x, .int .i64 y, .pointer (some ⟨cb, 0, none⟩)] w1 fun e w' => e = .returned (.int .i64 (cf x y)) ∧ Below w1.heap.size w1 w') (hs : Sat B w [(5000, .row a n c (encI.enc (tab n f)) 3 1), (5001, e1), (5002, e2), (5003, e3), (5004, e4), (5005, e5), (5006, e6), (5007, e7), (5008, e8), (5009, e9), (5010, e10)]) :
    Calls Try.prog 144 #[.slice a n c, .int .i64 p, .int .i64 q, .func (.func 103) #[] #[.pointer (some ⟨cb, 0, none⟩)]] w fun e w' => ∃ g, e = .returned (.tuple #[]) ∧ Below B w w' ∧ Sat B w' [(5000, .row a n c (encI.enc (tab n g)) 3 1), (5001, e1), (5002, e2), (5003, e3), (5004, e4), (5005, e5), (5006, e6), (5007, e7), (5008, e8), (5009, e9), (5010, e10)] ∧ B ≤ w'.heap.size ∧ Kd (fun _ => False) w w' ∧ Blo (ltC cf) f g p q := by

  refine enterQ (N := 53) (C := fun _ => False) (H := [(5000, .row a n c (encI.enc (tab n f)) 3 1), (5001, e1), (5002, e2), (5003, e3), (5004, e4), (5005, e5), (5006, e6), (5007, e7), (5008, e8), (5009, e9), (5010, e10)]) (B := B) (args := [_, _, _, _]) Try.func144 rfl rfl rfl (hB) (hs) fun Q hQ => ?_
  refine wp_seq' fun K1 hK1 => ?_
  refine wp_reg ?_
  refine ol_r (r_move rfl) rfl ?_
  refine ol_r (r_addT (p + 1) rfl rfl (by omega) (by omega)) rfl ?_
  refine ol_r (r_assign rfl) rfl ?_
  refine ol_nil (to_k0 (fun _ _ h => h) (hK1 _ _ _ _ _ ?_))
  clear hK1
  refine wp_block' ?_
  apply wp_loopM (σ := Nat × (Nat → Int)) (fun s => p < s.1 ∧ (s.1 ≤ q ∨ s.1 = p + 1) ∧ SoR (ltC cf) s.2 p s.1 ∧ SaS f s.2 p s.1 ∧ (∀ x, x < p ∨ s.1 ≤ x → s.2 x = f x)) (fun s => [(8, .int .i64 s.1)]) [(0, _), (1, _), (2, _), (3, _)] (fun s => [(5000, .row a n c (encI.enc (tab n s.2)) 3 1)]) [(5001, _), (5002, _), (5003, _), (5004, _), (5005, _), (5006, _), (5007, _), (5008, _), (5009, _), (5010, _)] (fun s => q - s.1) ((p + 1, f))
  ·try dsimp only
   exact ⟨by omega, .inr rfl, fun x y h2 h3 h4 => by omega, SaS.refl _ _ _, fun _ _ => rfl⟩
  ·exact (sub_cons rfl sub_nil)
  ·exact (sub_cons rfl (sub_cons rfl (sub_cons rfl (sub_cons rfl sub_nil))))
  ·exact (subH_row rfl (by rfl) subH_nil)
  ·exact (subH_same rfl (subH_same rfl (subH_same rfl (subH_same rfl (subH_same rfl (subH_same rfl (subH_same rfl (subH_same rfl (subH_same rfl (subH_same rfl subH_nil))))))))))
  ·rintro ⟨i, F⟩ ⟨hi, hi2, hF1, hF2, hF3⟩
   dsimp only at hi hi2 hF1 hF2 hF3 ⊢
   intro K2 hK2
   refine wp_seq' fun K3 hK3 => ?_
   refine wp_seq' fun K4 hK4 => ?_
   refine wp_reg ?_
   refine ol_r (r_move rfl) rfl ?_
   refine ol_r (r_move rfl) rfl ?_
   refine ol_r (r_lss rfl rfl) rfl ?_
   refine ol_nil (to_k0 (fun _ _ h => h) (hK4 _ _ _ _ _ ?_))
   clear hK4
   refine wp_condD rfl (fun hc14 => ?_) (fun hc14 => ?_)
   ·refine wp_skip' (to_k0 (fun _ _ h => h) (hK3 _ _ _ _ _ ?_))
    clear hK3
    refine wp_seq' fun K5 hK5 => ?_
    refine wp_block' ?_
    refine wp_seq' fun K6 hK6 => ?_
    refine wp_reg ?_
    refine ol_r (r_move rfl) rfl ?_
    refine ol_r (r_assign rfl) rfl ?_
    refine ol_nil (to_k0 (fun _ _ h => h) (hK6 _ _ _ _ _ ?_))
    clear hK6
    refine wp_block' ?_
    apply wp_loopM (σ := Nat × (Nat → Int)) (fun s => p ≤ s.1 ∧ s.1 ≤ i ∧ InsI (ltC cf) F s.2 p i s.1) (fun s => [(9, .int .i64 s.1)]) [(0, _), (1, _), (2, _), (3, _), (8, _)] (fun s => [(5000, .row a n c (encI.enc (tab n s.2)) 3 1)]) [(5001, _), (5002, _), (5003, _), (5004, _), (5005, _), (5006, _), (5007, _), (5008, _), (5009, _), (5010, _)] (fun s => s.1) ((i, F))
    ·try dsimp only
     refine ⟨by omega, Nat.le_refl _, InsI.start hF1 fun x h2 h3 => ?_⟩
     obtain ⟨y, y1, y2, y3⟩ := hF2.2 x h2 h3
     rw [y3, hF3 i (by omega)]
     exact hu y i y1 y2 (by omega)
    ·exact (sub_cons rfl sub_nil)
    ·exact (sub_cons rfl (sub_cons rfl (sub_cons rfl (sub_cons rfl (sub_cons rfl sub_nil)))))
    ·exact (subH_row rfl (by rfl) subH_nil)
    ·exact (subH_same rfl (subH_same rfl (subH_same rfl (subH_same rfl (subH_same rfl (subH_same rfl (subH_same rfl (subH_same rfl (subH_same rfl (subH_same rfl subH_nil))))))))))
    ·rintro ⟨j, G⟩ ⟨hj1, hj2, hI⟩
     dsimp only at hj1 hj2 hI ⊢
     have hGl := tab_len n G
     have hF2s : SaS f F p (i + 1) := hF2.widen (Nat.le_refl _) (Nat.le_succ _) (by omega) hF3
     have hGg : ∀ k, k < n → Good (G k) := good_of hG (((hF2s.trans hI.sa).widen (Nat.zero_le _) (show i + 1 ≤ n by omega) (by omega) fun x hx => by rw [hI.out x (by omega)]; exact hF3 x (by omega)))
     intro K7 hK7
     refine wp_seq' fun K8 hK8 => ?_
     refine wp_seq' fun K9 hK9 => ?_
     refine wp_regq (by kernel_rfl) (by kernel_rfl) ?_
     refine ql_r (r_move rfl) rfl ?_
     refine ql_r (r_move rfl) rfl ?_
     refine ql_r (r_gtr rfl rfl) rfl ?_
     refine ql_r (r_move rfl) rfl ?_
     refine ql_split (d := 21) rfl (fun hs21 => ?_) (fun hs21 => ?_)
     ·have phs21 := hs21; try simp only [decide_eq_true_eq, decide_eq_false_iff_not, Bool.not_eq_true', Bool.not_eq_false', Bool.not_true, Bool.not_false] at phs21
      refine ql_g rfl rfl hs21 ?_
      refine ql_r (r_move rfl) rfl ?_
      refine ql_g rfl rfl hs21 ?_
      refine ql_r (r_move rfl) rfl ?_
      refine ql_g rfl rfl hs21 ?_
      refine ql_r (r_move rfl) rfl ?_
      refine ql_g rfl rfl hs21 ?_
      refine ql_ixo (id := 5000) encI _ rfl rfl rfl rfl sl61 (by omega) (by omega) rfl fun x25 hx25 => ?_
      try simp only [Int.toNat_natCast] at hx25
      try simp only [Int.toNat_natCast] at hx25
      refine ql_g rfl rfl hs21 ?_
      refine ql_r (r_ldw rfl (fun w1 hb1 hs1 hB1 => show Loads _ _ _ _ (.int .i64 x25) from ld_own (id := 5000) hs1 rfl rfl ty3 hx25)) rfl ?_
      refine ql_g rfl rfl hs21 ?_
      refine ql_r (r_move rfl) rfl ?_
      refine ql_g rfl rfl hs21 ?_
      refine ql_r (r_move rfl) rfl ?_
      refine ql_g rfl rfl hs21 ?_
      refine ql_r (r_sub rfl rfl (by omega)) rfl ?_
      refine ql_g rfl rfl hs21 ?_
      refine ql_ixo (id := 5000) encI _ rfl rfl rfl rfl sl61 (by omega) (by omega) rfl fun x30 hx30 => ?_
      try simp only [Int.toNat_natCast] at hx30
      try simp only [Int.toNat_natCast] at hx30
      refine ql_g rfl rfl hs21 ?_
      refine ql_r (r_ldw rfl (fun w1 hb1 hs1 hB1 => show Loads _ _ _ _ (.int .i64 x30) from ld_own (id := 5000) hs1 rfl rfl ty3 hx30)) rfl ?_
      refine ql_g rfl rfl hs21 ?_
      have hx25' := hx25
      have hx30' := hx30
      rw [show (((j : Nat) : Int) - 1).toNat = j - 1 by omega] at hx30'
      refine ql_call rfl rfl cb103 rfl (fun w1 hb1 hs1 hB1 => hcmp _ _ _ (by rw [← tab_eq hx25]; exact hGg _ (by omega)) (by rw [← tab_eq hx30]; exact hGg _ (by omega)) (hs1.sub (subH_same rfl (subH_same rfl subH_nil))) hB1) ?_
      refine ql_g rfl rfl hs21 ?_
      refine ql_r (r_lss rfl rfl) rfl ?_
      refine ql_r (r_pickT rfl hs21 rfl) rfl ?_
      refine ql_nil (to_k0 (fun _ _ h => h) (hK9 _ _ _ _ _ ?_))
      clear hK9
      refine wp_condD rfl (fun hc34 => ?_) (fun hc34 => ?_)
      ·refine wp_skip' (to_k0 (fun _ _ h => h) (hK8 _ _ _ _ _ ?_))
       clear hK8
       refine wp_seq' fun K10 hK10 => ?_
       refine wp_block' ?_
       refine wp_rega [(999, [(5001, _), (5002, _), (5003, _), (5004, _), (5005, _), (5006, _), (5007, _), (5008, _), (5009, _), (5010, _)]), (15, [(5000, _)])] (by kernel_rfl) ⟨.inr (subH_same rfl (subH_same rfl (subH_same rfl (subH_same rfl (subH_same rfl (subH_same rfl (subH_same rfl (subH_same rfl (subH_same rfl (subH_same rfl subH_nil)))))))))), ⟨.inr (subH_same rfl subH_nil), trivial⟩⟩ ?_
       refine aq_r 0 999 rfl (by kernel_rfl) (by kernel_rfl) (by kernel_rfl) (.head _) (by kernel_rfl) (by kernel_rfl) rfl (r_move rfl) ?_
       refine aq_r 1 999 rfl (by kernel_rfl) (by kernel_rfl) (by kernel_rfl) (.head _) (by kernel_rfl) (by kernel_rfl) rfl (r_move rfl) ?_
       refine aq_r 2 999 rfl (by kernel_rfl) (by kernel_rfl) (by kernel_rfl) (.head _) (by kernel_rfl) (by kernel_rfl) rfl (r_move rfl) ?_
       refine aq_r 3 999 rfl (by kernel_rfl) (by kernel_rfl) (by kernel_rfl) (.head _) (by kernel_rfl) (by kernel_rfl) rfl (r_move rfl) ?_
       refine aq_r 4 999 rfl (by kernel_rfl) (by kernel_rfl) (by kernel_rfl) (.head _) (by kernel_rfl) (by kernel_rfl) rfl (r_sub rfl rfl (by omega)) ?_
       refine aq_r 5 999 rfl (by kernel_rfl) (by kernel_rfl) (by kernel_rfl) (.head _) (by kernel_rfl) (by kernel_rfl) rfl (r_move rfl) ?_
       refine aq_r 6 999 rfl (by kernel_rfl) (by kernel_rfl) (by kernel_rfl) (.head _) (by kernel_rfl) (by kernel_rfl) rfl (r_move rfl) ?_
       refine aq_r 7 999 rfl (by kernel_rfl) (by kernel_rfl) (by kernel_rfl) (.head _) (by kernel_rfl) (by kernel_rfl) rfl (r_sub rfl rfl (by omega)) ?_
       refine aq_ixo 8 15 rfl (by kernel_rfl) (by kernel_rfl) (by kernel_rfl) (.tail _ (.head _)) (by kernel_rfl) (by kernel_rfl) rfl (id := 5000) encI _ rfl rfl rfl rfl sl61 (by omega) (by omega) fun x45 hx45 => ?_
       try simp only [Int.toNat_natCast] at hx45
       try simp only [Int.toNat_natCast] at hx45
       refine aq_r 9 15 rfl (by kernel_rfl) (by kernel_rfl) (by kernel_rfl) (.tail _ (.head _)) (by kernel_rfl) (by kernel_rfl) rfl (r_ldw rfl (fun w1 hb1 hs1 hB1 => show Loads _ _ _ _ (.int .i64 x45) from ld_own (id := 5000) hs1 rfl rfl ty3 hx45)) ?_
       refine aq_r 10 999 rfl (by kernel_rfl) (by kernel_rfl) (by kernel_rfl) (.head _) (by kernel_rfl) (by kernel_rfl) rfl (r_move rfl) ?_
       refine aq_r 11 999 rfl (by kernel_rfl) (by kernel_rfl) (by kernel_rfl) (.head _) (by kernel_rfl) (by kernel_rfl) rfl (r_move rfl) ?_
       refine aq_one (i := 12) (by kernel_rfl) rfl fun K11 hK11 => ?_
       refine ol_ixo (id := 5000) encI _ rfl rfl rfl rfl sl61 (by omega) rfl fun x49 hx49 => ?_
       try simp only [Int.toNat_natCast] at hx49
       try simp only [Int.toNat_natCast] at hx49
       refine ol_nil (to_k0 (fun _ _ h => h) (hK11 _ _ ⟨.inr (by repeat' first | exact subH_nil | refine subH_same rfl ?_ | (refine subH_blk rfl (by repeat' first | exact sub_nil | refine sub_cons rfl ?_) ?_)), ⟨.inr (by repeat' first | exact subH_nil | refine subH_same rfl ?_ | (refine subH_blk rfl (by repeat' first | exact sub_nil | refine sub_cons rfl ?_) ?_)), trivial⟩⟩ ?_))
       clear hK11
       refine aq_r 13 15 rfl (by kernel_rfl) (by kernel_rfl) (by kernel_rfl) (.tail _ (.head _)) (by kernel_rfl) (by kernel_rfl) rfl (r_ldw rfl (fun w1 hb1 hs1 hB1 => show Loads _ _ _ _ (.int .i64 x49) from ld_own (id := 5000) hs1 rfl rfl ty3 hx49)) ?_
       refine aq_ixo 14 15 rfl (by kernel_rfl) (by kernel_rfl) (by kernel_rfl) (.tail _ (.head _)) (by kernel_rfl) (by kernel_rfl) rfl (id := 5000) encI _ rfl rfl rfl rfl sl61 (by omega) (by omega) fun x51 hx51 => ?_
       try simp only [Int.toNat_natCast] at hx51
       try simp only [Int.toNat_natCast] at hx51
       refine aq_one (i := 15) (by kernel_rfl) rfl fun K12 hK12 => ?_
       refine ol_storeRow (id := 5000) _ _ _ rfl rfl rfl rfl sz3 (by omega) ?_
       refine ol_nil (to_k0 (fun _ _ h => h) (hK12 _ _ ⟨.inr (by repeat' first | exact subH_nil | refine subH_same rfl ?_ | (refine subH_blk rfl (by repeat' first | exact sub_nil | refine sub_cons rfl ?_) ?_)), ⟨.inl (by kernel_rfl), trivial⟩⟩ ?_))
       clear hK12
       refine aq_one (i := 16) (by kernel_rfl) rfl fun K13 hK13 => ?_
       refine ol_ixo (id := 5000) encI _ rfl rfl rfl rfl sl61 (by omega) rfl fun x52 hx52 => ?_
       try simp only [Int.toNat_natCast] at hx52
       try simp only [Int.toNat_natCast] at hx52
       refine ol_nil (to_k0 (fun _ _ h => h) (hK13 _ _ ⟨.inr (by repeat' first | exact subH_nil | refine subH_same rfl ?_ | (refine subH_blk rfl (by repeat' first | exact sub_nil | refine sub_cons rfl ?_) ?_)), ⟨.inl (by kernel_rfl), trivial⟩⟩ ?_))
       clear hK13
       refine aq_one (i := 17) (by kernel_rfl) rfl fun K14 hK14 => ?_
       refine ol_storeRow (id := 5000) _ _ _ rfl rfl rfl rfl sz3 (by omega) ?_
       refine ol_nil (to_k0 (fun _ _ h => h) (hK14 _ _ ⟨.inr (by repeat' first | exact subH_nil | refine subH_same rfl ?_ | (refine subH_blk rfl (by repeat' first | exact sub_nil | refine sub_cons rfl ?_) ?_)), ⟨.inl (by kernel_rfl), trivial⟩⟩ ?_))
       clear hK14
       refine aq_done (by kernel_rfl) ?_
       refine (to_k0 (fun _ _ h => h) (hK10 _ _ _ _ _ ?_))
       clear hK10
       refine wp_reg ?_
       refine ol_r (r_move rfl) rfl ?_
       refine ol_r (r_subT (j - 1) rfl rfl (by omega) (by omega)) rfl ?_
       refine ol_r (r_assign rfl) rfl ?_
       refine ol_nil (to_k0 (fun _ _ h => h) (hK7 ((_, sw2 G j (j - 1))) _ _ ?_ ?_ (sub_cons rfl sub_nil) (sub_cons rfl (sub_cons rfl (sub_cons rfl (sub_cons rfl (sub_cons rfl sub_nil))))) (by exact (subH_row rfl (by dsimp only; (rw [sw_row (i := j) (j := j - 1) (by omega) (by omega) ⟨_, by omega, hx45⟩ ⟨_, by omega, hx49⟩])) subH_nil)) (subH_same rfl (subH_same rfl (subH_same rfl (subH_same rfl (subH_same rfl (subH_same rfl (subH_same rfl (subH_same rfl (subH_same rfl (subH_same rfl subH_nil))))))))))))
       ·try dsimp only
        exact ⟨by omega, by omega, hI.step (by omega) hj2 (ltC_t (by rw [tab_eq hx25', tab_eq hx30']; exact hc34))⟩
       ·try dsimp only
        omega
      ·refine wp_exit' (to_k0 (fun _ _ h => h) (hK5 _ _ _ _ _ ?_))
       clear hK5
       refine wp_reg ?_
       refine ol_r (r_move rfl) rfl ?_
       refine ol_r (r_addT (i + 1) rfl rfl (by omega) (by omega)) rfl ?_
       refine ol_r (r_assign rfl) rfl ?_
       refine ol_nil (to_k0 (fun _ _ h => h) (hK2 ((_, _)) _ _ ?_ ?_ (sub_cons rfl sub_nil) (sub_cons rfl (sub_cons rfl (sub_cons rfl (sub_cons rfl sub_nil)))) (by exact (subH_row rfl (by rfl) subH_nil)) (subH_same rfl (subH_same rfl (subH_same rfl (subH_same rfl (subH_same rfl (subH_same rfl (subH_same rfl (subH_same rfl (subH_same rfl (subH_same rfl subH_nil))))))))))))
       ·try dsimp only
        exact ⟨by omega, by omega, hI.stop hw hj1 hj2 (by first | exact .inl (by omega) | exact .inr (ltC_f (by rw [tab_eq hx25', tab_eq hx30']; exact hc34))), hF2s.trans hI.sa, fun x hx => by rw [hI.out x (by omega)]; exact hF3 x (by omega)⟩
       ·try dsimp only
        omega
     ·have phs21 := hs21; try simp only [decide_eq_true_eq, decide_eq_false_iff_not, Bool.not_eq_true', Bool.not_eq_false', Bool.not_true, Bool.not_false] at phs21
      refine ql_s rfl rfl hs21 rfl ?_
      refine ql_s rfl rfl hs21 rfl ?_
      refine ql_s rfl rfl hs21 rfl ?_
      refine ql_s rfl rfl hs21 rfl ?_
      refine ql_s rfl rfl hs21 rfl ?_
      refine ql_s rfl rfl hs21 rfl ?_
      refine ql_s rfl rfl hs21 rfl ?_
      refine ql_s rfl rfl hs21 rfl ?_
      refine ql_s rfl rfl hs21 rfl ?_
      refine ql_s rfl rfl hs21 rfl ?_
      refine ql_s rfl rfl hs21 rfl ?_
      refine ql_s rfl rfl hs21 rfl ?_
      refine ql_r (r_pickF rfl hs21 rfl) rfl ?_
      refine ql_nil (to_k0 (fun _ _ h => h) (hK9 _ _ _ _ _ ?_))
      clear hK9
      refine wp_condF rfl ?_
      refine wp_exit' (to_k0 (fun _ _ h => h) (hK5 _ _ _ _ _ ?_))
      clear hK5
      refine wp_reg ?_
      refine ol_r (r_move rfl) rfl ?_
      refine ol_r (r_addT (i + 1) rfl rfl (by omega) (by omega)) rfl ?_
      refine ol_r (r_assign rfl) rfl ?_
      refine ol_nil (to_k0 (fun _ _ h => h) (hK2 ((_, _)) _ _ ?_ ?_ (sub_cons rfl sub_nil) (sub_cons rfl (sub_cons rfl (sub_cons rfl (sub_cons rfl sub_nil)))) (by exact (subH_row rfl (by rfl) subH_nil)) (subH_same rfl (subH_same rfl (subH_same rfl (subH_same rfl (subH_same rfl (subH_same rfl (subH_same rfl (subH_same rfl (subH_same rfl (subH_same rfl subH_nil))))))))))))
      ·try dsimp only
       exact ⟨by omega, by omega, hI.stop hw hj1 hj2 (by first | exact .inl (by omega) | exact .inr (ltC_f (by rw [tab_eq hx25', tab_eq hx30']; exact hc34))), hF2s.trans hI.sa, fun x hx => by rw [hI.out x (by omega)]; exact hF3 x (by omega)⟩
      ·try dsimp only
       omega
   ·refine wp_exit' (hQ.fall rvs0 (fun _ _ h => h) fun w hb hs hB hkd => ?_)
    refine ⟨F, rfl, hb, hs.sub (subH_same rfl (subH_same rfl (subH_same rfl (subH_same rfl (subH_same rfl (subH_same rfl (subH_same rfl (subH_same rfl (subH_same rfl (subH_same rfl (subH_same rfl subH_nil))))))))))), hB, hkd, ?_⟩
    rcases hi2 with h | h
    · obtain rfl : i = q := by omega
      exact ⟨hF1, hF2, hF3⟩
    · subst h
      have hFf : F = f := by
        funext x
        by_cases hx : x = p
        · subst hx
          obtain ⟨y, y1, y2, y3⟩ := hF2.2 x (Nat.le_refl _) (by omega)
          rw [y3]; congr 1; omega
        · exact hF3 x (by omega)
      subst hFf
      exact ⟨fun x y h2 h3 h4 => by omega, SaS.refl _ _ _, fun _ _ => rfl⟩

theorem symMerge_w (cf : Int → Int → Int) (Good : Int → Prop) (B : Nat) (cb : Nat) (a : Option Addr) (n c : Nat) (e1 e2 e3 e4 e5 e6 e7 e8 e9 e10 : Ent) (hw : Swo (ltC cf)) (hn : n ≤ 1000000) (hcmp : ∀ (w1 : World) (x y : Int), Good x → Good y → Sat B w1 [(5001, e1), (5002, e2)] → B ≤ w1.heap.size → Calls Try.prog 103 #[.int .i64 x, .int .i64 y, .pointer (some ⟨cb, 0, none⟩)] w1 fun e w' => e = .returned (.int .i64 (cf x y)) ∧ Below w1.heap.size w1 w') : ∀ (N : Nat) (p m q : Nat) (f : Nat → Int) (w : World), q - p ≤ N → B ≤ w.heap.size → p < m → m < q → q ≤ n → (∀ i, i < n → Good (f i)) → MrgI (ltC cf) f p m q → Sat B w [(5000, .row a n c (encI.enc (tab n f)) 3 1), (5001, e1), (5002, e2), (5003, e3), (5004, e4), (5005, e5), (5006, e6), (5007, e7), (5008, e8), (5009, e9), (5010, e10)] →
    Calls Try.prog 145 #[.slice a n c, .int .i64 p, .int .i64 m, .int .i64 q, .func (.func 103) #[] #[.pointer (some ⟨cb, 0, none⟩)]] w fun e w' => ∃ g, e = .returned (.tuple #[]) ∧ Below B w w' ∧ Sat B w' [(5000, .row a n c (encI.enc (tab n g)) 3 1), (5001, e1), (5002, e2), (5003, e3), (5004, e4), (5005, e5), (5006, e6), (5007, e7), (5008, e8), (5009, e9), (5010, e10)] ∧ B ≤ w'.heap.size ∧ Kd (fun _ => False) w w' ∧ Blo (ltC cf) f g p q := by
  intro N
  induction N with
  | zero => intro p m q f w h1 h2 h3 h4; omega
  | succ N ih =>
  intro p m q f w hN hB h1 h2 h3 hG hM hs
  have hfl := tab_len n f

  refine enterQ (N := 220) (C := fun _ => False) (H := [(5000, .row a n c (encI.enc (tab n f)) 3 1), (5001, e1), (5002, e2), (5003, e3), (5004, e4), (5005, e5), (5006, e6), (5007, e7), (5008, e8), (5009, e9), (5010, e10)]) (B := B) (args := [_, _, _, _, _]) Try.func145 rfl rfl rfl (hB) (hs) fun Q hQ => ?_
  refine wp_seq' fun K1 hK1 => ?_
  refine wp_seq' fun K2 hK2 => ?_
  refine wp_reg ?_
  refine ol_r (r_move rfl) rfl ?_
  refine ol_r (r_move rfl) rfl ?_
  refine ol_r (r_sub rfl rfl (by omega)) rfl ?_
  refine ol_r (r_eql rfl rfl) rfl ?_
  refine ol_nil (to_k0 (fun _ _ h => h) (hK2 _ _ _ _ _ ?_))
  clear hK2
  refine wp_condD rfl (fun hc28 => ?_) (fun hc28 => ?_)
  ·refine wp_seq' fun K3 hK3 => ?_
   refine wp_reg ?_
   refine ol_r (r_move rfl) rfl ?_
   refine ol_r (r_assign rfl) rfl ?_
   refine ol_nil (to_k0 (fun _ _ h => h) (hK3 _ _ _ _ _ ?_))
   clear hK3
   refine wp_seq' fun K4 hK4 => ?_
   refine wp_reg ?_
   refine ol_r (r_move rfl) rfl ?_
   refine ol_r (r_assign rfl) rfl ?_
   refine ol_nil (to_k0 (fun _ _ h => h) (hK4 _ _ _ _ _ ?_))
   clear hK4
   refine wp_seq' fun K5 hK5 => ?_
   refine wp_block' ?_
   apply wp_loopM (σ := Nat × Nat) (fun s => m ≤ s.1 ∧ s.1 ≤ s.2 ∧ s.2 ≤ q ∧ (∀ x, m ≤ x → x < s.1 → ltC cf (f x) (f p) = true) ∧ (∀ x, s.2 ≤ x → x < q → ltC cf (f x) (f p) = false)) (fun s => [(10, .int .i64 s.1), (11, .int .i64 s.2)]) [(0, _), (1, _), (2, _), (3, _), (4, _)] (fun s => []) [(5000, _), (5001, _), (5002, _), (5003, _), (5004, _), (5005, _), (5006, _), (5007, _), (5008, _), (5009, _), (5010, _)] (fun s => s.2 - s.1) ((m, q))
   ·try dsimp only
    exact ⟨Nat.le_refl _, by omega, Nat.le_refl _, fun x h4 h5 => by omega, fun x h4 h5 => by omega⟩
   ·exact (sub_cons rfl (sub_cons rfl sub_nil))
   ·exact (sub_cons rfl (sub_cons rfl (sub_cons rfl (sub_cons rfl (sub_cons rfl sub_nil)))))
   ·exact subH_nil
   ·exact (subH_same rfl (subH_same rfl (subH_same rfl (subH_same rfl (subH_same rfl (subH_same rfl (subH_same rfl (subH_same rfl (subH_same rfl (subH_same rfl (subH_same rfl subH_nil)))))))))))
   ·rintro ⟨i, j⟩ ⟨hi, hij, hj, hlo, hhi⟩
    dsimp only at hi hij hj hlo hhi ⊢
    intro K6 hK6
    refine wp_seq' fun K7 hK7 => ?_
    refine wp_seq' fun K8 hK8 => ?_
    refine wp_reg ?_
    refine ol_r (r_move rfl) rfl ?_
    refine ol_r (r_move rfl) rfl ?_
    refine ol_r (r_lss rfl rfl) rfl ?_
    refine ol_nil (to_k0 (fun _ _ h => h) (hK8 _ _ _ _ _ ?_))
    clear hK8
    refine wp_condD rfl (fun hc33 => ?_) (fun hc33 => ?_)
    ·refine wp_skip' (to_k0 (fun _ _ h => h) (hK7 _ _ _ _ _ ?_))
     clear hK7
     refine wp_block' ?_
     refine wp_seq' fun K9 hK9 => ?_
     refine wp_reg ?_
     refine ol_r (r_move rfl) rfl ?_
     refine ol_r (r_move rfl) rfl ?_
     refine ol_r (r_add rfl rfl (by omega)) rfl ?_
     refine ol_r (r_conv (k2 := .u64) rfl (by kernel_rfl) (by kernel_rfl) (wrap_u64 (by omega))) rfl ?_
     refine ol_r (r_shr1 rfl rfl) rfl ?_
     refine ol_r (r_conv (k2 := .i64) rfl (by kernel_rfl) (by kernel_rfl) (IntWalk.i64_in _ (by omega))) rfl ?_
     obtain ⟨h, hh⟩ : ∃ h : Nat, ((i : Int) + (j : Int)) / 2 = h := ⟨(i + j) / 2, by omega⟩
     rw [hh]
     refine ol_r (r_assign rfl) rfl ?_
     refine ol_nil (to_k0 (fun _ _ h => h) (hK9 _ _ _ _ _ ?_))
     clear hK9
     refine wp_seq' fun K10 hK10 => ?_
     refine wp_regq (by kernel_rfl) (by kernel_rfl) ?_
     refine ql_r (r_move rfl) rfl ?_
     refine ql_r (r_move rfl) rfl ?_
     refine ql_r (r_move rfl) rfl ?_
     refine ql_ixo (id := 5000) encI _ rfl rfl rfl rfl sl61 (by omega) (by omega) rfl fun x43 hx43 => ?_
     try simp only [Int.toNat_natCast] at hx43
     try simp only [Int.toNat_natCast] at hx43
     refine ql_r (r_ldw rfl (fun w1 hb1 hs1 hB1 => show Loads _ _ _ _ (.int .i64 x43) from ld_own (id := 5000) hs1 rfl rfl ty3 hx43)) rfl ?_
     refine ql_r (r_move rfl) rfl ?_
     refine ql_r (r_move rfl) rfl ?_
     refine ql_ixo (id := 5000) encI _ rfl rfl rfl rfl sl61 (by omega) (by omega) rfl fun x47 hx47 => ?_
     try simp only [Int.toNat_natCast] at hx47
     try simp only [Int.toNat_natCast] at hx47
     refine ql_r (r_ldw rfl (fun w1 hb1 hs1 hB1 => show Loads _ _ _ _ (.int .i64 x47) from ld_own (id := 5000) hs1 rfl rfl ty3 hx47)) rfl ?_
     refine ql_call rfl rfl cb103 rfl (fun w1 hb1 hs1 hB1 => hcmp _ _ _ (by rw [← tab_eq hx43]; exact hG _ (by omega)) (by rw [← tab_eq hx47]; exact hG _ (by omega)) (hs1.sub (subH_same rfl (subH_same rfl subH_nil))) hB1) ?_
     refine ql_r (r_lss rfl rfl) rfl ?_
     refine ql_nil (to_k0 (fun _ _ h => h) (hK10 _ _ _ _ _ ?_))
     clear hK10
     refine wp_condD rfl (fun hc50 => ?_) (fun hc50 => ?_)
     ·refine wp_reg ?_
      refine ol_r (r_move rfl) rfl ?_
      refine ol_r (r_addT (h + 1) rfl rfl (by omega) (by omega)) rfl ?_
      refine ol_r (r_assign rfl) rfl ?_
      refine ol_nil (to_k0 (fun _ _ h => h) (hK6 ((_, _)) _ _ ?_ ?_ (sub_cons rfl (sub_cons rfl sub_nil)) (sub_cons rfl (sub_cons rfl (sub_cons rfl (sub_cons rfl (sub_cons rfl sub_nil))))) (by exact subH_nil) (subH_same rfl (subH_same rfl (subH_same rfl (subH_same rfl (subH_same rfl (subH_same rfl (subH_same rfl (subH_same rfl (subH_same rfl (subH_same rfl (subH_same rfl subH_nil)))))))))))))
      ·try dsimp only
       first
         | exact ⟨by omega, by omega, by omega, fun x x1 x2 => by
             have hc : ltC cf (f h) (f p) = true := ltC_t (by rw [tab_eq hx43, tab_eq hx47]; exact hc50)
             by_cases hx : x = h
             · rw [hx]; exact hc
             · exact RR.lt_left hw (hM.r x h x1 (by omega) (by omega)) hc, hhi⟩
      ·try dsimp only
       omega
     ·refine wp_reg ?_
      refine ol_r (r_move rfl) rfl ?_
      refine ol_r (r_assign rfl) rfl ?_
      refine ol_nil (to_k0 (fun _ _ h => h) (hK6 ((_, _)) _ _ ?_ ?_ (sub_cons rfl (sub_cons rfl sub_nil)) (sub_cons rfl (sub_cons rfl (sub_cons rfl (sub_cons rfl (sub_cons rfl sub_nil))))) (by exact subH_nil) (subH_same rfl (subH_same rfl (subH_same rfl (subH_same rfl (subH_same rfl (subH_same rfl (subH_same rfl (subH_same rfl (subH_same rfl (subH_same rfl (subH_same rfl subH_nil)))))))))))))
      ·try dsimp only
       first
         | exact ⟨by omega, by omega, by omega, hlo, fun x x1 x2 => by
             have hc : ltC cf (f h) (f p) = false := ltC_f (by rw [tab_eq hx43, tab_eq hx47]; exact hc50)
             by_cases hx : x = h
             · rw [hx]; exact hc
             · cases h9 : ltC cf (f x) (f p) with
               | false => rfl
               | true => have := RR.lt_left hw (hM.r h x (by omega) (by omega) x2) h9; rw [hc] at this; cases this⟩
      ·try dsimp only
       omega
    ·refine wp_exit' (to_k0 (fun _ _ h => h) (hK5 _ _ _ _ _ ?_))
     clear hK5
     refine wp_seq' fun K11 hK11 => ?_
     refine wp_seq' fun K12 hK12 => ?_
     refine wp_reg ?_
     obtain rfl : i = j := by omega
     refine ol_r (r_move rfl) rfl ?_
     refine ol_r (r_assign rfl) rfl ?_
     refine ol_nil (to_k0 (fun _ _ h => h) (hK12 _ _ _ _ _ ?_))
     clear hK12
     refine wp_block' ?_
     apply wp_loopM (σ := Nat) (fun s => p ≤ s ∧ s ≤ i - 1) (fun s => [(13, .int .i64 s)]) [(0, _), (1, _), (2, _), (3, _), (4, _), (10, _)] (fun s => [(5000, .row a n c (encI.enc (tab n (mvR f p s))) 3 1)]) [(5001, _), (5002, _), (5003, _), (5004, _), (5005, _), (5006, _), (5007, _), (5008, _), (5009, _), (5010, _)] (fun s => i - s) (p)
     ·try dsimp only
      exact ⟨Nat.le_refl _, by omega⟩
     ·exact (sub_cons rfl sub_nil)
     ·exact (sub_cons rfl (sub_cons rfl (sub_cons rfl (sub_cons rfl (sub_cons rfl (sub_cons rfl sub_nil))))))
     ·exact (subH_row rfl (by rw [mvR_start]) subH_nil)
     ·exact (subH_same rfl (subH_same rfl (subH_same rfl (subH_same rfl (subH_same rfl (subH_same rfl (subH_same rfl (subH_same rfl (subH_same rfl (subH_same rfl subH_nil))))))))))
     ·rintro k ⟨hk1, hk2⟩
      have hFl := tab_len n (mvR f p k)
      intro K13 hK13
      refine wp_seq' fun K14 hK14 => ?_
      refine wp_seq' fun K15 hK15 => ?_
      refine wp_reg ?_
      refine ol_r (r_move rfl) rfl ?_
      refine ol_r (r_move rfl) rfl ?_
      refine ol_r (r_sub rfl rfl (by omega)) rfl ?_
      refine ol_r (r_lss rfl rfl) rfl ?_
      refine ol_nil (to_k0 (fun _ _ h => h) (hK15 _ _ _ _ _ ?_))
      clear hK15
      refine wp_condD rfl (fun hc58 => ?_) (fun hc58 => ?_)
      ·refine wp_skip' (to_k0 (fun _ _ h => h) (hK14 _ _ _ _ _ ?_))
       clear hK14
       refine wp_seq' fun K16 hK16 => ?_
       refine wp_block' ?_
       refine wp_rega [(999, [(5001, _), (5002, _), (5003, _), (5004, _), (5005, _), (5006, _), (5007, _), (5008, _), (5009, _), (5010, _)]), (15, [(5000, _)])] (by kernel_rfl) ⟨.inr (subH_same rfl (subH_same rfl (subH_same rfl (subH_same rfl (subH_same rfl (subH_same rfl (subH_same rfl (subH_same rfl (subH_same rfl (subH_same rfl subH_nil)))))))))), ⟨.inr (subH_same rfl subH_nil), trivial⟩⟩ ?_
       refine aq_r 0 999 rfl (by kernel_rfl) (by kernel_rfl) (by kernel_rfl) (.head _) (by kernel_rfl) (by kernel_rfl) rfl (r_move rfl) ?_
       refine aq_r 1 999 rfl (by kernel_rfl) (by kernel_rfl) (by kernel_rfl) (.head _) (by kernel_rfl) (by kernel_rfl) rfl (r_move rfl) ?_
       refine aq_r 2 999 rfl (by kernel_rfl) (by kernel_rfl) (by kernel_rfl) (.head _) (by kernel_rfl) (by kernel_rfl) rfl (r_move rfl) ?_
       refine aq_r 3 999 rfl (by kernel_rfl) (by kernel_rfl) (by kernel_rfl) (.head _) (by kernel_rfl) (by kernel_rfl) rfl (r_move rfl) ?_
       refine aq_r 4 999 rfl (by kernel_rfl) (by kernel_rfl) (by kernel_rfl) (.head _) (by kernel_rfl) (by kernel_rfl) rfl (r_add rfl rfl (by omega)) ?_
       refine aq_r 5 999 rfl (by kernel_rfl) (by kernel_rfl) (by kernel_rfl) (.head _) (by kernel_rfl) (by kernel_rfl) rfl (r_move rfl) ?_
       refine aq_r 6 999 rfl (by kernel_rfl) (by kernel_rfl) (by kernel_rfl) (.head _) (by kernel_rfl) (by kernel_rfl) rfl (r_move rfl) ?_
       refine aq_r 7 999 rfl (by kernel_rfl) (by kernel_rfl) (by kernel_rfl) (.head _) (by kernel_rfl) (by kernel_rfl) rfl (r_add rfl rfl (by omega)) ?_
       refine aq_ixo 8 15 rfl (by kernel_rfl) (by kernel_rfl) (by kernel_rfl) (.tail _ (.head _)) (by kernel_rfl) (by kernel_rfl) rfl (id := 5000) encI _ rfl rfl rfl rfl sl61 (by omega) (by omega) fun x69 hx69 => ?_
       try simp only [Int.toNat_natCast] at hx69
       try simp only [Int.toNat_natCast] at hx69
       refine aq_r 9 15 rfl (by kernel_rfl) (by kernel_rfl) (by kernel_rfl) (.tail _ (.head _)) (by kernel_rfl) (by kernel_rfl) rfl (r_ldw rfl (fun w1 hb1 hs1 hB1 => show Loads _ _ _ _ (.int .i64 x69) from ld_own (id := 5000) hs1 rfl rfl ty3 hx69)) ?_
       refine aq_r 10 999 rfl (by kernel_rfl) (by kernel_rfl) (by kernel_rfl) (.head _) (by kernel_rfl) (by kernel_rfl) rfl (r_move rfl) ?_
       refine aq_r 11 999 rfl (by kernel_rfl) (by kernel_rfl) (by kernel_rfl) (.head _) (by kernel_rfl) (by kernel_rfl) rfl (r_move rfl) ?_
       refine aq_one (i := 12) (by kernel_rfl) rfl fun K17 hK17 => ?_
       refine ol_ixo (id := 5000) encI _ rfl rfl rfl rfl sl61 (by omega) rfl fun x73 hx73 => ?_
       try simp only [Int.toNat_natCast] at hx73
       try simp only [Int.toNat_natCast] at hx73
       refine ol_nil (to_k0 (fun _ _ h => h) (hK17 _ _ ⟨.inr (by repeat' first | exact subH_nil | refine subH_same rfl ?_ | (refine subH_blk rfl (by repeat' first | exact sub_nil | refine sub_cons rfl ?_) ?_)), ⟨.inr (by repeat' first | exact subH_nil | refine subH_same rfl ?_ | (refine subH_blk rfl (by repeat' first | exact sub_nil | refine sub_cons rfl ?_) ?_)), trivial⟩⟩ ?_))
       clear hK17
       refine aq_r 13 15 rfl (by kernel_rfl) (by kernel_rfl) (by kernel_rfl) (.tail _ (.head _)) (by kernel_rfl) (by kernel_rfl) rfl (r_ldw rfl (fun w1 hb1 hs1 hB1 => show Loads _ _ _ _ (.int .i64 x73) from ld_own (id := 5000) hs1 rfl rfl ty3 hx73)) ?_
       refine aq_ixo 14 15 rfl (by kernel_rfl) (by kernel_rfl) (by kernel_rfl) (.tail _ (.head _)) (by kernel_rfl) (by kernel_rfl) rfl (id := 5000) encI _ rfl rfl rfl rfl sl61 (by omega) (by omega) fun x75 hx75 => ?_
       try simp only [Int.toNat_natCast] at hx75
       try simp only [Int.toNat_natCast] at hx75
       refine aq_one (i := 15) (by kernel_rfl) rfl fun K18 hK18 => ?_
       refine ol_storeRow (id := 5000) _ _ _ rfl rfl rfl rfl sz3 (by omega) ?_
       refine ol_nil (to_k0 (fun _ _ h => h) (hK18 _ _ ⟨.inr (by repeat' first | exact subH_nil | refine subH_same rfl ?_ | (refine subH_blk rfl (by repeat' first | exact sub_nil | refine sub_cons rfl ?_) ?_)), ⟨.inl (by kernel_rfl), trivial⟩⟩ ?_))
       clear hK18
       refine aq_one (i := 16) (by kernel_rfl) rfl fun K19 hK19 => ?_
       refine ol_ixo (id := 5000) encI _ rfl rfl rfl rfl sl61 (by omega) rfl fun x76 hx76 => ?_
       try simp only [Int.toNat_natCast] at hx76
       try simp only [Int.toNat_natCast] at hx76
       refine ol_nil (to_k0 (fun _ _ h => h) (hK19 _ _ ⟨.inr (by repeat' first | exact subH_nil | refine subH_same rfl ?_ | (refine subH_blk rfl (by repeat' first | exact sub_nil | refine sub_cons rfl ?_) ?_)), ⟨.inl (by kernel_rfl), trivial⟩⟩ ?_))
       clear hK19
       refine aq_one (i := 17) (by kernel_rfl) rfl fun K20 hK20 => ?_
       refine ol_storeRow (id := 5000) _ _ _ rfl rfl rfl rfl sz3 (by omega) ?_
       refine ol_nil (to_k0 (fun _ _ h => h) (hK20 _ _ ⟨.inr (by repeat' first | exact subH_nil | refine subH_same rfl ?_ | (refine subH_blk rfl (by repeat' first | exact sub_nil | refine sub_cons rfl ?_) ?_)), ⟨.inl (by kernel_rfl), trivial⟩⟩ ?_))
       clear hK20
       refine aq_done (by kernel_rfl) ?_
       refine (to_k0 (fun _ _ h => h) (hK16 _ _ _ _ _ ?_))
       clear hK16
       refine wp_reg ?_
       refine ol_r (r_move rfl) rfl ?_
       refine ol_r (r_addT (k + 1) rfl rfl (by omega) (by omega)) rfl ?_
       refine ol_r (r_assign rfl) rfl ?_
       refine ol_nil (to_k0 (fun _ _ h => h) (hK13 (k + 1) _ _ ?_ ?_ (sub_cons rfl sub_nil) (sub_cons rfl (sub_cons rfl (sub_cons rfl (sub_cons rfl (sub_cons rfl (sub_cons rfl sub_nil)))))) (by exact (subH_row rfl (by (rw [← mvR_step (by omega), sw_row (i := k) (j := k + 1) (by omega) (by omega) ⟨_, by omega, hx69⟩ ⟨_, by omega, hx73⟩])) subH_nil)) (subH_same rfl (subH_same rfl (subH_same rfl (subH_same rfl (subH_same rfl (subH_same rfl (subH_same rfl (subH_same rfl (subH_same rfl (subH_same rfl subH_nil))))))))))))
       ·try dsimp only
        exact ⟨by omega, by omega⟩
       ·try dsimp only
        omega
      ·refine wp_exit' (to_k0 (fun _ _ h => h) (hK11 _ _ _ _ _ ?_))
       clear hK11
       refine hQ.ret rvs0 (fun _ _ h => h) fun w hb hs hB hkd => ?_
       exact ⟨_, rfl, hb, hs.sub (subH_same rfl (subH_same rfl (subH_same rfl (subH_same rfl (subH_same rfl (subH_same rfl (subH_same rfl (subH_same rfl (subH_same rfl (subH_same rfl (subH_same rfl subH_nil))))))))))), hB, hkd, by
         obtain rfl : k = i - 1 := by omega
         obtain rfl : m = p + 1 := by omega
         exact mvR_blo hw hM hi hj hlo hhi⟩
  ·refine wp_skip' (to_k0 (fun _ _ h => h) (hK1 _ _ _ _ _ ?_))
   clear hK1
   refine wp_seq' fun K21 hK21 => ?_
   refine wp_seq' fun K22 hK22 => ?_
   refine wp_reg ?_
   refine ol_r (r_move rfl) rfl ?_
   refine ol_r (r_move rfl) rfl ?_
   refine ol_r (r_sub rfl rfl (by omega)) rfl ?_
   refine ol_r (r_eql rfl rfl) rfl ?_
   refine ol_nil (to_k0 (fun _ _ h => h) (hK22 _ _ _ _ _ ?_))
   clear hK22
   refine wp_condD rfl (fun hc80 => ?_) (fun hc80 => ?_)
   ·refine wp_seq' fun K23 hK23 => ?_
    refine wp_reg ?_
    refine ol_r (r_move rfl) rfl ?_
    refine ol_r (r_assign rfl) rfl ?_
    refine ol_nil (to_k0 (fun _ _ h => h) (hK23 _ _ _ _ _ ?_))
    clear hK23
    refine wp_seq' fun K24 hK24 => ?_
    refine wp_reg ?_
    refine ol_r (r_move rfl) rfl ?_
    refine ol_r (r_assign rfl) rfl ?_
    refine ol_nil (to_k0 (fun _ _ h => h) (hK24 _ _ _ _ _ ?_))
    clear hK24
    refine wp_seq' fun K25 hK25 => ?_
    refine wp_block' ?_
    apply wp_loopM (σ := Nat × Nat) (fun s => p ≤ s.1 ∧ s.1 ≤ s.2 ∧ s.2 ≤ m ∧ (∀ x, p ≤ x → x < s.1 → ltC cf (f m) (f x) = false) ∧ (∀ x, s.2 ≤ x → x < m → ltC cf (f m) (f x) = true)) (fun s => [(14, .int .i64 s.1), (15, .int .i64 s.2)]) [(0, _), (1, _), (2, _), (3, _), (4, _)] (fun s => []) [(5000, _), (5001, _), (5002, _), (5003, _), (5004, _), (5005, _), (5006, _), (5007, _), (5008, _), (5009, _), (5010, _)] (fun s => s.2 - s.1) ((p, m))
    ·try dsimp only
     exact ⟨Nat.le_refl _, by omega, Nat.le_refl _, fun x h4 h5 => by omega, fun x h4 h5 => by omega⟩
    ·exact (sub_cons rfl (sub_cons rfl sub_nil))
    ·exact (sub_cons rfl (sub_cons rfl (sub_cons rfl (sub_cons rfl (sub_cons rfl sub_nil)))))
    ·exact subH_nil
    ·exact (subH_same rfl (subH_same rfl (subH_same rfl (subH_same rfl (subH_same rfl (subH_same rfl (subH_same rfl (subH_same rfl (subH_same rfl (subH_same rfl (subH_same rfl subH_nil)))))))))))
    ·rintro ⟨i, j⟩ ⟨hi, hij, hj, hlo, hhi⟩
     dsimp only at hi hij hj hlo hhi ⊢
     intro K26 hK26
     refine wp_seq' fun K27 hK27 => ?_
     refine wp_seq' fun K28 hK28 => ?_
     refine wp_reg ?_
     refine ol_r (r_move rfl) rfl ?_
     refine ol_r (r_move rfl) rfl ?_
     refine ol_r (r_lss rfl rfl) rfl ?_
     refine ol_nil (to_k0 (fun _ _ h => h) (hK28 _ _ _ _ _ ?_))
     clear hK28
     refine wp_condD rfl (fun hc85 => ?_) (fun hc85 => ?_)
     ·refine wp_skip' (to_k0 (fun _ _ h => h) (hK27 _ _ _ _ _ ?_))
      clear hK27
      refine wp_block' ?_
      refine wp_seq' fun K29 hK29 => ?_
      refine wp_reg ?_
      refine ol_r (r_move rfl) rfl ?_
      refine ol_r (r_move rfl) rfl ?_
      refine ol_r (r_add rfl rfl (by omega)) rfl ?_
      refine ol_r (r_conv (k2 := .u64) rfl (by kernel_rfl) (by kernel_rfl) (wrap_u64 (by omega))) rfl ?_
      refine ol_r (r_shr1 rfl rfl) rfl ?_
      refine ol_r (r_conv (k2 := .i64) rfl (by kernel_rfl) (by kernel_rfl) (IntWalk.i64_in _ (by omega))) rfl ?_
      obtain ⟨h, hh⟩ : ∃ h : Nat, ((i : Int) + (j : Int)) / 2 = h := ⟨(i + j) / 2, by omega⟩
      rw [hh]
      refine ol_r (r_assign rfl) rfl ?_
      refine ol_nil (to_k0 (fun _ _ h => h) (hK29 _ _ _ _ _ ?_))
      clear hK29
      refine wp_seq' fun K30 hK30 => ?_
      refine wp_regq (by kernel_rfl) (by kernel_rfl) ?_
      refine ql_r (r_move rfl) rfl ?_
      refine ql_r (r_move rfl) rfl ?_
      refine ql_r (r_move rfl) rfl ?_
      refine ql_ixo (id := 5000) encI _ rfl rfl rfl rfl sl61 (by omega) (by omega) rfl fun x95 hx95 => ?_
      try simp only [Int.toNat_natCast] at hx95
      try simp only [Int.toNat_natCast] at hx95
      refine ql_r (r_ldw rfl (fun w1 hb1 hs1 hB1 => show Loads _ _ _ _ (.int .i64 x95) from ld_own (id := 5000) hs1 rfl rfl ty3 hx95)) rfl ?_
      refine ql_r (r_move rfl) rfl ?_
      refine ql_r (r_move rfl) rfl ?_
      refine ql_ixo (id := 5000) encI _ rfl rfl rfl rfl sl61 (by omega) (by omega) rfl fun x99 hx99 => ?_
      try simp only [Int.toNat_natCast] at hx99
      try simp only [Int.toNat_natCast] at hx99
      refine ql_r (r_ldw rfl (fun w1 hb1 hs1 hB1 => show Loads _ _ _ _ (.int .i64 x99) from ld_own (id := 5000) hs1 rfl rfl ty3 hx99)) rfl ?_
      refine ql_call rfl rfl cb103 rfl (fun w1 hb1 hs1 hB1 => hcmp _ _ _ (by rw [← tab_eq hx95]; exact hG _ (by omega)) (by rw [← tab_eq hx99]; exact hG _ (by omega)) (hs1.sub (subH_same rfl (subH_same rfl subH_nil))) hB1) ?_
      refine ql_r (r_lss rfl rfl) rfl ?_
      refine ql_r (r_not rfl) rfl ?_
      refine ql_nil (to_k0 (fun _ _ h => h) (hK30 _ _ _ _ _ ?_))
      clear hK30
      refine wp_condN rfl (fun hc103 => ?_) (fun hc103 => ?_)
      ·refine wp_reg ?_
       refine ol_r (r_move rfl) rfl ?_
       refine ol_r (r_addT (h + 1) rfl rfl (by omega) (by omega)) rfl ?_
       refine ol_r (r_assign rfl) rfl ?_
       refine ol_nil (to_k0 (fun _ _ h => h) (hK26 ((_, _)) _ _ ?_ ?_ (sub_cons rfl (sub_cons rfl sub_nil)) (sub_cons rfl (sub_cons rfl (sub_cons rfl (sub_cons rfl (sub_cons rfl sub_nil))))) (by exact subH_nil) (subH_same rfl (subH_same rfl (subH_same rfl (subH_same rfl (subH_same rfl (subH_same rfl (subH_same rfl (subH_same rfl (subH_same rfl (subH_same rfl (subH_same rfl subH_nil)))))))))))))
       ·try dsimp only
        first
          | exact ⟨by omega, by omega, by omega, fun x x1 x2 => (by
              have hc : ltC cf (f m) (f h) = false := ltC_f (by rw [tab_eq hx95, tab_eq hx99]; exact hc103)
              by_cases hx : x = h
              · rw [hx]; exact hc
              · cases h9 : ltC cf (f m) (f x) with
                | false => rfl
                | true => have := RR.lt_right hw (hM.l x h x1 (by omega) (by omega)) h9; rw [hc] at this; cases this), hhi⟩
       ·try dsimp only
        omega
      ·refine wp_reg ?_
       refine ol_r (r_move rfl) rfl ?_
       refine ol_r (r_assign rfl) rfl ?_
       refine ol_nil (to_k0 (fun _ _ h => h) (hK26 ((_, _)) _ _ ?_ ?_ (sub_cons rfl (sub_cons rfl sub_nil)) (sub_cons rfl (sub_cons rfl (sub_cons rfl (sub_cons rfl (sub_cons rfl sub_nil))))) (by exact subH_nil) (subH_same rfl (subH_same rfl (subH_same rfl (subH_same rfl (subH_same rfl (subH_same rfl (subH_same rfl (subH_same rfl (subH_same rfl (subH_same rfl (subH_same rfl subH_nil)))))))))))))
       ·try dsimp only
        first
          | exact ⟨by omega, by omega, by omega, hlo, fun x x1 x2 => by
              have hc : ltC cf (f m) (f h) = true := ltC_t (by rw [tab_eq hx95, tab_eq hx99]; exact hc103)
              by_cases hx : x = h
              · rw [hx]; exact hc
              · exact RR.lt_right hw (hM.l h x (by omega) (by omega) x2) hc⟩
       ·try dsimp only
        omega
     ·refine wp_exit' (to_k0 (fun _ _ h => h) (hK25 _ _ _ _ _ ?_))
      clear hK25
      refine wp_seq' fun K31 hK31 => ?_
      refine wp_seq' fun K32 hK32 => ?_
      refine wp_reg ?_
      obtain rfl : i = j := by omega
      obtain rfl : q = m + 1 := by omega
      refine ol_r (r_move rfl) rfl ?_
      refine ol_r (r_assign rfl) rfl ?_
      refine ol_nil (to_k0 (fun _ _ h => h) (hK32 _ _ _ _ _ ?_))
      clear hK32
      refine wp_block' ?_
      apply wp_loopM (σ := Nat) (fun s => i ≤ s ∧ s ≤ m) (fun s => [(17, .int .i64 s)]) [(0, _), (1, _), (2, _), (3, _), (4, _), (14, _)] (fun s => [(5000, .row a n c (encI.enc (tab n (mvL f s m))) 3 1)]) [(5001, _), (5002, _), (5003, _), (5004, _), (5005, _), (5006, _), (5007, _), (5008, _), (5009, _), (5010, _)] (fun s => s) (m)
      ·try dsimp only
       exact ⟨hj, Nat.le_refl _⟩
      ·exact (sub_cons rfl sub_nil)
      ·exact (sub_cons rfl (sub_cons rfl (sub_cons rfl (sub_cons rfl (sub_cons rfl (sub_cons rfl sub_nil))))))
      ·exact (subH_row rfl (by rw [mvL_start]) subH_nil)
      ·exact (subH_same rfl (subH_same rfl (subH_same rfl (subH_same rfl (subH_same rfl (subH_same rfl (subH_same rfl (subH_same rfl (subH_same rfl (subH_same rfl subH_nil))))))))))
      ·rintro k ⟨hk1, hk2⟩
       have hFl := tab_len n (mvL f k m)
       intro K33 hK33
       refine wp_seq' fun K34 hK34 => ?_
       refine wp_seq' fun K35 hK35 => ?_
       refine wp_reg ?_
       refine ol_r (r_move rfl) rfl ?_
       refine ol_r (r_move rfl) rfl ?_
       refine ol_r (r_gtr rfl rfl) rfl ?_
       refine ol_nil (to_k0 (fun _ _ h => h) (hK35 _ _ _ _ _ ?_))
       clear hK35
       refine wp_condD rfl (fun hc110 => ?_) (fun hc110 => ?_)
       ·refine wp_skip' (to_k0 (fun _ _ h => h) (hK34 _ _ _ _ _ ?_))
        clear hK34
        refine wp_seq' fun K36 hK36 => ?_
        refine wp_block' ?_
        refine wp_rega [(999, [(5001, _), (5002, _), (5003, _), (5004, _), (5005, _), (5006, _), (5007, _), (5008, _), (5009, _), (5010, _)]), (15, [(5000, _)])] (by kernel_rfl) ⟨.inr (subH_same rfl (subH_same rfl (subH_same rfl (subH_same rfl (subH_same rfl (subH_same rfl (subH_same rfl (subH_same rfl (subH_same rfl (subH_same rfl subH_nil)))))))))), ⟨.inr (subH_same rfl subH_nil), trivial⟩⟩ ?_
        refine aq_r 0 999 rfl (by kernel_rfl) (by kernel_rfl) (by kernel_rfl) (.head _) (by kernel_rfl) (by kernel_rfl) rfl (r_move rfl) ?_
        refine aq_r 1 999 rfl (by kernel_rfl) (by kernel_rfl) (by kernel_rfl) (.head _) (by kernel_rfl) (by kernel_rfl) rfl (r_move rfl) ?_
        refine aq_r 2 999 rfl (by kernel_rfl) (by kernel_rfl) (by kernel_rfl) (.head _) (by kernel_rfl) (by kernel_rfl) rfl (r_move rfl) ?_
        refine aq_r 3 999 rfl (by kernel_rfl) (by kernel_rfl) (by kernel_rfl) (.head _) (by kernel_rfl) (by kernel_rfl) rfl (r_move rfl) ?_
        refine aq_r 4 999 rfl (by kernel_rfl) (by kernel_rfl) (by kernel_rfl) (.head _) (by kernel_rfl) (by kernel_rfl) rfl (r_sub rfl rfl (by omega)) ?_
        refine aq_r 5 999 rfl (by kernel_rfl) (by kernel_rfl) (by kernel_rfl) (.head _) (by kernel_rfl) (by kernel_rfl) rfl (r_move rfl) ?_
        refine aq_r 6 999 rfl (by kernel_rfl) (by kernel_rfl) (by kernel_rfl) (.head _) (by kernel_rfl) (by kernel_rfl) rfl (r_move rfl) ?_
        refine aq_r 7 999 rfl (by kernel_rfl) (by kernel_rfl) (by kernel_rfl) (.head _) (by kernel_rfl) (by kernel_rfl) rfl (r_sub rfl rfl (by omega)) ?_
        refine aq_ixo 8 15 rfl (by kernel_rfl) (by kernel_rfl) (by kernel_rfl) (.tail _ (.head _)) (by kernel_rfl) (by kernel_rfl) rfl (id := 5000) encI _ rfl rfl rfl rfl sl61 (by omega) (by omega) fun x121 hx121 => ?_
        try simp only [Int.toNat_natCast] at hx121
        try simp only [Int.toNat_natCast] at hx121
        refine aq_r 9 15 rfl (by kernel_rfl) (by kernel_rfl) (by kernel_rfl) (.tail _ (.head _)) (by kernel_rfl) (by kernel_rfl) rfl (r_ldw rfl (fun w1 hb1 hs1 hB1 => show Loads _ _ _ _ (.int .i64 x121) from ld_own (id := 5000) hs1 rfl rfl ty3 hx121)) ?_
        refine aq_r 10 999 rfl (by kernel_rfl) (by kernel_rfl) (by kernel_rfl) (.head _) (by kernel_rfl) (by kernel_rfl) rfl (r_move rfl) ?_
        refine aq_r 11 999 rfl (by kernel_rfl) (by kernel_rfl) (by kernel_rfl) (.head _) (by kernel_rfl) (by kernel_rfl) rfl (r_move rfl) ?_
        refine aq_one (i := 12) (by kernel_rfl) rfl fun K37 hK37 => ?_
        refine ol_ixo (id := 5000) encI _ rfl rfl rfl rfl sl61 (by omega) rfl fun x125 hx125 => ?_
        try simp only [Int.toNat_natCast] at hx125
        try simp only [Int.toNat_natCast] at hx125
        refine ol_nil (to_k0 (fun _ _ h => h) (hK37 _ _ ⟨.inr (by repeat' first | exact subH_nil | refine subH_same rfl ?_ | (refine subH_blk rfl (by repeat' first | exact sub_nil | refine sub_cons rfl ?_) ?_)), ⟨.inr (by repeat' first | exact subH_nil | refine subH_same rfl ?_ | (refine subH_blk rfl (by repeat' first | exact sub_nil | refine sub_cons rfl ?_) ?_)), trivial⟩⟩ ?_))
        clear hK37
        refine aq_r 13 15 rfl (by kernel_rfl) (by kernel_rfl) (by kernel_rfl) (.tail _ (.head _)) (by kernel_rfl) (by kernel_rfl) rfl (r_ldw rfl (fun w1 hb1 hs1 hB1 => show Loads _ _ _ _ (.int .i64 x125) from ld_own (id := 5000) hs1 rfl rfl ty3 hx125)) ?_
        refine aq_ixo 14 15 rfl (by kernel_rfl) (by kernel_rfl) (by kernel_rfl) (.tail _ (.head _)) (by kernel_rfl) (by kernel_rfl) rfl (id := 5000) encI _ rfl rfl rfl rfl sl61 (by omega) (by omega) fun x127 hx127 => ?_
        try simp only [Int.toNat_natCast] at hx127
        try simp only [Int.toNat_natCast] at hx127
        refine aq_one (i := 15) (by kernel_rfl) rfl fun K38 hK38 => ?_
        refine ol_storeRow (id := 5000) _ _ _ rfl rfl rfl rfl sz3 (by omega) ?_
        refine ol_nil (to_k0 (fun _ _ h => h) (hK38 _ _ ⟨.inr (by repeat' first | exact subH_nil | refine subH_same rfl ?_ | (refine subH_blk rfl (by repeat' first | exact sub_nil | refine sub_cons rfl ?_) ?_)), ⟨.inl (by kernel_rfl), trivial⟩⟩ ?_))
        clear hK38
        refine aq_one (i := 16) (by kernel_rfl) rfl fun K39 hK39 => ?_
        refine ol_ixo (id := 5000) encI _ rfl rfl rfl rfl sl61 (by omega) rfl fun x128 hx128 => ?_
        try simp only [Int.toNat_natCast] at hx128
        try simp only [Int.toNat_natCast] at hx128
        refine ol_nil (to_k0 (fun _ _ h => h) (hK39 _ _ ⟨.inr (by repeat' first | exact subH_nil | refine subH_same rfl ?_ | (refine subH_blk rfl (by repeat' first | exact sub_nil | refine sub_cons rfl ?_) ?_)), ⟨.inl (by kernel_rfl), trivial⟩⟩ ?_))
        clear hK39
        refine aq_one (i := 17) (by kernel_rfl) rfl fun K40 hK40 => ?_
        refine ol_storeRow (id := 5000) _ _ _ rfl rfl rfl rfl sz3 (by omega) ?_
        refine ol_nil (to_k0 (fun _ _ h => h) (hK40 _ _ ⟨.inr (by repeat' first | exact subH_nil | refine subH_same rfl ?_ | (refine subH_blk rfl (by repeat' first | exact sub_nil | refine sub_cons rfl ?_) ?_)), ⟨.inl (by kernel_rfl), trivial⟩⟩ ?_))
        clear hK40
        refine aq_done (by kernel_rfl) ?_
        refine (to_k0 (fun _ _ h => h) (hK36 _ _ _ _ _ ?_))
        clear hK36
        refine wp_reg ?_
        refine ol_r (r_move rfl) rfl ?_
        refine ol_r (r_subT (k - 1) rfl rfl (by omega) (by omega)) rfl ?_
        refine ol_r (r_assign rfl) rfl ?_
        refine ol_nil (to_k0 (fun _ _ h => h) (hK33 (k - 1) _ _ ?_ ?_ (sub_cons rfl sub_nil) (sub_cons rfl (sub_cons rfl (sub_cons rfl (sub_cons rfl (sub_cons rfl (sub_cons rfl sub_nil)))))) (by exact (subH_row rfl (by (rw [← mvL_step (by omega) (by omega), sw_row (i := k) (j := k - 1) (by omega) (by omega) ⟨_, by omega, hx121⟩ ⟨_, by omega, hx125⟩])) subH_nil)) (subH_same rfl (subH_same rfl (subH_same rfl (subH_same rfl (subH_same rfl (subH_same rfl (subH_same rfl (subH_same rfl (subH_same rfl (subH_same rfl subH_nil))))))))))))
        ·try dsimp only
         exact ⟨by omega, by omega⟩
        ·try dsimp only
         omega
       ·refine wp_exit' (to_k0 (fun _ _ h => h) (hK31 _ _ _ _ _ ?_))
        clear hK31
        refine hQ.ret rvs0 (fun _ _ h => h) fun w hb hs hB hkd => ?_
        exact ⟨_, rfl, hb, hs.sub (subH_same rfl (subH_same rfl (subH_same rfl (subH_same rfl (subH_same rfl (subH_same rfl (subH_same rfl (subH_same rfl (subH_same rfl (subH_same rfl (subH_same rfl subH_nil))))))))))), hB, hkd, by
          obtain rfl : k = i := by omega
          exact mvL_blo hw hM hi hj hlo hhi⟩
   ·refine wp_skip' (to_k0 (fun _ _ h => h) (hK21 _ _ _ _ _ ?_))
    clear hK21
    refine wp_seq' fun K41 hK41 => ?_
    refine wp_reg ?_
    refine ol_r (r_move rfl) rfl ?_
    refine ol_r (r_move rfl) rfl ?_
    refine ol_r (r_add rfl rfl (by omega)) rfl ?_
    refine ol_r (r_conv (k2 := .u64) rfl (by kernel_rfl) (by kernel_rfl) (wrap_u64 (by omega))) rfl ?_
    refine ol_r (r_shr1 rfl rfl) rfl ?_
    refine ol_r (r_conv (k2 := .i64) rfl (by kernel_rfl) (by kernel_rfl) (IntWalk.i64_in _ (by omega))) rfl ?_
    obtain ⟨mid, hmid⟩ : ∃ h : Nat, ((p : Int) + (q : Int)) / 2 = h := ⟨(p + q) / 2, by omega⟩
    rw [hmid]
    refine ol_r (r_assign rfl) rfl ?_
    refine ol_nil (to_k0 (fun _ _ h => h) (hK41 _ _ _ _ _ ?_))
    clear hK41
    refine wp_seq' fun K42 hK42 => ?_
    refine wp_reg ?_
    refine ol_r (r_move rfl) rfl ?_
    refine ol_r (r_move rfl) rfl ?_
    refine ol_r (r_addT (mid + m) rfl rfl (by omega) (by omega)) rfl ?_
    refine ol_r (r_assign rfl) rfl ?_
    refine ol_nil (to_k0 (fun _ _ h => h) (hK42 _ _ _ _ _ ?_))
    clear hK42
    refine wp_seq' fun K43 hK43 => ?_
    refine wp_reg ?_
    refine ol_r (r_assign rfl) rfl ?_
    refine ol_r (r_assign rfl) rfl ?_
    refine ol_nil (to_k0 (fun _ _ h => h) (hK43 _ _ _ _ _ ?_))
    clear hK43
    apply wp_seq_cutM (σ := Nat × Nat) (fun s => (mid < m ∧ s.1 = mid + m - q ∧ s.2 = mid) ∨ (m ≤ mid ∧ s.1 = p ∧ s.2 = m)) (fun s => [(20, .int .i64 s.1), (21, .int .i64 s.2)]) [(0, _), (1, _), (2, _), (3, _), (4, _), (18, _), (19, _)] (fun s => []) [(5000, _), (5001, _), (5002, _), (5003, _), (5004, _), (5005, _), (5006, _), (5007, _), (5008, _), (5009, _), (5010, _)]
    ·exact (sub_cons rfl (sub_cons rfl (sub_cons rfl (sub_cons rfl (sub_cons rfl (sub_cons rfl (sub_cons rfl sub_nil)))))))
    ·exact (subH_same rfl (subH_same rfl (subH_same rfl (subH_same rfl (subH_same rfl (subH_same rfl (subH_same rfl (subH_same rfl (subH_same rfl (subH_same rfl (subH_same rfl subH_nil)))))))))))
    ·intro K44 hK44
     refine wp_seq' fun K45 hK45 => ?_
     refine wp_reg ?_
     refine ol_r (r_move rfl) rfl ?_
     refine ol_r (r_move rfl) rfl ?_
     refine ol_r (r_gtr rfl rfl) rfl ?_
     refine ol_nil (to_k0 (fun _ _ h => h) (hK45 _ _ _ _ _ ?_))
     clear hK45
     refine wp_condD rfl (fun hc140 => ?_) (fun hc140 => ?_)
     ·refine wp_seq' fun K46 hK46 => ?_
      refine wp_reg ?_
      refine ol_r (r_move rfl) rfl ?_
      refine ol_r (r_move rfl) rfl ?_
      refine ol_r (r_subT (mid + m - q) rfl rfl (by omega) (by omega)) rfl ?_
      refine ol_r (r_assign rfl) rfl ?_
      refine ol_nil (to_k0 (fun _ _ h => h) (hK46 _ _ _ _ _ ?_))
      clear hK46
      refine wp_reg ?_
      refine ol_r (r_move rfl) rfl ?_
      refine ol_r (r_assign rfl) rfl ?_
      refine ol_nil (to_k0 (fun _ _ h => h) (hK44 ((_, _)) _ _ ?_ (sub_cons rfl (sub_cons rfl sub_nil)) (sub_cons rfl (sub_cons rfl (sub_cons rfl (sub_cons rfl (sub_cons rfl (sub_cons rfl (sub_cons rfl sub_nil))))))) subH_nil (subH_same rfl (subH_same rfl (subH_same rfl (subH_same rfl (subH_same rfl (subH_same rfl (subH_same rfl (subH_same rfl (subH_same rfl (subH_same rfl (subH_same rfl subH_nil)))))))))))))
      try dsimp only
      first
      | exact .inl ⟨by omega, rfl, rfl⟩
     ·refine wp_seq' fun K47 hK47 => ?_
      refine wp_reg ?_
      refine ol_r (r_move rfl) rfl ?_
      refine ol_r (r_assign rfl) rfl ?_
      refine ol_nil (to_k0 (fun _ _ h => h) (hK47 _ _ _ _ _ ?_))
      clear hK47
      refine wp_reg ?_
      refine ol_r (r_move rfl) rfl ?_
      refine ol_r (r_assign rfl) rfl ?_
      refine ol_nil (to_k0 (fun _ _ h => h) (hK44 ((_, _)) _ _ ?_ (sub_cons rfl (sub_cons rfl sub_nil)) (sub_cons rfl (sub_cons rfl (sub_cons rfl (sub_cons rfl (sub_cons rfl (sub_cons rfl (sub_cons rfl sub_nil))))))) subH_nil (subH_same rfl (subH_same rfl (subH_same rfl (subH_same rfl (subH_same rfl (subH_same rfl (subH_same rfl (subH_same rfl (subH_same rfl (subH_same rfl (subH_same rfl subH_nil)))))))))))))
      try dsimp only
      first
      | exact .inr ⟨by omega, rfl, rfl⟩
    ·rintro ⟨s0, r0⟩ h0
     dsimp only at h0 ⊢
     refine wp_seq' fun K48 hK48 => ?_
     refine wp_reg ?_
     refine ol_r (r_move rfl) rfl ?_
     refine ol_r (r_subT (mid + m - 1) rfl rfl (by omega) (by omega)) rfl ?_
     refine ol_r (r_assign rfl) rfl ?_
     refine ol_nil (to_k0 (fun _ _ h => h) (hK48 _ _ _ _ _ ?_))
     clear hK48
     refine wp_seq' fun K49 hK49 => ?_
     refine wp_block' ?_
     apply wp_loopM (σ := Nat × Nat) (fun s => s0 ≤ s.1 ∧ s.1 ≤ s.2 ∧ s.2 ≤ r0 ∧ (s0 < s.1 → ltC cf (f (mid + m - s.1)) (f (s.1 - 1)) = false) ∧ (s.2 < r0 → ltC cf (f (mid + m - 1 - s.2)) (f s.2) = true)) (fun s => [(20, .int .i64 s.1), (21, .int .i64 s.2)]) [(0, _), (1, _), (2, _), (3, _), (4, _), (18, _), (19, _), (22, _)] (fun s => []) [(5000, _), (5001, _), (5002, _), (5003, _), (5004, _), (5005, _), (5006, _), (5007, _), (5008, _), (5009, _), (5010, _)] (fun s => s.2 - s.1) ((s0, r0))
     ·try dsimp only
      exact ⟨Nat.le_refl _, by omega, Nat.le_refl _, fun h4 => by omega, fun h4 => by omega⟩
     ·exact (sub_cons rfl (sub_cons rfl sub_nil))
     ·exact (sub_cons rfl (sub_cons rfl (sub_cons rfl (sub_cons rfl (sub_cons rfl (sub_cons rfl (sub_cons rfl (sub_cons rfl sub_nil))))))))
     ·exact subH_nil
     ·exact (subH_same rfl (subH_same rfl (subH_same rfl (subH_same rfl (subH_same rfl (subH_same rfl (subH_same rfl (subH_same rfl (subH_same rfl (subH_same rfl (subH_same rfl subH_nil)))))))))))
     ·rintro ⟨u, r⟩ ⟨hi, hij, hj, hlo, hhi⟩
      dsimp only at hi hij hj hlo hhi ⊢
      intro K50 hK50
      refine wp_seq' fun K51 hK51 => ?_
      refine wp_seq' fun K52 hK52 => ?_
      refine wp_reg ?_
      refine ol_r (r_move rfl) rfl ?_
      refine ol_r (r_move rfl) rfl ?_
      refine ol_r (r_lss rfl rfl) rfl ?_
      refine ol_nil (to_k0 (fun _ _ h => h) (hK52 _ _ _ _ _ ?_))
      clear hK52
      refine wp_condD rfl (fun hc151 => ?_) (fun hc151 => ?_)
      ·refine wp_skip' (to_k0 (fun _ _ h => h) (hK51 _ _ _ _ _ ?_))
       clear hK51
       refine wp_block' ?_
       refine wp_seq' fun K53 hK53 => ?_
       refine wp_reg ?_
       refine ol_r (r_move rfl) rfl ?_
       refine ol_r (r_move rfl) rfl ?_
       refine ol_r (r_add rfl rfl (by omega)) rfl ?_
       refine ol_r (r_conv (k2 := .u64) rfl (by kernel_rfl) (by kernel_rfl) (wrap_u64 (by omega))) rfl ?_
       refine ol_r (r_shr1 rfl rfl) rfl ?_
       refine ol_r (r_conv (k2 := .i64) rfl (by kernel_rfl) (by kernel_rfl) (IntWalk.i64_in _ (by omega))) rfl ?_
       obtain ⟨h, hh⟩ : ∃ h : Nat, ((u : Int) + (r : Int)) / 2 = h := ⟨(u + r) / 2, by omega⟩
       rw [hh]
       refine ol_r (r_assign rfl) rfl ?_
       refine ol_nil (to_k0 (fun _ _ h => h) (hK53 _ _ _ _ _ ?_))
       clear hK53
       refine wp_seq' fun K54 hK54 => ?_
       refine wp_regq (by kernel_rfl) (by kernel_rfl) ?_
       refine ql_r (r_move rfl) rfl ?_
       refine ql_r (r_move rfl) rfl ?_
       refine ql_r (r_move rfl) rfl ?_
       refine ql_r (r_move rfl) rfl ?_
       refine ql_r (r_sub rfl rfl (by omega)) rfl ?_
       refine ql_ixo (id := 5000) encI _ rfl rfl rfl rfl sl61 (by omega) (by omega) rfl fun x163 hx163 => ?_
       try simp only [Int.toNat_natCast] at hx163
       try simp only [Int.toNat_natCast] at hx163
       refine ql_r (r_ldw rfl (fun w1 hb1 hs1 hB1 => show Loads _ _ _ _ (.int .i64 x163) from ld_own (id := 5000) hs1 rfl rfl ty3 hx163)) rfl ?_
       refine ql_r (r_move rfl) rfl ?_
       refine ql_r (r_move rfl) rfl ?_
       refine ql_ixo (id := 5000) encI _ rfl rfl rfl rfl sl61 (by omega) (by omega) rfl fun x167 hx167 => ?_
       try simp only [Int.toNat_natCast] at hx167
       try simp only [Int.toNat_natCast] at hx167
       refine ql_r (r_ldw rfl (fun w1 hb1 hs1 hB1 => show Loads _ _ _ _ (.int .i64 x167) from ld_own (id := 5000) hs1 rfl rfl ty3 hx167)) rfl ?_
       have hx163' := hx163
       rw [show (((mid + m - 1 : Nat) : Int) - (h : Int)).toNat = mid + m - 1 - h by omega] at hx163'
       refine ql_call rfl rfl cb103 rfl (fun w1 hb1 hs1 hB1 => hcmp _ _ _ (by rw [← tab_eq hx163]; exact hG _ (by omega)) (by rw [← tab_eq hx167]; exact hG _ (by omega)) (hs1.sub (subH_same rfl (subH_same rfl subH_nil))) hB1) ?_
       refine ql_r (r_lss rfl rfl) rfl ?_
       refine ql_r (r_not rfl) rfl ?_
       refine ql_nil (to_k0 (fun _ _ h => h) (hK54 _ _ _ _ _ ?_))
       clear hK54
       refine wp_condN rfl (fun hc171 => ?_) (fun hc171 => ?_)
       ·refine wp_reg ?_
        refine ol_r (r_move rfl) rfl ?_
        refine ol_r (r_addT (h + 1) rfl rfl (by omega) (by omega)) rfl ?_
        refine ol_r (r_assign rfl) rfl ?_
        refine ol_nil (to_k0 (fun _ _ h => h) (hK50 ((_, _)) _ _ ?_ ?_ (sub_cons rfl (sub_cons rfl sub_nil)) (sub_cons rfl (sub_cons rfl (sub_cons rfl (sub_cons rfl (sub_cons rfl (sub_cons rfl (sub_cons rfl (sub_cons rfl sub_nil)))))))) (by exact subH_nil) (subH_same rfl (subH_same rfl (subH_same rfl (subH_same rfl (subH_same rfl (subH_same rfl (subH_same rfl (subH_same rfl (subH_same rfl (subH_same rfl (subH_same rfl subH_nil)))))))))))))
        ·try dsimp only
         first
           | exact ⟨by omega, by omega, by omega, fun _ => by
               rw [show mid + m - (h + 1) = mid + m - 1 - h by omega, Nat.add_sub_cancel]
               refine ltC_f ?_
               rw [tab_eq hx163', tab_eq hx167]; exact hc171, hhi⟩
        ·try dsimp only
         omega
       ·refine wp_reg ?_
        refine ol_r (r_move rfl) rfl ?_
        refine ol_r (r_assign rfl) rfl ?_
        refine ol_nil (to_k0 (fun _ _ h => h) (hK50 ((_, _)) _ _ ?_ ?_ (sub_cons rfl (sub_cons rfl sub_nil)) (sub_cons rfl (sub_cons rfl (sub_cons rfl (sub_cons rfl (sub_cons rfl (sub_cons rfl (sub_cons rfl (sub_cons rfl sub_nil)))))))) (by exact subH_nil) (subH_same rfl (subH_same rfl (subH_same rfl (subH_same rfl (subH_same rfl (subH_same rfl (subH_same rfl (subH_same rfl (subH_same rfl (subH_same rfl (subH_same rfl subH_nil)))))))))))))
        ·try dsimp only
         first
           | exact ⟨by omega, by omega, by omega, hlo, fun _ => by
               refine ltC_t ?_
               rw [tab_eq hx163', tab_eq hx167]; exact hc171⟩
        ·try dsimp only
         omega
      ·refine wp_exit' (to_k0 (fun _ _ h => h) (hK49 _ _ _ _ _ ?_))
       clear hK49
       refine wp_seq' fun K55 hK55 => ?_
       refine wp_reg ?_
       refine ol_r (r_move rfl) rfl ?_
       refine ol_r (r_move rfl) rfl ?_
       refine ol_r (r_subT (mid + m - u) rfl rfl (by omega) (by omega)) rfl ?_
       obtain rfl : u = r := by omega
       have hT : Turn (ltC cf) f p m q mid u (mid + m - u) := by
         refine ⟨by omega, ⟨by omega, by omega, by omega, by omega⟩, fun t1 t2 => ?_, fun t1 t2 => ?_⟩
         · exact hlo (by omega)
         · rw [show mid + m - u - 1 = mid + m - 1 - u by omega]; exact hhi (by omega)
       have hP := turn_parts hw hM hT (by omega)
       refine ol_r (r_assign rfl) rfl ?_
       refine ol_nil (to_k0 (fun _ _ h => h) (hK55 _ _ _ _ _ ?_))
       clear hK55
       apply wp_seq_cutM (σ := Nat → Int) (fun s => s = rotF f u m (mid + m - u)) (fun s => []) [(0, _), (1, _), (3, _), (4, _), (18, _), (20, _), (24, _)] (fun s => [(5000, .row a n c (encI.enc (tab n s)) 3 1)]) [(5001, _), (5002, _), (5003, _), (5004, _), (5005, _), (5006, _), (5007, _), (5008, _), (5009, _), (5010, _)]
       ·exact (sub_cons rfl (sub_cons rfl (sub_cons rfl (sub_cons rfl (sub_cons rfl (sub_cons rfl (sub_cons rfl sub_nil)))))))
       ·exact (subH_same rfl (subH_same rfl (subH_same rfl (subH_same rfl (subH_same rfl (subH_same rfl (subH_same rfl (subH_same rfl (subH_same rfl (subH_same rfl subH_nil))))))))))
       ·intro K56 hK56
        refine wp_seq' fun K57 hK57 => ?_
        refine wp_reg ?_
        refine ol_r (r_move rfl) rfl ?_
        refine ol_r (r_move rfl) rfl ?_
        refine ol_r (r_lss rfl rfl) rfl ?_
        refine ol_r (r_move rfl) rfl ?_
        refine ol_split (d := 181) rfl (fun hs181 => ?_) (fun hs181 => ?_)
        ·have phs181 := hs181; try simp only [decide_eq_true_eq, decide_eq_false_iff_not, Bool.not_eq_true', Bool.not_eq_false', Bool.not_true, Bool.not_false] at phs181
         refine ol_g rfl rfl hs181 ?_
         refine ol_r (r_move rfl) rfl ?_
         refine ol_g rfl rfl hs181 ?_
         refine ol_r (r_move rfl) rfl ?_
         refine ol_g rfl rfl hs181 ?_
         refine ol_r (r_lss rfl rfl) rfl ?_
         refine ol_r (r_pickT rfl hs181 rfl) rfl ?_
         refine ol_nil (to_k0 (fun _ _ h => h) (hK57 _ _ _ _ _ ?_))
         clear hK57
         refine wp_condD rfl (fun hc185 => ?_) (fun hc185 => ?_)
         ·refine wp_reg ?_
          refine ol_r (r_move rfl) rfl ?_
          refine ol_r (r_move rfl) rfl ?_
          refine ol_r (r_move rfl) rfl ?_
          refine ol_r (r_move rfl) rfl ?_
          refine ol_r (r_move rfl) rfl ?_
          refine ol_call rfl rfl cb147 rfl (fun w1 hb1 hs1 hB1 => ?_)
          refine Calls.mono (rotate_w cf Good B cb a n c e1 e2 e3 e4 e5 e6 e7 e8 e9 e10 f u m (mid + m - u) _ hB1 hn (by omega) (by omega) (by omega) (hs1.sub (subH_same rfl (subH_same rfl (subH_same rfl (subH_same rfl (subH_same rfl (subH_same rfl (subH_same rfl (subH_same rfl (subH_same rfl (subH_same rfl (subH_same rfl subH_nil))))))))))))) ?_
          rintro e w2 ⟨g, rfl, hb2, hs2, hB2, hk2, hg⟩
          refine After.sat rfl hb1 hb2 hs2 hB2 (hk2.imp fun _ h => h.elim) ?_
          clear hk2 hs2 hb2 hB2 hB1 hs1 hb1 w2 w1
          refine ol_nil (to_k0 (fun _ _ h => h) (hK56 (_) _ _ ?_ sub_nil (sub_cons rfl (sub_cons rfl (sub_cons rfl (sub_cons rfl (sub_cons rfl (sub_cons rfl (sub_cons rfl sub_nil))))))) (subH_row rfl (by rfl) subH_nil) (subH_same rfl (subH_same rfl (subH_same rfl (subH_same rfl (subH_same rfl (subH_same rfl (subH_same rfl (subH_same rfl (subH_same rfl (subH_same rfl subH_nil))))))))))))
          try dsimp only
          first
          | exact hg
         ·refine wp_skip' (to_k0 (fun _ _ h => h) (hK56 (_) _ _ ?_ sub_nil (sub_cons rfl (sub_cons rfl (sub_cons rfl (sub_cons rfl (sub_cons rfl (sub_cons rfl (sub_cons rfl sub_nil))))))) (subH_row rfl (by rfl) subH_nil) (subH_same rfl (subH_same rfl (subH_same rfl (subH_same rfl (subH_same rfl (subH_same rfl (subH_same rfl (subH_same rfl (subH_same rfl (subH_same rfl subH_nil))))))))))))
          try dsimp only
          first
          | (rcases Nat.lt_or_ge u m with h9 | h9
             · have h8 : mid + m - u = m := by omega
               rw [h8, rotF_id2]
             · have h8 : u = m := by omega
               rw [h8, show mid + m - m = mid by omega, rotF_id1])
        ·have phs181 := hs181; try simp only [decide_eq_true_eq, decide_eq_false_iff_not, Bool.not_eq_true', Bool.not_eq_false', Bool.not_true, Bool.not_false] at phs181
         refine ol_s rfl rfl hs181 rfl ?_
         refine ol_s rfl rfl hs181 rfl ?_
         refine ol_s rfl rfl hs181 rfl ?_
         refine ol_r (r_pickF rfl hs181 rfl) rfl ?_
         refine ol_nil (to_k0 (fun _ _ h => h) (hK57 _ _ _ _ _ ?_))
         clear hK57
         refine wp_condF rfl ?_
         refine wp_skip' (to_k0 (fun _ _ h => h) (hK56 (_) _ _ ?_ sub_nil (sub_cons rfl (sub_cons rfl (sub_cons rfl (sub_cons rfl (sub_cons rfl (sub_cons rfl (sub_cons rfl sub_nil))))))) (subH_row rfl (by rfl) subH_nil) (subH_same rfl (subH_same rfl (subH_same rfl (subH_same rfl (subH_same rfl (subH_same rfl (subH_same rfl (subH_same rfl (subH_same rfl (subH_same rfl subH_nil))))))))))))
         try dsimp only
         first
         | (rcases Nat.lt_or_ge u m with h9 | h9
            · have h8 : mid + m - u = m := by omega
              rw [h8, rotF_id2]
            · have h8 : u = m := by omega
              rw [h8, show mid + m - m = mid by omega, rotF_id1])
       ·rintro F1 hF1
        have hF1l := tab_len n F1
        have hR0 : SaS f (rotF f u m (mid + m - u)) 0 n := (SaS.rot (f := f) hT.rg.2.1 hT.rg.2.2.1).widen (Nat.zero_le _) (by omega) (by omega) (fun x hx => by simp only [rotF]; rw [if_neg (by omega), if_neg (by omega)])
        rw [← hF1] at hP hR0
        have hG1 := good_of hG hR0
        apply wp_seq_cutM (σ := Nat → Int) (fun s => Blo (ltC cf) F1 s p mid) (fun s => []) [(0, _), (3, _), (4, _), (18, _), (24, _)] (fun s => [(5000, .row a n c (encI.enc (tab n s)) 3 1)]) [(5001, _), (5002, _), (5003, _), (5004, _), (5005, _), (5006, _), (5007, _), (5008, _), (5009, _), (5010, _)]
        ·exact (sub_cons rfl (sub_cons rfl (sub_cons rfl (sub_cons rfl (sub_cons rfl sub_nil)))))
        ·exact (subH_same rfl (subH_same rfl (subH_same rfl (subH_same rfl (subH_same rfl (subH_same rfl (subH_same rfl (subH_same rfl (subH_same rfl (subH_same rfl subH_nil))))))))))
        ·intro K58 hK58
         refine wp_seq' fun K59 hK59 => ?_
         refine wp_reg ?_
         refine ol_r (r_move rfl) rfl ?_
         refine ol_r (r_move rfl) rfl ?_
         refine ol_r (r_lss rfl rfl) rfl ?_
         refine ol_r (r_move rfl) rfl ?_
         refine ol_split (d := 195) rfl (fun hs195 => ?_) (fun hs195 => ?_)
         ·have phs195 := hs195; try simp only [decide_eq_true_eq, decide_eq_false_iff_not, Bool.not_eq_true', Bool.not_eq_false', Bool.not_true, Bool.not_false] at phs195
          refine ol_g rfl rfl hs195 ?_
          refine ol_r (r_move rfl) rfl ?_
          refine ol_g rfl rfl hs195 ?_
          refine ol_r (r_move rfl) rfl ?_
          refine ol_g rfl rfl hs195 ?_
          refine ol_r (r_lss rfl rfl) rfl ?_
          refine ol_r (r_pickT rfl hs195 rfl) rfl ?_
          refine ol_nil (to_k0 (fun _ _ h => h) (hK59 _ _ _ _ _ ?_))
          clear hK59
          refine wp_condD rfl (fun hc199 => ?_) (fun hc199 => ?_)
          ·refine wp_reg ?_
           refine ol_r (r_move rfl) rfl ?_
           refine ol_r (r_move rfl) rfl ?_
           refine ol_r (r_move rfl) rfl ?_
           refine ol_r (r_move rfl) rfl ?_
           refine ol_r (r_move rfl) rfl ?_
           refine ol_call rfl rfl cb145 rfl (fun w1 hb1 hs1 hB1 => ?_)
           refine Calls.mono (ih p u mid F1 _ (by omega) hB1 (by omega) (by omega) (by omega) hG1 hP.1 (hs1.sub (subH_same rfl (subH_same rfl (subH_same rfl (subH_same rfl (subH_same rfl (subH_same rfl (subH_same rfl (subH_same rfl (subH_same rfl (subH_same rfl (subH_same rfl subH_nil))))))))))))) ?_
           rintro e w2 ⟨g, rfl, hb2, hs2, hB2, hk2, hg⟩
           refine After.sat rfl hb1 hb2 hs2 hB2 (hk2.imp fun _ h => h.elim) ?_
           clear hk2 hs2 hb2 hB2 hB1 hs1 hb1 w2 w1
           refine ol_nil (to_k0 (fun _ _ h => h) (hK58 (_) _ _ ?_ sub_nil (sub_cons rfl (sub_cons rfl (sub_cons rfl (sub_cons rfl (sub_cons rfl sub_nil))))) (subH_row rfl (by rfl) subH_nil) (subH_same rfl (subH_same rfl (subH_same rfl (subH_same rfl (subH_same rfl (subH_same rfl (subH_same rfl (subH_same rfl (subH_same rfl (subH_same rfl subH_nil))))))))))))
           try dsimp only
           first
           | exact hg
          ·refine wp_skip' (to_k0 (fun _ _ h => h) (hK58 (_) _ _ ?_ sub_nil (sub_cons rfl (sub_cons rfl (sub_cons rfl (sub_cons rfl (sub_cons rfl sub_nil))))) (subH_row rfl (by rfl) subH_nil) (subH_same rfl (subH_same rfl (subH_same rfl (subH_same rfl (subH_same rfl (subH_same rfl (subH_same rfl (subH_same rfl (subH_same rfl (subH_same rfl subH_nil))))))))))))
           try dsimp only
           first
           | (refine Blo.one ?_
              rcases Nat.lt_or_ge p u with h9 | h9
              · have h8 : u = mid := by omega
                have h7 := hP.1.l
                rw [h8] at h7; exact h7
              · have h8 : u = p := by omega
                have h7 := hP.1.r
                rw [h8] at h7; exact h7)
         ·have phs195 := hs195; try simp only [decide_eq_true_eq, decide_eq_false_iff_not, Bool.not_eq_true', Bool.not_eq_false', Bool.not_true, Bool.not_false] at phs195
          refine ol_s rfl rfl hs195 rfl ?_
          refine ol_s rfl rfl hs195 rfl ?_
          refine ol_s rfl rfl hs195 rfl ?_
          refine ol_r (r_pickF rfl hs195 rfl) rfl ?_
          refine ol_nil (to_k0 (fun _ _ h => h) (hK59 _ _ _ _ _ ?_))
          clear hK59
          refine wp_condF rfl ?_
          refine wp_skip' (to_k0 (fun _ _ h => h) (hK58 (_) _ _ ?_ sub_nil (sub_cons rfl (sub_cons rfl (sub_cons rfl (sub_cons rfl (sub_cons rfl sub_nil))))) (subH_row rfl (by rfl) subH_nil) (subH_same rfl (subH_same rfl (subH_same rfl (subH_same rfl (subH_same rfl (subH_same rfl (subH_same rfl (subH_same rfl (subH_same rfl (subH_same rfl subH_nil))))))))))))
          try dsimp only
          first
          | (refine Blo.one ?_
             rcases Nat.lt_or_ge p u with h9 | h9
             · have h8 : u = mid := by omega
               have h7 := hP.1.l
               rw [h8] at h7; exact h7
             · have h8 : u = p := by omega
               have h7 := hP.1.r
               rw [h8] at h7; exact h7)
        ·rintro F2 hF2
         have hF2l := tab_len n F2
         have hG2 := good_of hG1 (hF2.all (by omega) (by omega))
         have hM2 : MrgI (ltC cf) F2 mid (mid + m - u) q := by
           refine ⟨fun x y x1 x2 x3 => ?_, fun x y x1 x2 x3 => ?_, fun x y x1 x2 x3 x4 => ?_⟩
           · rw [hF2.out x (by omega), hF2.out y (by omega)]; exact hP.2.1.l x y x1 x2 x3
           · rw [hF2.out x (by omega), hF2.out y (by omega)]; exact hP.2.1.r x y x1 x2 x3
           · rw [hF2.out x (by omega), hF2.out y (by omega)]; exact hP.2.1.nu x y x1 x2 x3 x4
         refine wp_seq' fun K60 hK60 => ?_
         refine wp_reg ?_
         refine ol_r (r_move rfl) rfl ?_
         refine ol_r (r_move rfl) rfl ?_
         refine ol_r (r_lss rfl rfl) rfl ?_
         refine ol_r (r_move rfl) rfl ?_
         refine ol_split (d := 209) rfl (fun hs209 => ?_) (fun hs209 => ?_)
         ·have phs209 := hs209; try simp only [decide_eq_true_eq, decide_eq_false_iff_not, Bool.not_eq_true', Bool.not_eq_false', Bool.not_true, Bool.not_false] at phs209
          refine ol_g rfl rfl hs209 ?_
          refine ol_r (r_move rfl) rfl ?_
          refine ol_g rfl rfl hs209 ?_
          refine ol_r (r_move rfl) rfl ?_
          refine ol_g rfl rfl hs209 ?_
          refine ol_r (r_lss rfl rfl) rfl ?_
          refine ol_r (r_pickT rfl hs209 rfl) rfl ?_
          refine ol_nil (to_k0 (fun _ _ h => h) (hK60 _ _ _ _ _ ?_))
          clear hK60
          refine wp_condD rfl (fun hc213 => ?_) (fun hc213 => ?_)
          ·refine wp_reg ?_
           refine ol_r (r_move rfl) rfl ?_
           refine ol_r (r_move rfl) rfl ?_
           refine ol_r (r_move rfl) rfl ?_
           refine ol_r (r_move rfl) rfl ?_
           refine ol_r (r_move rfl) rfl ?_
           refine ol_call rfl rfl cb145 rfl (fun w1 hb1 hs1 hB1 => ?_)
           refine Calls.mono (ih mid (mid + m - u) q F2 _ (by omega) hB1 (by omega) (by omega) (by omega) hG2 hM2 (hs1.sub (subH_same rfl (subH_same rfl (subH_same rfl (subH_same rfl (subH_same rfl (subH_same rfl (subH_same rfl (subH_same rfl (subH_same rfl (subH_same rfl (subH_same rfl subH_nil))))))))))))) ?_
           rintro e w2 ⟨g, rfl, hb2, hs2, hB2, hk2, hg⟩
           refine After.sat rfl hb1 hb2 hs2 hB2 (hk2.imp fun _ h => h.elim) ?_
           clear hk2 hs2 hb2 hB2 hB1 hs1 hb1 w2 w1
           refine ol_nil (hQ.fall rvs0 (fun _ _ h => h) fun w hb hs hB hkd => ?_)
           first
             | exact ⟨_, rfl, hb, hs.sub (subH_same rfl (subH_same rfl (subH_same rfl (subH_same rfl (subH_same rfl (subH_same rfl (subH_same rfl (subH_same rfl (subH_same rfl (subH_same rfl (subH_same rfl subH_nil))))))))))), hB, hkd, turn_blo hw hM hT (by omega) (hF1 ▸ hF2) hg⟩
          ·refine wp_skip' (hQ.fall rvs0 (fun _ _ h => h) fun w hb hs hB hkd => ?_)
           first
             | (refine ⟨_, rfl, hb, hs.sub (subH_same rfl (subH_same rfl (subH_same rfl (subH_same rfl (subH_same rfl (subH_same rfl (subH_same rfl (subH_same rfl (subH_same rfl (subH_same rfl (subH_same rfl subH_nil))))))))))), hB, hkd, turn_blo hw hM hT (by omega) (hF1 ▸ hF2) (Blo.one ?_)⟩
                rcases Nat.lt_or_ge mid (mid + m - u) with h9 | h9
                · have h8 : mid + m - u = q := by omega
                  have h7 := hM2.l
                  rw [h8] at h7; exact h7
                · have h8 : mid + m - u = mid := by omega
                  have h7 := hM2.r
                  rw [h8] at h7; exact h7)
         ·have phs209 := hs209; try simp only [decide_eq_true_eq, decide_eq_false_iff_not, Bool.not_eq_true', Bool.not_eq_false', Bool.not_true, Bool.not_false] at phs209
          refine ol_s rfl rfl hs209 rfl ?_
          refine ol_s rfl rfl hs209 rfl ?_
          refine ol_s rfl rfl hs209 rfl ?_
          refine ol_r (r_pickF rfl hs209 rfl) rfl ?_
          refine ol_nil (to_k0 (fun _ _ h => h) (hK60 _ _ _ _ _ ?_))
          clear hK60
          refine wp_condF rfl ?_
          refine wp_skip' (hQ.fall rvs0 (fun _ _ h => h) fun w hb hs hB hkd => ?_)
          first
            | (refine ⟨_, rfl, hb, hs.sub (subH_same rfl (subH_same rfl (subH_same rfl (subH_same rfl (subH_same rfl (subH_same rfl (subH_same rfl (subH_same rfl (subH_same rfl (subH_same rfl (subH_same rfl subH_nil))))))))))), hB, hkd, turn_blo hw hM hT (by omega) (hF1 ▸ hF2) (Blo.one ?_)⟩
               rcases Nat.lt_or_ge mid (mid + m - u) with h9 | h9
               · have h8 : mid + m - u = q := by omega
                 have h7 := hM2.l
                 rw [h8] at h7; exact h7
               · have h8 : mid + m - u = mid := by omega
                 have h7 := hM2.r
                 rw [h8] at h7; exact h7)

theorem dvd_next {s p A : Nat} (hs : 0 < s) (h1 : s ∣ p) (h2 : s ∣ A) (h3 : p < A) : p + s ≤ A := by
  obtain ⟨x, rfl⟩ := h1
  obtain ⟨y, rfl⟩ := h2
  have h4 : x < y := Nat.lt_of_mul_lt_mul_left h3
  have h5 := Nat.mul_le_mul_left s (show x + 1 ≤ y from h4)
  rw [Nat.mul_add, Nat.mul_one] at h5
  exact h5
/-- Blocks of size s up to A are sorted, each with what it held; behind A nothing turned. -/
structure Hlf (lt : Int → Int → Bool) (f F0 F : Nat → Int) (s n A : Nat) : Prop where
  dv : s ∣ A
  ok : ∀ p, s ∣ p → p < A → SoR lt F p (p + s) ∧ SaS f F p (p + s)
  un : ∀ x, A ≤ x → F x = F0 x
theorem Hlf.zero {lt : Int → Int → Bool} {f F0 : Nat → Int} {s n : Nat} : Hlf lt f F0 F0 s n 0 := ⟨Nat.dvd_zero _, fun p _ h => by omega, fun _ _ => rfl⟩
theorem Blo.cong {lt : Int → Int → Bool} {f f' g : Nat → Int} {a b : Nat} (h : Blo lt f g a b) (he : ∀ x, a ≤ x → x < b → f x = f' x) : SoR lt g a b ∧ SaS f' g a b :=
  ⟨h.so, fun x p q => by obtain ⟨y, y1, y2, y3⟩ := h.sa.1 x p q; exact ⟨y, y1, y2, by rw [← he x p q]; exact y3⟩, fun x p q => by obtain ⟨y, y1, y2, y3⟩ := h.sa.2 x p q; exact ⟨y, y1, y2, by rw [← he y y1 y2]; exact y3⟩⟩
theorem Hlf.next {lt : Int → Int → Bool} {f F0 F G : Nat → Int} {s n A : Nat} (hs : 0 < s) (h : Hlf lt f F0 F s n A) (ho : ∀ x, x < A ∨ A + s ≤ x → G x = F x) (hG : SoR lt G A (A + s) ∧ SaS f G A (A + s)) : Hlf lt f F0 G s n (A + s) := by
  refine ⟨Nat.dvd_add h.dv (Nat.dvd_refl _), fun p p1 p2 => ?_, fun x hx => by rw [ho x (by omega)]; exact h.un x (by omega)⟩
  by_cases hp : p < A
  · have h2 := dvd_next hs p1 h.dv hp
    obtain ⟨h3, h4⟩ := h.ok p p1 hp
    refine ⟨fun x y x1 x2 x3 => by rw [ho x (by omega), ho y (by omega)]; exact h3 x y x1 x2 x3, fun x x1 x2 => ?_, fun x x1 x2 => ?_⟩
    · obtain ⟨y, y1, y2, y3⟩ := h4.1 x x1 x2; exact ⟨y, y1, y2, by rw [ho y (by omega)]; exact y3⟩
    · obtain ⟨y, y1, y2, y3⟩ := h4.2 x x1 x2; exact ⟨y, y1, y2, by rw [ho x (by omega)]; exact y3⟩
  · have h5 : p = A := by
      obtain ⟨x, hx⟩ := p1
      obtain ⟨y, hy⟩ := h.dv
      rw [hx, hy] at hp p2 ⊢
      have h6 : y ≤ x := by
        apply Decidable.byContradiction; intro h7
        exact hp ((Nat.mul_lt_mul_left hs).2 (by omega))
      have h8 : x < y + 1 := by
        apply Decidable.byContradiction; intro h7
        have := Nat.mul_le_mul_left s (show y + 1 ≤ x by omega)
        rw [Nat.mul_add, Nat.mul_one] at this
        omega
      rw [show x = y by omega]
    subst h5; exact hG
/-- All blocks. -/
theorem Hlf.last {lt : Int → Int → Bool} {f F0 F G : Nat → Int} {s n A : Nat} (hs : 0 < s) (h : Hlf lt f F0 F s n A) (hA : A ≤ n) (hn : n < A + s) (ho : ∀ x, x < A ∨ n ≤ x → G x = F x) (hG : SoR lt G A n ∧ SaS f G A n) : Blks lt f G s n ∧ SaS f G 0 n := by
  have key : ∀ p, s ∣ p → p < n → SoR lt G p (min (p + s) n) ∧ SaS f G p (min (p + s) n) := fun p p1 p2 => by
    by_cases hp : p < A
    · have h2 := dvd_next hs p1 h.dv hp
      obtain ⟨h3, h4⟩ := h.ok p p1 hp
      rw [Nat.min_eq_left (by omega)]
      refine ⟨fun x y x1 x2 x3 => by rw [ho x (by omega), ho y (by omega)]; exact h3 x y x1 x2 x3, fun x x1 x2 => ?_, fun x x1 x2 => ?_⟩
      · obtain ⟨y, y1, y2, y3⟩ := h4.1 x x1 x2; exact ⟨y, y1, y2, by rw [ho y (by omega)]; exact y3⟩
      · obtain ⟨y, y1, y2, y3⟩ := h4.2 x x1 x2; exact ⟨y, y1, y2, by rw [ho x (by omega)]; exact y3⟩
    · have h5 : p = A := by
        apply Decidable.byContradiction; intro h7
        have := dvd_next hs h.dv p1 (by omega)
        omega
      subst h5
      rw [Nat.min_eq_right (by omega)]; exact hG
  refine ⟨key, ?_⟩
  constructor
  · intro x _ hx
    obtain ⟨q, hq⟩ : ∃ q, q = x / s * s := ⟨_, rfl⟩
    have h1 : s ∣ q := ⟨x / s, by rw [hq, Nat.mul_comm]⟩
    have h2 := Nat.div_add_mod' x s
    have h3 := Nat.mod_lt x hs
    obtain ⟨_, h4⟩ := key q h1 (by omega)
    obtain ⟨y, y1, y2, y3⟩ := h4.1 x (by omega) (by omega)
    exact ⟨y, Nat.zero_le _, by omega, y3⟩
  · intro x _ hx
    obtain ⟨q, hq⟩ : ∃ q, q = x / s * s := ⟨_, rfl⟩
    have h1 : s ∣ q := ⟨x / s, by rw [hq, Nat.mul_comm]⟩
    have h2 := Nat.div_add_mod' x s
    have h3 := Nat.mod_lt x hs
    obtain ⟨_, h4⟩ := key q h1 (by omega)
    obtain ⟨y, y1, y2, y3⟩ := h4.2 x (by omega) (by omega)
    exact ⟨y, Nat.zero_le _, by omega, y3⟩
theorem Blks.mrg {lt : Int → Int → Bool} {f F0 F : Nat → Int} {s n p q : Nat} (hu : ∀ x y, x < y → y < n → f x < f y) (hs : 0 < s) (h : Blks lt f F0 s n) (hp : s ∣ p) (hm : p + s < q) (hqn : q ≤ n) (hx : q = p + s + s ∨ (q = n ∧ n ≤ p + s + s)) (he : ∀ x, p ≤ x → F x = F0 x) : MrgI lt F p (p + s) q ∧ SaS f F p q := by
  obtain ⟨a1, a2⟩ := h p hp (by omega)
  obtain ⟨b1, b2⟩ := h (p + s) (Nat.dvd_add hp (Nat.dvd_refl _)) (by omega)
  rw [Nat.min_eq_left (by omega)] at a1 a2
  rw [show min (p + s + s) n = q by omega] at b1 b2
  have a3 : SaS f F p (p + s) := ⟨fun x x1 x2 => by obtain ⟨y, y1, y2, y3⟩ := a2.1 x x1 x2; exact ⟨y, y1, y2, by rw [he y (by omega)]; exact y3⟩, fun x x1 x2 => by obtain ⟨y, y1, y2, y3⟩ := a2.2 x x1 x2; exact ⟨y, y1, y2, by rw [he x (by omega)]; exact y3⟩⟩
  have b3 : SaS f F (p + s) q := ⟨fun x x1 x2 => by obtain ⟨y, y1, y2, y3⟩ := b2.1 x x1 x2; exact ⟨y, y1, y2, by rw [he y (by omega)]; exact y3⟩, fun x x1 x2 => by obtain ⟨y, y1, y2, y3⟩ := b2.2 x x1 x2; exact ⟨y, y1, y2, by rw [he x (by omega)]; exact y3⟩⟩
  refine ⟨⟨fun x y x1 x2 x3 => by rw [he x (by omega), he y (by omega)]; exact a1 x y x1 x2 x3, fun x y x1 x2 x3 => by rw [he x (by omega), he y (by omega)]; exact b1 x y x1 x2 x3, fun x y x1 x2 x3 x4 => ?_⟩, SaS.join a3 b3 (by omega) (by omega)⟩
  obtain ⟨x', x1', x2', x3'⟩ := a3.2 x x1 x2
  obtain ⟨y', y1', y2', y3'⟩ := b3.2 y x3 x4
  rw [x3', y3']
  exact hu _ _ (by omega) (by omega)
theorem Blks.rest {lt : Int → Int → Bool} {f F0 F : Nat → Int} {s n p : Nat} (h : Blks lt f F0 s n) (hp : s ∣ p) (hpn : p ≤ n) (hn : n ≤ p + s) (he : ∀ x, p ≤ x → F x = F0 x) : SoR lt F p n ∧ SaS f F p n := by
  by_cases h0 : p = n
  · subst h0; exact ⟨fun x y h1 h2 h3 => by omega, fun x h1 h2 => by omega, fun x h1 h2 => by omega⟩
  · obtain ⟨a1, a2⟩ := h p hp (by omega)
    rw [Nat.min_eq_right hn] at a1 a2
    exact ⟨fun x y x1 x2 x3 => by rw [he x (by omega), he y (by omega)]; exact a1 x y x1 x2 x3, fun x x1 x2 => by obtain ⟨y, y1, y2, y3⟩ := a2.1 x x1 x2; exact ⟨y, y1, y2, by rw [he y (by omega)]; exact y3⟩, fun x x1 x2 => by obtain ⟨y, y1, y2, y3⟩ := a2.2 x x1 x2; exact ⟨y, y1, y2, by rw [he x (by omega)]; exact y3⟩⟩
theorem Blks.whole {lt : Int → Int → Bool} {f F : Nat → Int} {s n : Nat} (h : Blks lt f F s n) (hs : n ≤ s) : SoR lt F 0 n := by
  by_cases h0 : n = 0
  · subst h0; exact fun x y h1 h2 h3 => by omega
  · obtain ⟨a1, _⟩ := h 0 (Nat.dvd_zero _) (by omega)
    rw [show min (0 + s) n = n by omega] at a1
    exact a1

theorem stable_w (cf : Int → Int → Int) (Good : Int → Prop) (B : Nat) (cb : Nat) (a : Option Addr) (n c : Nat) (e1 e2 e3 e4 e5 e6 e7 e8 e9 e10 : Ent) (hw : Swo (ltC cf)) (hn : n ≤ 1000000) (hcmp : ∀ (w1 : World) (x y : Int), Good x → Good y → Sat B w1 [(5001, e1), (5002, e2)] → B ≤ w1.heap.size → Calls Try.prog 103 #[.int .i64 x, .int .i64 y, .pointer (some ⟨cb, 0, none⟩)] w1 fun e w' => e = .returned (.int .i64 (cf x y)) ∧ Below w1.heap.size w1 w') (f : Nat → Int) (w : World) (hB : B ≤ w.heap.size) (hu : ∀ x y, x < y → y < n → f x < f y) (hG : ∀ i, i < n → Good (f i)) (hs : Sat B w [(5000, .row a n c (encI.enc (tab n f)) 3 1), (5001, e1), (5002, e2), (5003, e3), (5004, e4), (5005, e5), (5006, e6), (5007, e7), (5008, e8), (5009, e9), (5010, e10)]) :
    Calls Try.prog 133 #[.slice a n c, .int .i64 n, .func (.func 103) #[] #[.pointer (some ⟨cb, 0, none⟩)]] w fun e w' => ∃ g, e = .returned (.tuple #[]) ∧ Below B w w' ∧ Sat B w' [(5000, .row a n c (encI.enc (tab n g)) 3 1), (5001, e1), (5002, e2), (5003, e3), (5004, e4), (5005, e5), (5006, e6), (5007, e7), (5008, e8), (5009, e9), (5010, e10)] ∧ B ≤ w'.heap.size ∧ Kd (fun _ => False) w w' ∧ SoR (ltC cf) g 0 n ∧ SaS f g 0 n := by

  refine enterQ (N := 63) (C := fun _ => False) (H := [(5000, .row a n c (encI.enc (tab n f)) 3 1), (5001, e1), (5002, e2), (5003, e3), (5004, e4), (5005, e5), (5006, e6), (5007, e7), (5008, e8), (5009, e9), (5010, e10)]) (B := B) (args := [_, _, _]) Try.func133 rfl rfl rfl (hB) (hs) fun Q hQ => ?_
  refine wp_seq' fun K1 hK1 => ?_
  refine wp_reg ?_
  refine ol_r (r_assign rfl) rfl ?_
  refine ol_nil (to_k0 (fun _ _ h => h) (hK1 _ _ _ _ _ ?_))
  clear hK1
  refine wp_seq' fun K2 hK2 => ?_
  refine wp_reg ?_
  refine ol_r (r_move rfl) rfl ?_
  refine ol_r (r_assign rfl) rfl ?_
  refine ol_r (r_assign rfl) rfl ?_
  refine ol_nil (to_k0 (fun _ _ h => h) (hK2 _ _ _ _ _ ?_))
  clear hK2
  refine wp_seq' fun K3 hK3 => ?_
  refine wp_block' ?_
  apply wp_loopM (σ := Nat × (Nat → Int)) (fun s => s.1 ≤ n ∧ Hlf (ltC cf) f f s.2 20 n s.1 ∧ SaS f s.2 0 n) (fun s => [(7, .int .i64 s.1), (8, .int .i64 ((s.1 + 20 : Nat) : Int))]) [(0, _), (1, _), (2, _), (6, _)] (fun s => [(5000, .row a n c (encI.enc (tab n s.2)) 3 1)]) [(5001, _), (5002, _), (5003, _), (5004, _), (5005, _), (5006, _), (5007, _), (5008, _), (5009, _), (5010, _)] (fun s => n - s.1) ((0, f))
  ·try dsimp only
   exact ⟨Nat.zero_le _, Hlf.zero, SaS.refl _ _ _⟩
  ·exact (sub_cons rfl (sub_cons rfl sub_nil))
  ·exact (sub_cons rfl (sub_cons rfl (sub_cons rfl (sub_cons rfl sub_nil))))
  ·exact (subH_row rfl (by rfl) subH_nil)
  ·exact (subH_same rfl (subH_same rfl (subH_same rfl (subH_same rfl (subH_same rfl (subH_same rfl (subH_same rfl (subH_same rfl (subH_same rfl (subH_same rfl subH_nil))))))))))
  ·rintro ⟨A, F⟩ ⟨hA, hH, hS⟩
   dsimp only at hA hH hS ⊢
   have hGF := good_of hG hS
   intro K4 hK4
   refine wp_seq' fun K5 hK5 => ?_
   refine wp_seq' fun K6 hK6 => ?_
   refine wp_reg ?_
   refine ol_r (r_move rfl) rfl ?_
   refine ol_r (r_move rfl) rfl ?_
   refine ol_r (r_leq rfl rfl) rfl ?_
   refine ol_nil (to_k0 (fun _ _ h => h) (hK6 _ _ _ _ _ ?_))
   clear hK6
   refine wp_condD rfl (fun hc13 => ?_) (fun hc13 => ?_)
   ·refine wp_skip' (to_k0 (fun _ _ h => h) (hK5 _ _ _ _ _ ?_))
    clear hK5
    refine wp_block' ?_
    refine wp_seq' fun K7 hK7 => ?_
    refine wp_reg ?_
    refine ol_r (r_move rfl) rfl ?_
    refine ol_r (r_move rfl) rfl ?_
    refine ol_r (r_move rfl) rfl ?_
    refine ol_r (r_move rfl) rfl ?_
    refine ol_call rfl rfl cb144 rfl (fun w1 hb1 hs1 hB1 => ?_)
    refine Calls.mono (insertion_w cf Good B cb a n c e1 e2 e3 e4 e5 e6 e7 e8 e9 e10 F A (A + 20) _ hw hB1 hn (by omega) (by omega) hGF (fun x y x1 x2 x3 => by rw [hH.un x x1, hH.un y (by omega)]; exact hu x y x2 (by omega)) hcmp (hs1.sub (subH_same rfl (subH_same rfl (subH_same rfl (subH_same rfl (subH_same rfl (subH_same rfl (subH_same rfl (subH_same rfl (subH_same rfl (subH_same rfl (subH_same rfl subH_nil))))))))))))) ?_
    rintro e w2 ⟨g, rfl, hb2, hs2, hB2, hk2, hg⟩
    refine After.sat rfl hb1 hb2 hs2 hB2 (hk2.imp fun _ h => h.elim) ?_
    clear hk2 hs2 hb2 hB2 hB1 hs1 hb1 w2 w1
    refine ol_nil (to_k0 (fun _ _ h => h) (hK7 _ _ _ _ _ ?_))
    clear hK7
    refine wp_seq' fun K8 hK8 => ?_
    refine wp_reg ?_
    refine ol_r (r_move rfl) rfl ?_
    refine ol_r (r_assign rfl) rfl ?_
    refine ol_nil (to_k0 (fun _ _ h => h) (hK8 _ _ _ _ _ ?_))
    clear hK8
    refine wp_reg ?_
    refine ol_r (r_move rfl) rfl ?_
    refine ol_r (r_move rfl) rfl ?_
    refine ol_r (r_addT (A + 20 + 20) rfl rfl (by omega) (by omega)) rfl ?_
    refine ol_r (r_assign rfl) rfl ?_
    refine ol_nil (to_k0 (fun _ _ h => h) (hK4 ((A + 20, _)) _ _ ?_ ?_ (sub_cons rfl (sub_cons rfl sub_nil)) (sub_cons rfl (sub_cons rfl (sub_cons rfl (sub_cons rfl sub_nil)))) (by exact (subH_row rfl (by rfl) subH_nil)) (subH_same rfl (subH_same rfl (subH_same rfl (subH_same rfl (subH_same rfl (subH_same rfl (subH_same rfl (subH_same rfl (subH_same rfl (subH_same rfl subH_nil))))))))))))
    ·try dsimp only
     exact ⟨by omega, hH.next (by omega) (fun x hx => hg.out x hx) (hg.cong fun x x1 x2 => hH.un x x1), hS.trans (hg.all (by omega) (by omega))⟩
    ·try dsimp only
     omega
   ·refine wp_exit' (to_k0 (fun _ _ h => h) (hK3 _ _ _ _ _ ?_))
    clear hK3
    refine wp_seq' fun K9 hK9 => ?_
    refine wp_reg ?_
    refine ol_r (r_move rfl) rfl ?_
    refine ol_r (r_move rfl) rfl ?_
    refine ol_r (r_move rfl) rfl ?_
    refine ol_r (r_move rfl) rfl ?_
    refine ol_call rfl rfl cb144 rfl (fun w1 hb1 hs1 hB1 => ?_)
    refine Calls.mono (insertion_w cf Good B cb a n c e1 e2 e3 e4 e5 e6 e7 e8 e9 e10 F A n _ hw hB1 hn (Nat.le_refl _) (by omega) hGF (fun x y x1 x2 x3 => by rw [hH.un x x1, hH.un y (by omega)]; exact hu x y x2 (by omega)) hcmp (hs1.sub (subH_same rfl (subH_same rfl (subH_same rfl (subH_same rfl (subH_same rfl (subH_same rfl (subH_same rfl (subH_same rfl (subH_same rfl (subH_same rfl (subH_same rfl subH_nil))))))))))))) ?_
    rintro e w2 ⟨g, rfl, hb2, hs2, hB2, hk2, hg⟩
    refine After.sat rfl hb1 hb2 hs2 hB2 (hk2.imp fun _ h => h.elim) ?_
    clear hk2 hs2 hb2 hB2 hB1 hs1 hb1 w2 w1
    refine ol_nil (to_k0 (fun _ _ h => h) (hK9 _ _ _ _ _ ?_))
    clear hK9
    refine wp_block' ?_
    apply wp_loopM (σ := Nat × (Nat → Int)) (fun s => 0 < s.1 ∧ s.1 ≤ 4000000 ∧ Blks (ltC cf) f s.2 s.1 n ∧ SaS f s.2 0 n) (fun s => [(6, .int .i64 s.1)]) [(0, _), (1, _), (2, _)] (fun s => [(5000, .row a n c (encI.enc (tab n s.2)) 3 1)]) [(5001, _), (5002, _), (5003, _), (5004, _), (5005, _), (5006, _), (5007, _), (5008, _), (5009, _), (5010, _)] (fun s => n - s.1) ((20, _))
    ·try dsimp only
     have hL := hH.last (by omega) hA (by omega) (fun x hx => hg.out x hx) (hg.cong fun x x1 x2 => hH.un x x1)
     exact ⟨by omega, by omega, hL.1, hL.2⟩
    ·exact (sub_cons rfl sub_nil)
    ·exact (sub_cons rfl (sub_cons rfl (sub_cons rfl sub_nil)))
    ·exact (subH_row rfl (by rfl) subH_nil)
    ·exact (subH_same rfl (subH_same rfl (subH_same rfl (subH_same rfl (subH_same rfl (subH_same rfl (subH_same rfl (subH_same rfl (subH_same rfl (subH_same rfl subH_nil))))))))))
    ·rintro ⟨u, F⟩ ⟨hu0, hu1, hK, hS⟩
     dsimp only at hu0 hu1 hK hS ⊢
     intro K10 hK10
     refine wp_seq' fun K11 hK11 => ?_
     refine wp_seq' fun K12 hK12 => ?_
     refine wp_reg ?_
     refine ol_r (r_move rfl) rfl ?_
     refine ol_r (r_move rfl) rfl ?_
     refine ol_r (r_lss rfl rfl) rfl ?_
     refine ol_nil (to_k0 (fun _ _ h => h) (hK12 _ _ _ _ _ ?_))
     clear hK12
     refine wp_condD rfl (fun hc30 => ?_) (fun hc30 => ?_)
     ·refine wp_skip' (to_k0 (fun _ _ h => h) (hK11 _ _ _ _ _ ?_))
      clear hK11
      refine wp_block' ?_
      refine wp_seq' fun K13 hK13 => ?_
      refine wp_reg ?_
      refine ol_r (r_move rfl) rfl ?_
      refine ol_r (r_mulT (2 * u) rfl rfl (by omega) (by omega)) rfl ?_
      refine ol_r (r_assign rfl) rfl ?_
      refine ol_r (r_assign rfl) rfl ?_
      refine ol_nil (to_k0 (fun _ _ h => h) (hK13 _ _ _ _ _ ?_))
      clear hK13
      refine wp_seq' fun K14 hK14 => ?_
      refine wp_block' ?_
      apply wp_loopM (σ := Nat × (Nat → Int)) (fun s => s.1 ≤ n ∧ Hlf (ltC cf) f F s.2 (2 * u) n s.1 ∧ SaS f s.2 0 n) (fun s => [(7, .int .i64 s.1), (8, .int .i64 ((s.1 + 2 * u : Nat) : Int))]) [(0, _), (1, _), (2, _), (6, _)] (fun s => [(5000, .row a n c (encI.enc (tab n s.2)) 3 1)]) [(5001, _), (5002, _), (5003, _), (5004, _), (5005, _), (5006, _), (5007, _), (5008, _), (5009, _), (5010, _)] (fun s => n - s.1) ((0, F))
      ·try dsimp only
       exact ⟨Nat.zero_le _, Hlf.zero, hS⟩
      ·exact (sub_cons (by first | rfl | (rw [Nat.zero_add]; rfl)) (sub_cons (by first | rfl | (rw [Nat.zero_add]; rfl)) sub_nil))
      ·exact (sub_cons rfl (sub_cons rfl (sub_cons rfl (sub_cons rfl sub_nil))))
      ·exact (subH_row rfl (by rfl) subH_nil)
      ·exact (subH_same rfl (subH_same rfl (subH_same rfl (subH_same rfl (subH_same rfl (subH_same rfl (subH_same rfl (subH_same rfl (subH_same rfl (subH_same rfl subH_nil))))))))))
      ·rintro ⟨A, G⟩ ⟨hA, hH, hSG⟩
       dsimp only at hA hH hSG ⊢
       have hGG := good_of hG hSG
       have hdv : u ∣ A := Nat.dvd_trans ⟨2, by omega⟩ hH.dv
       intro K15 hK15
       refine wp_seq' fun K16 hK16 => ?_
       refine wp_seq' fun K17 hK17 => ?_
       refine wp_reg ?_
       refine ol_r (r_move rfl) rfl ?_
       refine ol_r (r_move rfl) rfl ?_
       refine ol_r (r_leq rfl rfl) rfl ?_
       refine ol_nil (to_k0 (fun _ _ h => h) (hK17 _ _ _ _ _ ?_))
       clear hK17
       refine wp_condD rfl (fun hc35 => ?_) (fun hc35 => ?_)
       ·refine wp_skip' (to_k0 (fun _ _ h => h) (hK16 _ _ _ _ _ ?_))
        clear hK16
        refine wp_block' ?_
        refine wp_seq' fun K18 hK18 => ?_
        refine wp_reg ?_
        refine ol_r (r_move rfl) rfl ?_
        refine ol_r (r_move rfl) rfl ?_
        refine ol_r (r_move rfl) rfl ?_
        refine ol_r (r_move rfl) rfl ?_
        have hMr := Blks.mrg (q := A + 2 * u) hu hu0 hK hdv (by omega) (by omega) (.inl (by omega)) hH.un
        refine ol_r (r_addT (A + u) rfl rfl (by omega) (by omega)) rfl ?_
        refine ol_r (r_move rfl) rfl ?_
        refine ol_r (r_move rfl) rfl ?_
        refine ol_call rfl rfl cb145 rfl (fun w1 hb1 hs1 hB1 => ?_)
        refine Calls.mono (symMerge_w cf Good B cb a n c e1 e2 e3 e4 e5 e6 e7 e8 e9 e10 hw hn hcmp (u + u) A (A + u) (A + 2 * u) G _ (by omega) hB1 (by omega) (by omega) (by omega) hGG hMr.1 (hs1.sub (subH_same rfl (subH_same rfl (subH_same rfl (subH_same rfl (subH_same rfl (subH_same rfl (subH_same rfl (subH_same rfl (subH_same rfl (subH_same rfl (subH_same rfl subH_nil))))))))))))) ?_
        rintro e w2 ⟨g, rfl, hb2, hs2, hB2, hk2, hg⟩
        refine After.sat rfl hb1 hb2 hs2 hB2 (hk2.imp fun _ h => h.elim) ?_
        clear hk2 hs2 hb2 hB2 hB1 hs1 hb1 w2 w1
        refine ol_nil (to_k0 (fun _ _ h => h) (hK18 _ _ _ _ _ ?_))
        clear hK18
        refine wp_seq' fun K19 hK19 => ?_
        refine wp_reg ?_
        refine ol_r (r_move rfl) rfl ?_
        refine ol_r (r_assign rfl) rfl ?_
        refine ol_nil (to_k0 (fun _ _ h => h) (hK19 _ _ _ _ _ ?_))
        clear hK19
        refine wp_reg ?_
        refine ol_r (r_move rfl) rfl ?_
        refine ol_r (r_move rfl) rfl ?_
        refine ol_r (r_mulT (2 * u) rfl rfl (by omega) (by omega)) rfl ?_
        refine ol_r (r_addT (A + 2 * u + 2 * u) rfl rfl (by omega) (by omega)) rfl ?_
        refine ol_r (r_assign rfl) rfl ?_
        refine ol_nil (to_k0 (fun _ _ h => h) (hK15 ((A + 2 * u, _)) _ _ ?_ ?_ (sub_cons rfl (sub_cons rfl sub_nil)) (sub_cons rfl (sub_cons rfl (sub_cons rfl (sub_cons rfl sub_nil)))) (by exact (subH_row rfl (by rfl) subH_nil)) (subH_same rfl (subH_same rfl (subH_same rfl (subH_same rfl (subH_same rfl (subH_same rfl (subH_same rfl (subH_same rfl (subH_same rfl (subH_same rfl subH_nil))))))))))))
        ·try dsimp only
         exact ⟨by omega, hH.next (by omega) (fun x hx => hg.out x hx) ⟨hg.so, hMr.2.trans hg.sa⟩, hSG.trans (hg.all (by omega) (by omega))⟩
        ·try dsimp only
         omega
       ·refine wp_exit' (to_k0 (fun _ _ h => h) (hK14 _ _ _ _ _ ?_))
        clear hK14
        apply wp_seq_cutM (σ := Nat → Int) (fun s => Blks (ltC cf) f s (2 * u) n ∧ SaS f s 0 n) (fun s => []) [(0, _), (1, _), (2, _), (6, _)] (fun s => [(5000, .row a n c (encI.enc (tab n s)) 3 1)]) [(5001, _), (5002, _), (5003, _), (5004, _), (5005, _), (5006, _), (5007, _), (5008, _), (5009, _), (5010, _)]
        ·exact (sub_cons rfl (sub_cons rfl (sub_cons rfl (sub_cons rfl sub_nil))))
        ·exact (subH_same rfl (subH_same rfl (subH_same rfl (subH_same rfl (subH_same rfl (subH_same rfl (subH_same rfl (subH_same rfl (subH_same rfl (subH_same rfl subH_nil))))))))))
        ·intro K20 hK20
         refine wp_seq' fun K21 hK21 => ?_
         refine wp_reg ?_
         refine ol_r (r_move rfl) rfl ?_
         refine ol_r (r_move rfl) rfl ?_
         refine ol_r (r_addT (A + u) rfl rfl (by omega) (by omega)) rfl ?_
         refine ol_r (r_assign rfl) rfl ?_
         refine ol_nil (to_k0 (fun _ _ h => h) (hK21 _ _ _ _ _ ?_))
         clear hK21
         refine wp_seq' fun K22 hK22 => ?_
         refine wp_reg ?_
         refine ol_r (r_move rfl) rfl ?_
         refine ol_r (r_move rfl) rfl ?_
         refine ol_r (r_lss rfl rfl) rfl ?_
         refine ol_nil (to_k0 (fun _ _ h => h) (hK22 _ _ _ _ _ ?_))
         clear hK22
         refine wp_condD rfl (fun hc54 => ?_) (fun hc54 => ?_)
         ·refine wp_reg ?_
          have hMr := Blks.mrg (q := n) hu hu0 hK hdv (by omega) (by omega) (.inr ⟨rfl, by omega⟩) hH.un
          refine ol_r (r_move rfl) rfl ?_
          refine ol_r (r_move rfl) rfl ?_
          refine ol_r (r_move rfl) rfl ?_
          refine ol_r (r_move rfl) rfl ?_
          refine ol_r (r_move rfl) rfl ?_
          refine ol_call rfl rfl cb145 rfl (fun w1 hb1 hs1 hB1 => ?_)
          refine Calls.mono (symMerge_w cf Good B cb a n c e1 e2 e3 e4 e5 e6 e7 e8 e9 e10 hw hn hcmp (u + u) A (A + u) n G _ (by omega) hB1 (by omega) (by omega) (by omega) hGG hMr.1 (hs1.sub (subH_same rfl (subH_same rfl (subH_same rfl (subH_same rfl (subH_same rfl (subH_same rfl (subH_same rfl (subH_same rfl (subH_same rfl (subH_same rfl (subH_same rfl subH_nil))))))))))))) ?_
          rintro e w2 ⟨g, rfl, hb2, hs2, hB2, hk2, hg⟩
          refine After.sat rfl hb1 hb2 hs2 hB2 (hk2.imp fun _ h => h.elim) ?_
          clear hk2 hs2 hb2 hB2 hB1 hs1 hb1 w2 w1
          refine ol_nil (to_k0 (fun _ _ h => h) (hK20 (_) _ _ ?_ sub_nil (sub_cons rfl (sub_cons rfl (sub_cons rfl (sub_cons rfl sub_nil)))) (subH_row rfl (by rfl) subH_nil) (subH_same rfl (subH_same rfl (subH_same rfl (subH_same rfl (subH_same rfl (subH_same rfl (subH_same rfl (subH_same rfl (subH_same rfl (subH_same rfl subH_nil))))))))))))
          try dsimp only
          first
          | exact hH.last (by omega) hA (by omega) (fun x hx => hg.out x hx) ⟨hg.so, hMr.2.trans hg.sa⟩
         ·refine wp_skip' (to_k0 (fun _ _ h => h) (hK20 (_) _ _ ?_ sub_nil (sub_cons rfl (sub_cons rfl (sub_cons rfl (sub_cons rfl sub_nil)))) (subH_row rfl (by rfl) subH_nil) (subH_same rfl (subH_same rfl (subH_same rfl (subH_same rfl (subH_same rfl (subH_same rfl (subH_same rfl (subH_same rfl (subH_same rfl (subH_same rfl subH_nil))))))))))))
          try dsimp only
          first
          | exact hH.last (by omega) hA (by omega) (fun _ _ => rfl) (Blks.rest hK hdv hA (by omega) hH.un)
        ·rintro G2 ⟨hL1, hL2⟩
         refine wp_reg ?_
         refine ol_r (r_move rfl) rfl ?_
         refine ol_r (r_mulT (2 * u) rfl rfl (by omega) (by omega)) rfl ?_
         refine ol_r (r_assign rfl) rfl ?_
         refine ol_nil (to_k0 (fun _ _ h => h) (hK10 ((2 * u, _)) _ _ ?_ ?_ (sub_cons rfl sub_nil) (sub_cons rfl (sub_cons rfl (sub_cons rfl sub_nil))) (by exact (subH_row rfl (by rfl) subH_nil)) (subH_same rfl (subH_same rfl (subH_same rfl (subH_same rfl (subH_same rfl (subH_same rfl (subH_same rfl (subH_same rfl (subH_same rfl (subH_same rfl subH_nil))))))))))))
         ·try dsimp only
          exact ⟨by omega, by omega, hL1, hL2⟩
         ·try dsimp only
          omega
     ·refine wp_exit' (hQ.fall rvs0 (fun _ _ h => h) fun w hb hs hB hkd => ?_)
      exact ⟨_, rfl, hb, hs.sub (subH_same rfl (subH_same rfl (subH_same rfl (subH_same rfl (subH_same rfl (subH_same rfl (subH_same rfl (subH_same rfl (subH_same rfl (subH_same rfl (subH_same rfl subH_nil))))))))))), hB, hkd, hK.whole (by omega), hS⟩

theorem sortStable_w (cf : Int → Int → Int) (Good : Int → Prop) (B : Nat) (cb : Nat) (a : Option Addr) (n c : Nat) (e1 e2 e3 e4 e5 e6 e7 e8 e9 e10 : Ent) (hw : Swo (ltC cf)) (hn : n ≤ 1000000) (hcmp : ∀ (w1 : World) (x y : Int), Good x → Good y → Sat B w1 [(5001, e1), (5002, e2)] → B ≤ w1.heap.size → Calls Try.prog 103 #[.int .i64 x, .int .i64 y, .pointer (some ⟨cb, 0, none⟩)] w1 fun e w' => e = .returned (.int .i64 (cf x y)) ∧ Below w1.heap.size w1 w') (f : Nat → Int) (w : World) (hB : B ≤ w.heap.size) (hu : ∀ x y, x < y → y < n → f x < f y) (hG : ∀ i, i < n → Good (f i)) (hs : Sat B w [(5000, .row a n c (encI.enc (tab n f)) 3 1), (5001, e1), (5002, e2), (5003, e3), (5004, e4), (5005, e5), (5006, e6), (5007, e7), (5008, e8), (5009, e9), (5010, e10)]) :
    Calls Try.prog 102 #[.slice a n c, .func (.func 103) #[] #[.pointer (some ⟨cb, 0, none⟩)]] w fun e w' => ∃ g, e = .returned (.tuple #[]) ∧ Below B w w' ∧ Sat B w' [(5000, .row a n c (encI.enc (tab n g)) 3 1), (5001, e1), (5002, e2), (5003, e3), (5004, e4), (5005, e5), (5006, e6), (5007, e7), (5008, e8), (5009, e9), (5010, e10)] ∧ B ≤ w'.heap.size ∧ Kd (fun _ => False) w w' ∧ SoR (ltC cf) g 0 n ∧ SaS f g 0 n := by

  refine enterQ (N := 9) (C := fun _ => False) (H := [(5000, .row a n c (encI.enc (tab n f)) 3 1), (5001, e1), (5002, e2), (5003, e3), (5004, e4), (5005, e5), (5006, e6), (5007, e7), (5008, e8), (5009, e9), (5010, e10)]) (B := B) (args := [_, _]) Try.func102 rfl rfl rfl (hB) (hs) fun Q hQ => ?_
  refine wp_reg ?_
  refine ol_r (r_move rfl) rfl ?_
  refine ol_r (r_move rfl) rfl ?_
  refine ol_r (r_len rfl sl61) rfl ?_
  refine ol_r (r_move rfl) rfl ?_
  refine ol_call rfl rfl cb133 rfl (fun w1 hb1 hs1 hB1 => ?_)
  refine Calls.mono (stable_w cf Good B cb a n c e1 e2 e3 e4 e5 e6 e7 e8 e9 e10 hw hn hcmp f _ hB1 hu hG (hs1.sub (subH_same rfl (subH_same rfl (subH_same rfl (subH_same rfl (subH_same rfl (subH_same rfl (subH_same rfl (subH_same rfl (subH_same rfl (subH_same rfl (subH_same rfl subH_nil))))))))))))) ?_
  rintro e w2 ⟨g, rfl, hb2, hs2, hB2, hk2, hg⟩
  refine After.sat rfl hb1 hb2 hs2 hB2 (hk2.imp fun _ h => h.elim) ?_
  clear hk2 hs2 hb2 hB2 hB1 hs1 hb1 w2 w1
  refine ol_nil (hQ.fall rvs0 (fun _ _ h => h) fun w hb hs hB hkd => ?_)
  exact ⟨_, rfl, hb, hs.sub (subH_same rfl (subH_same rfl (subH_same rfl (subH_same rfl (subH_same rfl (subH_same rfl (subH_same rfl (subH_same rfl (subH_same rfl (subH_same rfl (subH_same rfl subH_nil))))))))))), hB, hkd, hg⟩

end Go.Proofs.Ytfbmkepogcimlaa

/-
  Numbers of any kind: sums, products, quotients, masks and shifts whose value is told.
-/



namespace Go.Proofs.Ytfbmkepogcimlaa
namespace Hx
open Go Go.RowKit
set_option linter.unusedVariables false
set_option linter.unusedSimpArgs false
section
variable {P : Program} {N : Fr} {B : Nat} {w0 : World} {al : AL} {H : HL} {ty : TypeId} {x y : Operand} {t t' : TypeId} {m n : Int} {k : IntKind}
theorem r_addg (v : Int) (hx : ev al x = some (.int k m)) (hy : ev al y = some (.int k n)) (hw : k.wrap (m + n) = v) : Runs P N B w0 (.binOp .add t x y t') ty al H (.int k v) := fun a w hst => by
  simp [execOp, hst.regs.eval hx, hst.regs.eval hy, eqGuard_add, binOp_add, Op.intArith, hw]
theorem r_subg (v : Int) (hx : ev al x = some (.int k m)) (hy : ev al y = some (.int k n)) (hw : k.wrap (m - n) = v) : Runs P N B w0 (.binOp .sub t x y t') ty al H (.int k v) := fun a w hst => by
  simp [execOp, hst.regs.eval hx, hst.regs.eval hy, eqGuard_sub, binOp_sub, Op.intArith, hw]
theorem r_mulg (v : Int) (hx : ev al x = some (.int k m)) (hy : ev al y = some (.int k n)) (hw : k.wrap (m * n) = v) : Runs P N B w0 (.binOp .mul t x y t') ty al H (.int k v) := fun a w hst => by
  simp [execOp, hst.regs.eval hx, hst.regs.eval hy, eqGuard_mul, binOp_mul, Op.intArith, hw]
theorem r_negg (v : Int) (hx : ev al x = some (.int k m)) (hw : k.wrap (-m) = v) : Runs P N B w0 (.unOp .neg t x) ty al H (.int k v) := fun a w hst => by
  simp [execOp, hst.regs.eval hx, Op.unary, Op.intArith, hw]
theorem r_quog (hx : ev al x = some (.int k m)) (hy : ev al y = some (.int k n)) (h0 : 0 ≤ m) (h1 : 0 < n) (hw : k.wrap (m / n) = m / n) : Runs P N B w0 (.binOp .quo t x y t') ty al H (.int k (m / n)) := fun a w hst => by
  have h3 : m.tdiv n = m / n := Int.tdiv_eq_ediv_of_nonneg h0
  simp [execOp, hst.regs.eval hx, hst.regs.eval hy, eqGuard_quo, binOp_quo, Op.intDiv, show n ≠ 0 by omega, h3, hw]
theorem r_remg (hx : ev al x = some (.int k m)) (hy : ev al y = some (.int k n)) (h0 : 0 ≤ m) (h1 : 0 < n) (hw : k.wrap (m % n) = m % n) : Runs P N B w0 (.binOp .rem t x y t') ty al H (.int k (m % n)) := fun a w hst => by
  have h3 : m.tmod n = m % n := Int.tmod_eq_emod_of_nonneg h0
  simp [execOp, hst.regs.eval hx, hst.regs.eval hy, eqGuard_rem, binOp_rem, Op.intDiv, show n ≠ 0 by omega, h3, hw]
theorem mask32 {m : Int} (h0 : 0 ≤ m) (h1 : m < 18446744073709551616) : bits .and .u64 m 4294967295 = m % 4294967296 := by
  obtain ⟨a, rfl⟩ := Int.eq_ofNat_of_zero_le h0
  have h := bits_and_u64_nat a 4294967295 (by omega) (by omega)
  have e : a &&& 4294967295 = a % 4294967296 := Nat.and_two_pow_sub_one_eq_mod a 32
  rw [e] at h
  exact h
theorem r_and32 (v : Int) (hx : ev al x = some (.int .u64 m)) (hy : ev al y = some (.int .u64 4294967295)) (h0 : 0 ≤ m) (h1 : m < 18446744073709551616) (hv : m % 4294967296 = v) : Runs P N B w0 (.binOp .and t x y t') ty al H (.int .u64 v) := fun a w hst => by
  simp only [execOp, hst.regs.eval hx, hst.regs.eval hy, eqGuard_and, binOp_and, intBits_and, mask32 h0 h1, hv, Sem.run_bind, Sem.run_pure, Result.andThen_ok]
theorem r_shr32 (v : Int) (hx : ev al x = some (.int .u64 m)) (hy : ev al y = some (.int .u64 32)) (h0 : 0 ≤ m) (hv : m / 4294967296 = v) : Runs P N B w0 (.binOp .shr t x y t') ty al H (.int .u64 v) := fun a w hst => by
  have h2 : m.fdiv (2 ^ 32) = m / 4294967296 := Int.fdiv_eq_ediv_of_nonneg m (by decide)
  simp [execOp, hst.regs.eval hx, hst.regs.eval hy, binOp_shr, Op.shift, eqGuard_shr]
  have h3 : min 32 IntKind.u64.bits = 32 := rfl
  rw [h3, h2, hv]
theorem r_convg {src dst : TypeId} {k1 k2 : IntKind} (v : Int) (hx : ev al x = some (.int k1 m)) (hs : (P.underlying src).isSome = true) (hd : P.underlying dst = some (.int k2)) (hw : k2.wrap m = v) :
    Runs P N B w0 (.convert src dst x) ty al H (.int k2 v) := fun a w hst => by
  obtain ⟨d1, h1⟩ := Option.isSome_iff_exists.1 hs
  simp only [execOp, hst.regs.eval hx, convert, Sem.run_bind, run_underlying h1, run_underlying hd, Result.andThen_ok, Conv.intToInt, Sem.run_pure]
  cases d1 <;> simp [hw]
theorem wrapu_neg {m : Int} (h : -9223372036854775808 ≤ m ∧ m < 0) : IntKind.u64.wrap m = m + 18446744073709551616 := by rw [IntKind.wrap_u64]; omega
theorem wrapu_negneg {m : Int} (h : -9223372036854775808 ≤ m ∧ m < 0) : IntKind.u64.wrap (-(m + 18446744073709551616)) = -m := by rw [IntKind.wrap_u64]; omega
end
/-- A literal of some elements of any size. -/
theorem ol_bsG {P : Program} {N : Fr} {B : Nat} {w0 : World} {al : AL} {H : HL} {ops rest : List Oper} {Q : Exit → Act → World → Prop} {ty : TypeId} {pos : String} {after : Array Edge} {d : Nat} {t e : TypeId} {bytes len size : Nat} {parts : List (Nat × Operand)} {pv : List (Nat × Value)} (cs : List Value) (id : Nat) (hp : evp al parts = some pv) (hT : RowT P t e size bytes) (hl : Nat.beq cs.length (len * size) = true) (hsm : Nat.ble len 9223372036854775807 = true)
    (hrun : ∀ w, (Instr.buildSlice t len pv.toArray).run P w = .ok (.slice (some ⟨w.heap.size, 0, none⟩) len len) (w.alloc (.cells cs.toArray e))) (hd : Nat.blt d N.n = true)
    (k : ∀ a', OL P N B w0 ops rest Q ((d, .slice a' len len) :: al) ((id, .row a' len len cs e size) :: H)) :
    OL P N B w0 ops ({ dst := some d, op := .buildSlice t len parts.toArray, type := ty, pos, after, guard := none } :: rest) Q al H := by
  intro a w hst
  refine wpList_plain rfl fun K hK => ?_
  have hl' : cs.length = len * size := Nat.eq_of_beq_eq_true hl
  have hsm' : len ≤ 9223372036854775807 := by simpa using hsm
  have hev := evp_eval hst.regs hp
  have hrun' : (execOp a.eval { dst := some d, op := .buildSlice t len parts.toArray, type := ty, pos, after, guard := none }).run P w = .ok (.value (.slice (some ⟨w.heap.size, 0, none⟩) len len)) (w.alloc (.cells cs.toArray e)) := by
    simp only [execOp, List.map_toArray, hev, Sem.run_bind, hrun w, Result.andThen_ok, Sem.run_pure]
  unfold Oper.wp
  rw [hrun', Oper.upon_value]
  refine hK _ _ (k _ _ _ (hst.step (hst.regs.put (by simpa using hd) _) (hst.below.alloc hst.base _) ?_ (by have := hst.base; simp; omega) (Kd.alloc w _)))
  refine hst.sat.new id (e := .row (some ⟨w.heap.size, 0, none⟩) len len cs e size) ?_ (fun k hk => Below.heap_alloc w _ k hk) (fun b hb => by simp [Ent.own] at hb; omega)
  exact ⟨by simp [hl'], .inr ⟨w.heap.size, len, cs.toArray, rfl, hst.base, heap_alloc_new w _, Nat.le_refl _, by unfold maxLen; omega, by simp [hl'], by rw [List.take_of_length_le (by simp [hl'])]⟩⟩
end Hx
end Go.Proofs.Ytfbmkepogcimlaa

/-
  Numbers of 64 bits without a sign, as naturals.
-/


namespace Go.Proofs.Ytfbmkepogcimlaa
namespace Hx
open Go Go.RowKit
set_option linter.unusedVariables false
set_option linter.unusedSimpArgs false
theorem wrapN {n : Nat} (h : n < 18446744073709551616) : IntKind.u64.wrap (n : Int) = n := by rw [IntKind.wrap_u64]; omega
section
variable {P : Program} {N : Fr} {B : Nat} {w0 : World} {al : AL} {H : HL} {ty : TypeId} {x y : Operand} {t t' : TypeId} {a b : Nat} {k : IntKind}
theorem r_addN (hx : ev al x = some (.int .u64 (a : Int))) (hy : ev al y = some (.int .u64 (b : Int))) (h : a + b < 18446744073709551616) : Runs P N B w0 (.binOp .add t x y t') ty al H (.int .u64 ((a + b : Nat) : Int)) :=
  r_addg _ hx hy (by rw [← Int.natCast_add]; exact wrapN h)
theorem r_mulN (hx : ev al x = some (.int .u64 (a : Int))) (hy : ev al y = some (.int .u64 (b : Int))) (h : a * b < 18446744073709551616) : Runs P N B w0 (.binOp .mul t x y t') ty al H (.int .u64 ((a * b : Nat) : Int)) :=
  r_mulg _ hx hy (by rw [← Int.natCast_mul]; exact wrapN h)
theorem r_subN (hx : ev al x = some (.int .u64 (a : Int))) (hy : ev al y = some (.int .u64 (b : Int))) (h : b ≤ a) (h2 : a < 18446744073709551616) : Runs P N B w0 (.binOp .sub t x y t') ty al H (.int .u64 ((a - b : Nat) : Int)) :=
  r_subg _ hx hy (by rw [← Int.ofNat_sub h]; exact wrapN (by omega))
theorem r_quoN (hx : ev al x = some (.int .u64 (a : Int))) (hy : ev al y = some (.int .u64 (b : Int))) (h : 0 < b) (h2 : a < 18446744073709551616) : Runs P N B w0 (.binOp .quo t x y t') ty al H (.int .u64 ((a / b : Nat) : Int)) := by
  have h3 : a / b ≤ a := Nat.div_le_self _ _
  exact r_quog hx hy (Int.natCast_nonneg _) (by omega) (by rw [← Int.natCast_ediv]; exact wrapN (by omega))
theorem r_remN (hx : ev al x = some (.int .u64 (a : Int))) (hy : ev al y = some (.int .u64 (b : Int))) (h : 0 < b) (h2 : a < 18446744073709551616) : Runs P N B w0 (.binOp .rem t x y t') ty al H (.int .u64 ((a % b : Nat) : Int)) := by
  have h3 : a % b ≤ a := Nat.mod_le _ _
  exact r_remg hx hy (Int.natCast_nonneg _) (by omega) (by rw [← Int.natCast_emod]; exact wrapN (by omega))
theorem r_and32N (hx : ev al x = some (.int .u64 (a : Int))) (hy : ev al y = some (.int .u64 4294967295)) (h : a < 18446744073709551616) : Runs P N B w0 (.binOp .and t x y t') ty al H (.int .u64 ((a % 4294967296 : Nat) : Int)) :=
  r_and32 _ hx hy (Int.natCast_nonneg _) (by omega) (by omega)
theorem r_shr32N (hx : ev al x = some (.int .u64 (a : Int))) (hy : ev al y = some (.int .u64 32)) : Runs P N B w0 (.binOp .shr t x y t') ty al H (.int .u64 ((a / 4294967296 : Nat) : Int)) :=
  r_shr32 _ hx hy (Int.natCast_nonneg _) (by omega)
theorem r_shrN (s : Nat) {n : Int} (hx : ev al x = some (.int .u64 (a : Int))) (hy : ev al y = some (.int k n)) (hn : n = s) (hs : s ≤ 64) : Runs P N B w0 (.binOp .shr t x y t') ty al H (.int .u64 ((a / 2 ^ s : Nat) : Int)) := fun ac w hst => by
  subst hn
  have h2 : (a : Int).fdiv (2 ^ s) = ((a / 2 ^ s : Nat) : Int) := by
    rw [Int.fdiv_eq_ediv_of_nonneg _ (Int.pow_nonneg (by decide)), Int.natCast_ediv, Int.natCast_pow]; rfl
  have h3 : min s IntKind.u64.bits = s := Nat.min_eq_left hs
  have h4 : ¬((s : Int) < 0) := by omega
  simp only [execOp, hst.regs.eval hx, hst.regs.eval hy, binOp_shr, Op.shift, eqGuard_shr, if_neg h4, Int.toNat_natCast, h3, h2, Sem.run_bind, Sem.run_pure, Result.andThen_ok]
theorem r_shlN (s : Nat) {n : Int} (hx : ev al x = some (.int .u64 (a : Int))) (hy : ev al y = some (.int k n)) (hn : n = s) (hs : s ≤ 64) (v : Nat) (hv : a * 2 ^ s % 18446744073709551616 = v) : Runs P N B w0 (.binOp .shl t x y t') ty al H (.int .u64 (v : Int)) := fun ac w hst => by
  subst hn
  have h2 : IntKind.u64.wrap ((a : Int) * 2 ^ s) = (v : Int) := by
    rw [IntKind.wrap_u64, ← hv, Int.natCast_emod, Int.natCast_mul, Int.natCast_pow]; rfl
  have h3 : min s IntKind.u64.bits = s := Nat.min_eq_left hs
  have h4 : ¬((s : Int) < 0) := by omega
  simp only [execOp, hst.regs.eval hx, hst.regs.eval hy, binOp_shl, Op.shift, eqGuard_shl, if_neg h4, Int.toNat_natCast, h3, h2, Sem.run_bind, Sem.run_pure, Result.andThen_ok]
theorem r_orN (s c : Nat) (hx : ev al x = some (.int .u64 (a : Int))) (hy : ev al y = some (.int .u64 (b : Int))) (ha : a = c * 2 ^ s) (hb : b < 2 ^ s) (h1 : a < 18446744073709551616) (h2 : b < 18446744073709551616) : Runs P N B w0 (.binOp .or t x y t') ty al H (.int .u64 ((a + b : Nat) : Int)) := fun ac w hst => by
  have h3 : bits .or .u64 (a : Int) (b : Int) = ((a + b : Nat) : Int) := by
    rw [bits_or_u64_nat a b h1 h2, ha, Nat.mul_comm, Nat.two_pow_add_eq_or_of_lt hb]
  simp only [execOp, hst.regs.eval hx, hst.regs.eval hy, eqGuard_or, binOp_or, intBits_or, h3, Sem.run_bind, Sem.run_pure, Result.andThen_ok]
theorem r_convN {src dst : TypeId} {k1 k2 : IntKind} (hx : ev al x = some (.int k1 (a : Int))) (hs : (P.underlying src).isSome = true) (hd : P.underlying dst = some (.int k2)) (hw : k2.wrap (a : Int) = a) :
    Runs P N B w0 (.convert src dst x) ty al H (.int k2 (a : Int)) := r_convg _ hx hs hd hw
end
end Hx
end Go.Proofs.Ytfbmkepogcimlaa

/-
  The quotient of a number of two words, by digits of 32 bits. No program stands here.
-/

namespace Go.Proofs.Ytfbmkepogcimlaa
set_option linter.unusedVariables false
/-- The quotient of one step. -/
def digQ (u d Y : Nat) : Nat := (u * 4294967296 + d) / Y
theorem dig_split (Y : Nat) : Y = Y / 4294967296 * 4294967296 + Y % 4294967296 := by omega
theorem dig_start {u d Y : Nat} (hY : 9223372036854775808 ≤ Y) (hY2 : Y < 18446744073709551616) (hu : u < Y) (hd : d < 4294967296) :
    u / (Y / 4294967296) * (Y / 4294967296) + u % (Y / 4294967296) = u ∧ digQ u d Y ≤ u / (Y / 4294967296) ∧ u / (Y / 4294967296) ≤ 4294967297 ∧ u % (Y / 4294967296) < Y / 4294967296 := by
  have hs := dig_split Y
  have hb : Y % 4294967296 < 4294967296 := Nat.mod_lt _ (by omega)
  have ha : 2147483648 ≤ Y / 4294967296 := by omega
  generalize Y / 4294967296 = a at *
  generalize Y % 4294967296 = b at *
  have h1 := Nat.div_add_mod u a
  have h2 := Nat.mod_lt u (show a > 0 by omega)
  rw [Nat.mul_comm] at h1
  refine ⟨h1, ?_, ?_, h2⟩
  · refine Nat.le_of_lt_succ ((Nat.div_lt_iff_lt_mul (by omega)).2 ?_)
    have e : (u / a + 1) * a = u / a * a + a := by rw [Nat.add_mul, Nat.one_mul]
    have h3 : u + 1 ≤ (u / a + 1) * a := by omega
    have h4 := Nat.mul_le_mul_right 4294967296 h3
    have h5 : (u / a + 1) * a * 4294967296 ≤ (u / a + 1) * Y := by
      rw [Nat.mul_assoc]; exact Nat.mul_le_mul_left (u / a + 1) (hs ▸ Nat.le_add_right _ _ : a * 4294967296 ≤ Y)
    rw [Nat.succ_eq_add_one]
    omega
  · refine Nat.le_of_lt_succ ((Nat.div_lt_iff_lt_mul (by omega)).2 ?_)
    rw [Nat.succ_eq_add_one]
    omega
theorem dig_mul (q Y : Nat) : q * Y = q * (Y / 4294967296) * 4294967296 + q * (Y % 4294967296) := by
  rw [Nat.mul_assoc, ← Nat.mul_add, ← dig_split]
theorem dig_dec {u d Y q r : Nat} (hY : 0 < Y) (hu : u < Y) (hd : d < 4294967296) (hs : q * (Y / 4294967296) + r = u) (ht : 4294967296 ≤ q ∨ 4294967296 * r + d < q * (Y % 4294967296)) : digQ u d Y < q := by
  refine (Nat.div_lt_iff_lt_mul hY).2 ?_
  rcases ht with h | h
  · have h1 := Nat.mul_le_mul_right Y h
    omega
  · rw [dig_mul q Y]
    generalize q * (Y / 4294967296) = x at *
    generalize q * (Y % 4294967296) = z at *
    omega
theorem dig_le {u d Y q r : Nat} (hY : 0 < Y) (hs : q * (Y / 4294967296) + r = u) (ht : q * (Y % 4294967296) ≤ 4294967296 * r + d) : q ≤ digQ u d Y := by
  refine (Nat.le_div_iff_mul_le hY).2 ?_
  rw [dig_mul q Y]
  generalize q * (Y / 4294967296) = x at *
  generalize q * (Y % 4294967296) = z at *
  omega
theorem dig_brk {Y q r d : Nat} (hq : q ≤ 4294967296) (hr : 4294967296 ≤ r) : q * (Y % 4294967296) ≤ 4294967296 * r + d := by
  have h1 : q * (Y % 4294967296) ≤ 4294967296 * 4294967296 := Nat.mul_le_mul hq (by omega)
  omega
theorem dig_low {q Y : Nat} (hq : q ≤ 4294967297) : q * (Y % 4294967296) ≤ 18446744073709551615 := by
  have h1 : q * (Y % 4294967296) ≤ 4294967297 * 4294967295 := Nat.mul_le_mul hq (by omega)
  omega
theorem dig_rest (u d Y : Nat) : digQ u d Y * Y + (u * 4294967296 + d) % Y = u * 4294967296 + d := by
  unfold digQ; exact Nat.div_add_mod' _ _
theorem digQ_lt {u d Y : Nat} (hu : u < Y) (hd : d < 4294967296) : digQ u d Y < 4294967296 := by
  refine (Nat.div_lt_iff_lt_mul (by omega)).2 ?_
  have h1 := Nat.mul_le_mul_right 4294967296 (show u + 1 ≤ Y from hu)
  rw [Nat.add_mul] at h1
  rw [Nat.mul_comm 4294967296 Y]
  omega
theorem div_two {hi lo y s : Nat} (hy : 0 < y) (hs : s ≤ 64) (hlo : lo < 18446744073709551616) :
    ∀ u, u = hi * 2 ^ s + lo / 2 ^ (64 - s) → ∀ t, t = lo * 2 ^ s % 18446744073709551616 → ∀ v, v = (u * 4294967296 + t / 4294967296) % (y * 2 ^ s) →
    digQ u (t / 4294967296) (y * 2 ^ s) * 4294967296 + digQ v (t % 4294967296) (y * 2 ^ s) = (hi * 18446744073709551616 + lo) / y ∧
    (v * 4294967296 + t % 4294967296) % (y * 2 ^ s) / 2 ^ s = (hi * 18446744073709551616 + lo) % y := by
  intro u hu t ht v hv
  have h2 : 0 < 2 ^ s := Nat.pow_pos (by omega)
  have hM : 2 ^ s * 2 ^ (64 - s) = 18446744073709551616 := by rw [← Nat.pow_add, Nat.add_sub_cancel' hs]
  have hut : u * 18446744073709551616 + t = (hi * 18446744073709551616 + lo) * 2 ^ s := by
    have e1 : lo / 2 ^ (64 - s) = lo * 2 ^ s / 18446744073709551616 := by
      rw [← hM, Nat.mul_comm (2 ^ s), Nat.mul_div_mul_right _ _ h2]
    have e2 := Nat.div_add_mod (lo * 2 ^ s) 18446744073709551616
    rw [hu, ht, e1, Nat.add_mul, Nat.add_mul, Nat.mul_right_comm]
    omega
  have e3 := dig_rest u (t / 4294967296) (y * 2 ^ s)
  rw [← hv] at e3
  have hall : (hi * 18446744073709551616 + lo) * 2 ^ s = (v * 4294967296 + t % 4294967296) + digQ u (t / 4294967296) (y * 2 ^ s) * 4294967296 * (y * 2 ^ s) := by
    rw [← hut, Nat.mul_right_comm (digQ _ _ _)]
    generalize digQ u (t / 4294967296) (y * 2 ^ s) * (y * 2 ^ s) = z at *
    omega
  have hY : 0 < y * 2 ^ s := Nat.mul_pos hy h2
  constructor
  · have h5 : (hi * 18446744073709551616 + lo) / y = (hi * 18446744073709551616 + lo) * 2 ^ s / (y * 2 ^ s) := (Nat.mul_div_mul_right _ _ h2).symm
    rw [h5, hall, Nat.add_mul_div_right _ _ hY, Nat.add_comm]
    rfl
  · have h6 : (v * 4294967296 + t % 4294967296) % (y * 2 ^ s) = (hi * 18446744073709551616 + lo) % y * 2 ^ s := by
      rw [← Nat.mul_mod_mul_right, hall, Nat.add_mul_mod_self_right]
    rw [h6, Nat.mul_div_cancel _ h2]
end Go.Proofs.Ytfbmkepogcimlaa
